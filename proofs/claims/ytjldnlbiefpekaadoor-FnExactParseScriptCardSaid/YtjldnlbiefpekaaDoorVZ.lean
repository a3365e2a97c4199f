/-
  Running the program over pure contents, and that it follows (part Z). Nothing here is a claim.
-/
import Derived.Test.YtjldnlbiefpekaaDoorV4
set_option linter.unusedSimpArgs false
namespace Go.Proofs.YtjldnlbiefpekaaDoor
open Go.RowKit
set_option linter.unusedVariables false
section
variable {P:Program} {w w':World} {w0:Wd} {B N:Nat} {lab af:aH} {ρ ρ':Nat->Loc} {σ:S} {a:Act} {X:Type} {d e:Nat} {r:X} {o:Oper} {Φ:cc} {x:ax} {u:A}
def cN(e:Nat)(σ:S):Prop:=σ.drop e=σ
theorem cN.t_(h:cN e σ)(k:Nat):(σ.t k).drop e=σ.t k:=congrFun (congrArg S.t h) k
theorem cN.m_(h:cN e σ)(r:Nat):(bif Nat.beq r e then none else (σ.m r).map (ax.drop e))=σ.m r:=congrFun (congrArg S.m h) r
theorem cN.kN(h:cN e σ)(y:Operand):(ah σ y).drop e=ah σ y:=by
 cases y with
 | tmp t=>exact h.t_ t
 | const v=>
  show (wm v).drop e=wm v
  unfold wm
  split <;>rfl
 | global g=>rfl
 | func f=>rfl
def jD(e n:Nat):Bool:=Nat.beq n e
theorem Dw(e:Nat):jD e e=true:=Nat.beq_refl e
theorem Ik{k:List Nat}(h:aE e k=false):ct (jD e) k=true:=by
 unfold ct
 unfold aE at h
 split
 ·rename_i r hr
  rw[hr]at h
  unfold jD
  cases U:Nat.beq r e with
  | false=>rfl
  | true=>
   have:=Nat.eq_of_beq_eq_true U
   subst this
   simp at h
 ·rfl
theorem Lf.xb{l:Lf}(h:l.drop e=l):l.nr (jD e)=true:=by
 cases l with
 | own k=>
  have h:(bif aE e k then Lf.dead else .own k) = .own k:=h
  cases hl:aE e k with
  | true=>rw[hl]at h;cases h
  | false=>exact Ik hl
 | v z=>rfl
 | dead=>rfl
theorem dX.of_map{cs:List Lf}(h:cs.map (Lf.drop e)=cs):∀ c∈cs,c.drop e=c:=by
 induction cs with
 | nil=>intro c hc;cases hc
 | cons c cs ih=>
  rw[List.map_cons]at h
  injection h with h1 h2
  intro c' hc
  rcases List.mem_cons.1 hc with rfl | hc
  ·exact h1
  ·exact ih h2 c' hc
theorem dX.NI{cs:List Lf}(h:∀ c∈cs,c.drop e=c):cs.map (Lf.drop e)=cs:=by
 rw[List.map_congr_left h,List.map_id']
theorem A.xb{y:A}(h:y.drop e=y):y.nr (jD e)=true:=by
 cases y with
 | lf l=>injection h with h;exact Lf.xb h
 | agg cs=>
  injection h with h
  exact List.all_eq_true.2 fun c hc=>Lf.xb (dX.of_map h c hc)
 | aU xs=>
  injection h with h
  refine List.all_eq_true.2 fun q hq=>List.all_eq_true.2 fun c hc=>Lf.xb ?_
  have h2:∀ q∈xs,(q.1,q.2.map (Lf.drop e))=q:=by
   clear hq
   induction xs with
   | nil=>intro q hq;cases hq
   | cons z zs ih=>
    rw[List.map_cons]at h
    injection h with h1 h2
    intro q hq
    rcases List.mem_cons.1 hq with rfl | hq
    ·exact h1
    ·exact ih h2 q hq
  exact dX.of_map (congrArg Prod.snd (h2 q hq)) c hc
 | ptr k=>
  have h:(bif aE e k then A.undef else .ptr k) = .ptr k:=h
  cases hl:aE e k with
  | true=>rw[hl]at h;cases h
  | false=>exact Ik hl
 | view k s i j=>
  have h:(bif aE e k then A.undef else .view k s i j) = .view k s i j:=h
  cases hl:aE e k with
  | true=>rw[hl]at h;cases h
  | false=>exact Ik hl
 | aF r j=>
  have h:(bif Nat.beq r e then A.undef else .aF r j) = .aF r j:=h
  cases hl:Nat.beq r e with
  | true=>rw[hl]at h;cases h
  | false=>show (!jD e r)=true;unfold jD;rw[hl];rfl
 | pk r j=>
  have h:(bif Nat.beq r e then A.undef else .pk r j) = .pk r j:=h
  cases hl:Nat.beq r e with
  | true=>rw[hl]at h;cases h
  | false=>show (!jD e r)=true;unfold jD;rw[hl];rfl
 | fn f cap=>
  have h:(bif cap.any (fun p=>Nat.beq p.1 e)then A.undef else .fn f cap) = .fn f cap:=h
  cases hl:cap.any (fun p=>Nat.beq p.1 e)with
  | true=>rw[hl]at h;cases h
  | false=>
   refine List.all_eq_true.2 fun q hq=>?_
   have:=List.any_eq_false.1 hl q hq
   show (!jD e q.1)=true
   unfold jD
   cases U:Nat.beq q.1 e with
   | false=>rfl
   | true=>exact absurd U this
 | _=>rfl
theorem Lf.ny(l:Lf):(l.drop e).drop e=l.drop e:=by
 cases l with
 | own k=>
  show Lf.drop e (bif aE e k then Lf.dead else .own k)=(bif aE e k then Lf.dead else .own k)
  cases hl:aE e k with
  | true=>rfl
  | false=>
   show (bif aE e k then Lf.dead else .own k)=_
   rw[hl,cond_false]
 | _=>rfl
theorem dX.ny(cs:List Lf):(cs.map (Lf.drop e)).map (Lf.drop e)=cs.map (Lf.drop e):=by
 rw[List.map_map]
 exact List.map_congr_left fun c _=>Lf.ny c
theorem A.ny(y:A):(y.drop e).drop e=y.drop e:=by
 cases y with
 | lf l=>exact congrArg A.lf (Lf.ny l)
 | agg cs=>exact congrArg A.agg (dX.ny cs)
 | aU xs=>
  show A.aU ((xs.map fun p=>(p.1,p.2.map (Lf.drop e))).map fun p=>(p.1,p.2.map (Lf.drop e)))=A.aU (xs.map fun p=>(p.1,p.2.map (Lf.drop e)))
  rw[List.map_map]
  refine congrArg A.aU (List.map_congr_left fun p _=>?_)
  exact congrArg (Prod.mk p.1) (dX.ny p.2)
 | ptr k=>
  show A.drop e (bif aE e k then A.undef else .ptr k)=(bif aE e k then A.undef else .ptr k)
  cases hl:aE e k with
  | true=>rfl
  | false=>show (bif aE e k then A.undef else .ptr k)=_;rw[hl,cond_false]
 | view k s i j=>
  show A.drop e (bif aE e k then A.undef else .view k s i j)=(bif aE e k then A.undef else .view k s i j)
  cases hl:aE e k with
  | true=>rfl
  | false=>show (bif aE e k then A.undef else .view k s i j)=_;rw[hl,cond_false]
 | aF r j=>
  show A.drop e (bif Nat.beq r e then A.undef else .aF r j)=(bif Nat.beq r e then A.undef else .aF r j)
  cases hl:Nat.beq r e with
  | true=>rfl
  | false=>show (bif Nat.beq r e then A.undef else .aF r j)=_;rw[hl,cond_false]
 | pk r j=>
  show A.drop e (bif Nat.beq r e then A.undef else .pk r j)=(bif Nat.beq r e then A.undef else .pk r j)
  cases hl:Nat.beq r e with
  | true=>rfl
  | false=>show (bif Nat.beq r e then A.undef else .pk r j)=_;rw[hl,cond_false]
 | fn f cap=>
  show A.drop e (bif cap.any (fun p=>Nat.beq p.1 e)then A.undef else .fn f cap)=(bif cap.any (fun p=>Nat.beq p.1 e)then A.undef else .fn f cap)
  cases hl:cap.any (fun p=>Nat.beq p.1 e)with
  | true=>rfl
  | false=>show (bif cap.any (fun p=>Nat.beq p.1 e)then A.undef else .fn f cap)=_;rw[hl,cond_false]
 | _=>rfl
theorem ax.ny(y:ax):(y.drop e).drop e=y.drop e:=by
 cases y with
 | blk cs=>exact congrArg ax.blk (dX.ny cs)
 | sl y=>rfl
 | mp l=>rfl
 | gh xs=>
  refine congrArg ax.gh ?_
  rw[List.map_map]
  exact List.map_congr_left fun x _=>A.ny x
theorem cN.drop(σ:S):cN e (σ.drop e):=by
 refine S.ext' (fun k=>A.ny _) fun n=>?_
 show (bif Nat.beq n e then none else ((bif Nat.beq n e then none else (σ.m n).map (ax.drop e))).map (ax.drop e))=(bif Nat.beq n e then none else (σ.m n).map (ax.drop e))
 cases Nat.beq n e with
 | true=>rfl
 | false=>
  simp only[cond_false]
  cases σ.m n with
  | none=>rfl
  | some y=>simp only[Option.map_some,ax.ny]
theorem cN.set(h:cN e σ){v:A}(hv:v.drop e=v)(d:Nat):cN e (σ.set d v):=by
 refine S.ext' (fun k=>?_) fun n=>h.m_ n
 show (aI σ.t d v k).drop e=aI σ.t d v k
 by_cases hk:k=d
 ·subst hk;rw[aK,hv]
 ·rw[aQ _ _ _ hk,h.t_]
theorem cN.put(h:cN e σ){v:A}(hv:v.drop e=v)(dst:Option Tmp):cN e (cX σ dst v):=by
 cases dst with
 | none=>exact h
 | some d=>exact h.set hv d
theorem cN.sl(h:cN e σ){c:Nat}(z:V)(hc:e≠c):cN e ((σ.drop c).root c (.sl z)):=by
 refine S.ext' (fun k=>?_) fun n=>?_
 ·show ((σ.t k).drop c).drop e=(σ.t k).drop c
  rw[A.jX,h.t_]
 ·show (bif Nat.beq n e then none else (((σ.drop c).root c (.sl z)).m n).map (ax.drop e))=((σ.drop c).root c (.sl z)).m n
  rw[HV]
  by_cases hn:n=c
  ·rw[if_pos hn,Dl (by rintro rfl;exact hc hn),cond_false];rfl
  ·rw[if_neg hn]
   have hm:=h.m_ n
   cases U:Nat.beq n e with
   | true=>
    rw[U,cond_true]at hm
    rw[<-hm];rfl
   | false=>
    rw[U,cond_false]at hm
    rw[cond_false]
    cases hz:σ.m n with
    | none=>rfl
    | some y=>
     rw[hz]at hm
     injection hm with hm
     simp only[Option.map_some]
     rw[ax.jX,hm]
theorem cN.dF(hc:e<d):∀ (xs:List V) (c:Nat) (σ:S),d<=c->cN e σ->cN e (dF c σ xs)
 | [],c,σ,_,h=>h
 | x :: xs,c,σ,hd,h=>by
  simp only[Go.Proofs.YtjldnlbiefpekaaDoor.dF]
  refine cN.dF hc xs (c+1) _ (by omega) ?_
  cases x.av with
  | true=>exact h
  | false=>exact h.sl x (by omega)
theorem cN.eW(hc:e<d):∀ (ps:List Pt) (c:Nat) (σ:S),d<=c->cN e σ->cN e (eW c σ ps)
 | [],c,σ,_,h=>h
 | q :: ps,c,σ,hd,h=>cN.eW hc ps _ _ (by omega) (cN.dF hc q.2 c σ hd h)
/-! Values. -/
theorem cN.XR(y:Operand):ah (σ.root e x) y=ah σ y:=by cases y <;>rfl
theorem cN.NJ{l:Lf}(hl:l.nr (jD e)=true)(k:V->Option X):eg (σ.root e x) l k=eg σ l k:=by
 cases l with
 | own q=>exact qj (Dw e) q k hl
 | v z=>rfl
 | dead=>rfl
theorem cN.val(h:cN e σ){op:Op}(cU:C4 op=true)(k:A->Option X):aZ P (σ.root e x) op k=aZ P σ op k:=by
 have ho:∀ y,ah (σ.root e x) y=ah σ y:=cN.XR
 have hn:∀ y,(ah σ y).nr (jD e)=true:=fun y=>A.xb (h.kN y)
 cases op with
 | move y=>simp only[aZ,ho]
 | assign y=>simp only[aZ,ho]
 | unOp f t y=>simp only[aZ,ho]
 | field s y f=>simp only[aZ,ho]
 | fieldAddr s y f=>simp only[aZ,ho]
 | index t y i=>simp only[aZ,ho]
 | load t y=>
  simp only[aZ,ho]
  have h1:=hn y
  generalize ah σ y=u at h1
  unfold eN
  split
  ·rfl
  ·split
   ·rename_i r j
    have hr:r≠e:=by
     rintro rfl
     have h1:(!jD r r)=true:=h1
     rw[Dw]at h1
     cases h1
    have:(σ.root e x).m r=σ.m r:=aQ _ _ _ hr
    rw[this]
   ·rfl
   ·rename_i j i s q
    have hk:ct (jD e) (j :: i :: s :: q)=true:=h1
    cases q with
    | nil=>rfl
    | cons q0 q=>
     refine qj (Dw e) _ _ ?_
     simpa [ct,List.getLast?_cons_cons]using hk
   ·rfl
 | binOp f t y z yt=>
  simp only[aZ,ho]
  refine C6 fun l hl k=>cN.NJ ?_ k
  have h1:=hn y
  rw[hl]at h1
  exact h1
 | call c=>
  obtain⟨callee,⟨args⟩,⟨bG⟩⟩:=c
  cases callee with
  | builtin b=>
   cases b <;>try (cases cU)
   match args,bG with
   | [y],[t]=>
    simp only[aZ,ho]
    have h1:=hn y
    generalize ah σ y=u at h1
    unfold ir
    split
    ·exact cN.NJ h1 _
    ·rfl
    ·rfl
   | [],_=>rfl
   | [_],[]=>rfl
   | [_],_ :: _ :: _=>rfl
   | _ :: _ :: _,_=>rfl
  | _=>cases cU
 | _=>cases cU
theorem Il{t:TypeId}{cs:List Lf}{v:A}(h:fN P t cs some=some v)(hc:∀ c∈cs,c.drop e=c):v.drop e=v:=by
 unfold fN at h
 split at h
 ·split at h
  ·split at h
   ·injection h with h;subst h;exact congrArg A.agg (dX.NI hc)
   ·split at h
    ·injection h with h;subst h;exact congrArg A.lf (hc _ (.head _))
    ·cases h
   ·cases h
  ·cases h
 ·cases h
theorem XS{op:BinOp}{t:TypeId}{y z:A}{v:A}(h:gu P σ op t y z some=some v):v.drop e=v:=by
 have fin:∀ (a b:A),(vK a fun a=>vK b fun b=>iq P t op a b fun z=>some (A.lf (.v z)))=some v->v.drop e=v:=by
  intro a b h
  obtain⟨_,h1,_⟩:=wK h
  obtain⟨_,h2,_⟩:=wK h1
  obtain⟨_,h3,_⟩:=Mr h2
  injection h3 with h3
  subst h3
  rfl
 unfold gu at h
 split at h
 ·split at h
  ·rename_i cs ds xs ys _ _
   cases U:(P.eqGuardType P.depth t || !isStr P t)with
   | true=>rw[U]at h;cases h
   | false=>
    rw[U,cond_false]at h
    split at h
    ·injection h with h;subst h;rfl
    ·cases h
  ·cases h
 ·split at h
  ·obtain⟨z,h1,hz⟩:=sF h
   clear hz
   split at h1
   ·injection h1 with h1;subst h1;rfl
   ·injection h1 with h1;subst h1;rfl
   ·rename_i l
    cases U:tG l with
    | true=>rw[U]at h1;cases h1
    | false=>rw[U]at h1;injection h1 with h1;subst h1;rfl
   ·cases h1
  ·cases h
 ·exact fin _ _ h
theorem cN.res(h:cN e σ){op:Op}(cU:C4 op=true){v:A}(hv:aZ P σ op some=some v):v.drop e=v:=by
 cases op with
 | move y=>simp only[aZ]at hv;injection hv with hv;subst hv;exact h.kN y
 | assign y=>simp only[aZ]at hv;injection hv with hv;subst hv;exact h.kN y
 | unOp f t y=>
  simp only[aZ]at hv
  obtain⟨_,h1,_⟩:=wK hv
  obtain⟨_,h2,_⟩:=Ms h1
  injection h2 with h2
  subst h2
  rfl
 | field s y f=>
  simp only[aZ]at hv
  have h1:=h.kN y
  generalize ah σ y=u at h1 hv
  unfold pH at hv
  split at hv
  ·rename_i fd cs _
   injection h1 with h1
   have hc:=dX.of_map h1
   split at hv
   ·split at hv
    ·injection hv with hv
     subst hv
     exact congrArg A.agg (dX.NI fun c hm=>hc c (List.mem_of_mem_drop (List.mem_of_mem_take hm)))
    ·cases hv
   ·split at hv
    ·rename_i z hz
     injection hv with hv
     subst hv
     exact congrArg A.lf (hc _ (List.mem_of_getElem? hz))
    ·cases hv
   ·cases hv
  ·cases hv
 | fieldAddr s y f=>
  simp only[aZ]at hv
  have h1:=h.kN y
  generalize ah σ y=u at h1 hv
  unfold mI at hv
  split at hv
  ·cases hv
  ·split at hv
   ·split at hv
    ·rename_i r j
     injection hv with hv
     subst hv
     have h1:(bif Nat.beq r e then A.undef else .aF r j) = .aF r j:=h1
     cases hl:Nat.beq r e with
     | true=>rw[hl]at h1;cases h1
     | false=>show (bif Nat.beq r e then A.undef else _)=_;rw[hl,cond_false]
    ·injection hv with hv;subst hv;rfl
    ·rename_i j i s' q
     injection hv with hv
     subst hv
     have h1:(bif aE e (j :: i :: s' :: q)then A.undef else .ptr (j :: i :: s' :: q)) = .ptr (j :: i :: s' :: q):=h1
     cases hl:aE e (j :: i :: s' :: q)with
     | true=>rw[hl]at h1;cases h1
     | false=>
      have ep:∀ j',aE e (j' :: i :: s' :: q)=false:=by
       intro j'
       unfold aE at hl ⊢
       simpa [List.getLast?_cons_cons]using hl
      show (bif aE e _ then A.undef else _)=_
      rw[ep,cond_false]
    ·cases hv
   ·cases hv
 | index t y i=>
  simp only[aZ]at hv
  unfold rW at hv
  split at hv
  ·split at hv
   ·split at hv
    ·injection hv with hv;subst hv;rfl
    ·cases hv
   ·cases hv
  ·cases hv
 | load t y=>
  simp only[aZ]at hv
  have h1:=h.kN y
  generalize ah σ y=u at h1 hv
  unfold eN at hv
  split at hv
  ·cases hv
  ·split at hv
   ·rename_i r j
    split at hv
    ·rename_i cs bZ
     have hm:=h.m_ r
     rw[bZ]at hm
     have hc:cs.map (Lf.drop e)=cs:=by
      cases U:Nat.beq r e with
      | true=>rw[U]at hm;cases hm
      | false=>
       rw[U]at hm
       injection hm with hm
       injection hm
     exact Il hv fun c hm=>dX.of_map hc c (List.mem_of_mem_drop (List.mem_of_mem_take hm))
    ·cases hv
   ·refine Il hv fun c hm=>?_
    obtain⟨z,_,rfl⟩:=List.mem_map.1 hm
    rfl
   ·rename_i j i s q
    obtain⟨y,h2,hg,_⟩:=mm _ _ hv
    have hq:∀ j',aE e (j' :: i :: s :: q)=false:=by
     have h1:(bif aE e (j :: i :: s :: q)then A.undef else .ptr (j :: i :: s :: q)) = .ptr (j :: i :: s :: q):=h1
     have hl:aE e (j :: i :: s :: q)=false:=by
      cases hl:aE e (j :: i :: s :: q)with
      | false=>rfl
      | true=>rw[hl]at h1;cases h1
     intro j'
     unfold aE at hl ⊢
     simpa [List.getLast?_cons_cons]using hl
    split at h2
    ·split at h2
     ·split at h2
      ·refine Il h2 fun c hm=>?_
       obtain⟨n,hn⟩:=List.getElem?_of_mem hm
       rw[F3]at hn
       obtain⟨z,_,rfl⟩:=Option.map_eq_some_iff.1 hn
       cases z.av with
       | true=>rfl
       | false=>
        show (bif aE e _ then Lf.dead else _)=_
        rw[hq]
        rfl
      ·cases h2
     ·cases h2
    ·cases h2
   ·cases hv
 | binOp f t y z yt=>exact XS (by simpa only [aZ]using hv)
 | call c=>
  obtain⟨callee,⟨args⟩,⟨bG⟩⟩:=c
  cases callee with
  | builtin b=>
   cases b <;>try (cases cU)
   match args,bG,hv with
   | [y],[t],hv=>
    simp only[aZ]at hv
    unfold ir at hv
    split at hv
    ·obtain⟨_,h1,_⟩:=sF hv
     split at h1
     ·split at h1
      ·injection h1 with h1;subst h1;rfl
      ·cases h1
     ·split at h1
      ·injection h1 with h1;subst h1;rfl
      ·cases h1
     ·split at h1
      ·injection h1 with h1;subst h1;rfl
      ·cases h1
     ·cases h1
    ·split at hv
     ·injection hv with hv;subst hv;rfl
     ·cases hv
    ·cases hv
   | [],_,hv=>cases hv
   | [_],[],hv=>cases hv
   | [_],_ :: _ :: _,hv=>cases hv
   | _ :: _ :: _,_,hv=>cases hv
  | _=>cases cU
 | _=>cases cU
theorem XT{op:Op}(h:C4 op=true):cV op=true:=by
 cases op with
 | call c=>
  obtain⟨callee,args,bG⟩:=c
  cases callee with
  | builtin b=>cases b <;>first | rfl | cases h
  | _=>cases h
 | _=>first | rfl | cases h
theorem XU[Inhabited Wd](aJ:dB P Φ){ops:Array Oper}{oj:Oper}{τ:S}(hx:jB x)(hu:iK e u)(he:e<20000)(U:HD Φ oj=true)(hl:e ∉ oj.looksAt ops)(hd:oj.dst≠some e)(h:cN e σ)
  (cr:bO P N Φ ops (aR e x u σ) oj some=some τ):∃ aa,bO P N Φ ops σ oj some=some aa/\τ=aR e x u aa/\cN e aa:=by
 have ld:aR e x u σ=(σ.root e x).set e u:=by
  unfold aR
  rw[show σ.drop e=σ from h]
 have aO:∀ y∈oj.op.operands,ah (aR e x u σ) y=ah (σ.root e x) y:=fun y hy=>by
  rw[ld];exact AJ hl u hy
 have hw:cW (aR e x u σ) ops oj=cW σ ops oj:=by
  rw[ld]
  exact(ql (Da (σ:=σ.root e x) hl u)).trans rfl
 unfold bO at cr ⊢
 rw[hw]at cr
 split at cr
 ·unfold HD at U
  rw[Bool.or_eq_true]at U
  rcases U with U | U
  ·have bD:∀ (k:A->Option S),aZ P (aR e x u σ) oj.op k=aZ P σ oj.op k:=fun k=>
    (wT (σ:=σ.root e x) (σ2:=aR e x u σ) oj.op (by rw[ld];rfl) aO k).trans (h.val U k)
   have aD:∀ σ2:S,bF P N Φ σ2 oj some=aZ P σ2 oj.op fun v=>eT N σ2 oj.dst v some:=by
    intro σ2
    unfold bF
    rw[XT U,cond_true]
   rw[aD,bD]at cr
   obtain⟨v,h1,AQ,_⟩:=wR (w0:=default) (N:=N) cr
   obtain⟨h2,h3⟩:=fT h1
   injection h2 with h2
   have hv:=h.res U (AQ.at_ (X:=A) some)
   refine⟨cX σ oj.dst v,?_,?_,h.put hv _⟩
   ·rw[aD]
    exact(AQ.at_ _).trans ((h3 σ).at_ _)
   ·rw[<-h2,HW hd hv]
  ·split at U
   ·rename_i f args bG ho
    split at U
    ·rename_i c hc
     have aD:∀ σ2,bF P N Φ σ2 oj some=cx oj fun d=>pO N σ2 d c args.toList some:=by
      intro σ2
      unfold bF
      rw[show cV oj.op=false by rw[ho];rfl,cond_false]
      simp only[ew,ho,hc]
     rw[aD]at cr
     obtain⟨d,dM,cr⟩:=dm cr
     have nu:d≠e:=by rintro rfl;exact hd dM
     obtain⟨res,dD,h1,h2,h3⟩:=wL (aJ f _ hc).2 cr
     injection h2 with h2
     subst h2
     have cR:∀ y∈args.toList,(ah σ y).nr (jD e)=true/\y ≠ .tmp e:=by
      intro y hy
      have cD:y∈oj.op.operands:=by
       rw[ho]
       simp only[Op.operands,Call.operands]
       simp only[Array.mem_append]
       first
        | exact .inr (by simpa using hy)
        | exact .inl (by simpa using hy)
      refine⟨A.xb (h.kN y),?_⟩
      rintro rfl
      exact hl (List.mem_append_left _ (List.mem_filterMap.2 ⟨.tmp e,by simpa using cD,rfl⟩))
     have NK:∀ (X:Type) (k:List Pt->Option X),fF σ args.toList k=fF (aR e x u σ) args.toList k:=fun X k=>(HZ (Dw e) _ k cR).symm
     unfold ot at h1 h3
     cases res with
     | one q=>
      simp only at h1 h3
      split at h1
      ·rename_i y hy
       injection h1 with h1
       refine⟨(dF (1000000000100000+1000*d) σ q.2).set d y,?_,?_,?_⟩
       ·rw[aD]
        unfold cx
        rw[dM]
        exact(h3 σ _ NK (by rw[hy])).at_ _
       ·rw[<-h1,wZ hx hu _ _ _ (by omega),sR nu (Dq hy (w4 _ _ (by omega)))]
       ·exact(cN.dF (d:=20000) he _ _ _ (by omega) h).set (Dq hy (w4 _ _ (by omega))) d
      ·cases h1
     | aU ps=>
      simp only at h1 h3
      injection h1 with h1
      refine⟨(eW (1000000000100000+1000*d) σ ps).set d (.aU (gv (1000000000100000+1000*d) ps)),?_,?_,?_⟩
      ·rw[aD]
       unfold cx
       rw[dM]
       exact(h3 σ _ NK rfl).at_ _
      ·rw[<-h1,Dm hx hu _ _ _ (by omega),sR nu (Dr _ _ (by omega))]
      ·exact(cN.eW (d:=20000) he _ _ _ (by omega) h).set (Dr _ _ (by omega)) d
    ·cases U
   ·cases U
 ·obtain⟨h2,h3⟩:=fT cr
  injection h2 with h2
  refine⟨cX σ oj.dst .skip,(h3 σ).at_ _,?_,h.put rfl _⟩
  rw[<-h2,HW hd rfl]
 ·cases cr
theorem Rl.Im(h:Rl w0 N lab ρ σ a w)(d:Nat):Rl w0 N lab ρ (σ.drop d) a w:=by
 refine⟨h.below,h.bh,fun r y hy=>?_,fun k=>(h.tmp k).b8 fun _ _=>rfl,h.size,h.defers,h.fix,h.cF⟩
 have hy:(bif Nat.beq r d then none else (σ.m r).map (ax.drop d))=some y:=hy
 cases U:Nat.beq r d with
 | true=>rw[U]at hy;cases hy
 | false=>
  rw[U,cond_false]at hy
  obtain⟨z,hz,rfl⟩:=Option.map_eq_some_iff.1 hy
  exact(h.root r z hz).b8 (fun _ _=>rfl) (by rintro rfl;simp at U)
theorem R.Im(h:R w0 N σ a w)(d:Nat):R w0 N (σ.drop d) a w:=by
 obtain⟨lab,ρ,h⟩:=h
 exact⟨lab,ρ,h.Im d⟩
theorem XV[Inhabited Wd](aJ:dB P Φ){ops:Array Oper}{k:S->Option X}(h:qi P N Φ ops σ k=some r):∃ Io,(∀ w0 a w,R w0 N σ a w->R w0 N Io a w)/\Any P N Φ ops (fun τ=>k τ=some r) ops.size 0 Io:=by
 unfold qi at h
 split at h
 ·rename_i i hf
  have hc:=List.find?_some hf
  have hi:=List.mem_range.1 (List.mem_of_find?_eq_some hf)
  split at h
  ·rename_i o ho
   split at h
   ·rename_i e he
    unfold early at hc
    rw[ho]at hc
    simp only[Bool.and_eq_true]at hc
    obtain⟨⟨⟨⟨⟨⟨_,c1⟩,c2⟩,c3⟩,c4⟩,c5⟩,c6⟩:=hc
    have nc:=Dt _ _ c6
    have c5:=Nat.eq_of_beq_eq_true c5
    have uB:∀ j,(waits ops i ops.size 0 0).testBit j=true->(0 ||| 2 ^ i).testBit j=false:=by
     intro j hj
     have:((0 ||| 2 ^ i) &&& waits ops i ops.size 0 0).testBit j=false:=by rw[c5];exact Nat.zero_testBit j
     rw[Nat.testBit_and,hj,Bool.and_true]at this
     exact this
    have hg:o.guard=none:=Option.isNone_iff_eq_none.1 c2
    have qp:∀ σ2,cW σ2 ops o=some true:=fun σ2=>by unfold cW;rw[hg]
    obtain⟨τ,h1,h2⟩:=HH aJ h
    obtain⟨e',x,u,hd,tM,hx,hu,cr,eR⟩:=AM c1 (qp _) h2
    rw[he]at hd
    injection hd with hd
    subst hd
    obtain⟨n,hn⟩:∃ n,ops.size=n+1:=⟨ops.size-1,by omega⟩
    have hconst:∀ σ2 y,y∈o.op.operands->ah σ2 y=ah (σ.drop e) y:=by
     intro σ2 y hy
     have:=List.all_eq_true.1 c4 y (by simpa using hy)
     cases y with
     | const v=>rfl
     | _=>cases this
    refine⟨σ.drop e,fun w0 a w hR=>hR.Im e,?_⟩
    have hA:=AU aJ _ _ _ k h1
    rw[cr]at hA
    have hsz:ops.size-1=n:=by omega
    rw[hsz]at hA
    rw[hn]
    refine HT (W:=waits ops i ops.size 0 0) ho (fun j oj bJ hj=>?_) (fun σ=>aR e x u σ) (fun _ σ=>cN e σ) (fun L aa _=>eR aa (qp _) (hconst aa)) (fun L aa j oj dD hF bJ cH c7 cM uy=>?_) n 0 (σ.drop e) (fun j _=>Nat.zero_testBit j) c3 (cN.drop σ) hA
    ·have aW:=(Array.getElem?_eq_some_iff.1 bJ).1
     rcases nc j (by omega) (by omega)with e1 | e1 | e1 | e1
     ·subst e1
      have:=uB j hj
      rw[mq]at this
      simp at this
     ·rw[Nat.zero_testBit]at e1;cases e1
     ·exact Ih bJ e1.2
     ·rw[hj]at e1;cases e1.1
    ·have aW:=(Array.getElem?_eq_some_iff.1 bJ).1
     rcases nc j (by omega) (by omega)with e1 | e1 | e1 | e1
     ·exact absurd e1 cH
     ·rw[Nat.zero_testBit]at e1;cases e1
     ·rw[cM]at e1;cases e1.1
     ·obtain⟨b1,b2⟩:=e1.2 oj bJ
      obtain⟨a1,a2,a3⟩:=Oper.apart_spec b2
      exact XU aJ hx hu tM b1 (a1 e he) (fun hd=>a2 e he hd) hF uy
   ·cases h
  ·cases h
 ·exact⟨σ,fun _ _ _ h=>h,AU aJ _ _ _ _ h⟩
theorem XW[Inhabited Wd](aJ:dB P Φ){ops:Array Oper}{id:Nat}{k:S->Option X}(hm:P.follows .mixedOrders=true)(h:qi P N Φ ops σ k=some r){Q:Exit->Act->World->Prop}(hQ:∀ τ,k τ=some r->∀ a w,R w0 N τ a w->Q .normal a w)(hR:R w0 N σ a w):
  (Code.region id ops true).wp P Q a w:=by
 obtain⟨Io,h1,h2⟩:=XV aJ h
 exact wp_region_any hm (NH aJ hQ _ _ _ _ h2 nw.start a _ (h1 _ _ _ hR).drawn)
end
end Go.Proofs.YtjldnlbiefpekaaDoor
namespace Go.Proofs.YtjldnlbiefpekaaDoor
open Go.RowKit
set_option linter.unusedVariables false
section
variable {P:Program} {w w':World} {w0:Wd} {B N:Nat} {lab af:aH} {ρ ρ':Nat->Loc} {σ:S} {a:Act} {X:Type} {d:Nat} {r:X} {o:Oper} {Φ:cc} {Λ:jA}
theorem XX{dst:Option Tmp}{g:Bool}{k:S->Option X}(h:splitK σ dst g k=some r):∃ aa,k aa=some r/\∀ a w,R w0 N σ a w->R w0 N aa a w:=by
 unfold splitK at h
 cases g with
 | false=>exact⟨σ,h,fun _ _ h=>h⟩
 | true=>
  rw[cond_true]at h
  split at h
  ·rename_i d
   split at h
   ·rename_i b U
    have key:∀ c:Bool,b=c->∀ a w,R w0 N σ a w->R w0 N (σ.set d (.lf (.v (.bool c)))) a w:=by
     rintro c rfl a w ⟨lab,ρ,hR⟩
     refine⟨lab,ρ,hR.below,hR.bh,hR.root,fun k=>?_,hR.size,hR.defers,hR.fix,hR.cF⟩
     show RA w w0.heap.size lab ρ (aI σ.t d (.lf (.v (.bool b))) k) _
     by_cases hk:k=d
     ·subst hk
      rw[aK,<-U]
      exact hR.tmp k
     ·rw[aQ _ _ _ hk]
      exact hR.tmp k
    cases b with
    | true=>exact⟨_,h,key true rfl⟩
    | false=>exact⟨_,h,key false rfl⟩
   ·exact⟨σ,h,fun _ _ h=>h⟩
  ·exact⟨σ,h,fun _ _ h=>h⟩
theorem Dx(aJ:dB P Φ)(ops:Array Oper):∀ (rest:List Oper) (j:Nat) (σ:S) (k:S->Option X),oz P N Φ ops j rest σ k=some r->∃ aa,k aa=some r/\∀ a w,R w0 N σ a w->∀ Q,(∀ a' w',R w0 N aa a' w'->Q Exit.normal a' w')->wpList P ops Q rest a w
 | [],j,σ,k,h=>⟨σ,h,fun a w hR Q hQ=>hQ a w hR⟩
 | o :: rest,j,σ,k,h=>by
  unfold oz at h
  split at h
  ·rename_i qp
   obtain⟨jy,h1,cU⟩:=WB (w0:=w0) aJ h
   obtain⟨σ2,h2,fZ⟩:=XX (w0:=w0) (N:=N) h1
   obtain⟨AX,h3,fk⟩:=Dx aJ ops rest (j+1) σ2 k h2
   refine⟨AX,h3,fun a w hR Q hQ=>?_⟩
   obtain⟨lab,ρ,aB⟩:=hR
   simp only[wpList,w8 qp aB,if_true]
   exact .inl (cU a w _ Q ⟨lab,ρ,aB⟩ fun a' w' kK=>fk a' w' (fZ a' w' kK) Q hQ)
  ·rename_i qp
   unfold eT at h
   split at h
   ·rename_i hd
    obtain⟨AX,h3,fk⟩:=Dx aJ ops rest (j+1) σ k h
    refine⟨AX,h3,fun a w hR Q hQ=>?_⟩
    obtain⟨lab,ρ,aB⟩:=hR
    simp only[wpList,w8 qp aB,hd]
    exact fk a w ⟨lab,ρ,aB⟩ Q hQ
   ·rename_i d hd
    cases hN:Nat.blt d N with
    | false=>rw[hN]at h;cases h
    | true=>
     rw[hN,cond_true]at h
     obtain⟨AX,h3,fk⟩:=Dx aJ ops rest (j+1) _ k h
     refine⟨AX,h3,fun a w hR Q hQ=>?_⟩
     obtain⟨lab,ρ,aB⟩:=hR
     simp only[wpList,w8 qp aB,hd]
     exact fk _ w ⟨lab,ρ,aB.set rfl (by have:=Nat.le_of_ble_eq_true hN;omega)⟩ Q hQ
  ·cases h
theorem Dy(aJ:dB P Φ):∀ (c:Code) (σ:S) (k:Exit->S->Option X),dQ P N Φ Λ c σ k=some r->oD P N Λ (occs c)->AW P w0 N c σ fun e aa=>k e aa=some r:=by
 intro c
 induction c with
 | skip=>exact fun σ k h _ a w hR=>wp_skip ⟨σ,h,hR⟩
 | label l=>exact fun σ k h _ a w hR=>wp_label ⟨σ,h,hR⟩
 | ret=>exact fun σ k h _ a w hR=>wp_ret ⟨σ,h,hR⟩
 | exit id=>exact fun σ k h _ a w hR=>wp_exit ⟨σ,h,hR⟩
 | region id ops draw=>
  intro σ k h _ a w hR
  cases draw with
  | true=>
   simp only[dQ]at h
   cases hm:P.follows .mixedOrders with
   | false=>rw[hm]at h;cases h
   | true=>
    rw[hm,cond_true]at h
    haveI:Inhabited Wd:=⟨w0⟩
    exact XW aJ hm h (fun τ cr a w hR=>⟨τ,cr,hR⟩) hR
  | false=>
   simp only[dQ]at h
   obtain⟨aa,h',hw⟩:=Dx (w0:=w0) aJ ops _ _ _ _ h
   exact wp_region_list (hw a w hR _ fun a' w' aB=>⟨aa,h',aB⟩)
 | seq x y uD uE=>
  intro σ k h fU a w hR
  simp only[dQ]at h
  have h1:=uD σ _ h (fun p hp=>fU p (List.mem_append_left _ hp))
  refine wp_seq (wp_mono (h1 a w hR) fun e a' w' he=>?_)
  obtain⟨aa,hk,aB⟩:=he
  cases e with
  | normal=>exact uE aa k hk (fun p hp=>fU p (List.mem_append_right _ hp)) a' w' aB
  | _=>exact⟨aa,hk,aB⟩
 | cond c x y uD uE=>
  intro σ k h fU a w hR
  simp only[dQ]at h
  split at h
  ·rename_i b U
   obtain⟨lab,ρ,aB⟩:=hR
   have hc:=aB.ah c
   rw[U]at hc
   have NL:=hc.2.rR
   cases b with
   | true=>exact wp_cond_true NL (uD σ k h (fun p hp=>fU p (List.mem_append_left _ hp)) a w ⟨lab,ρ,aB⟩)
   | false=>exact wp_cond_false NL (uE σ k h (fun p hp=>fU p (List.mem_append_right _ hp)) a w ⟨lab,ρ,aB⟩)
  ·cases h
 | block id c ih=>
  intro σ k h fU a w hR
  simp only[dQ]at h
  split at h
  ·rename_i b U
   exact fU (id,c) (.head _) b U X σ k r w0 h a w hR
  ·have h1:=ih σ _ h (fun p hp=>fU p (.tail _ hp))
   refine wp_block (wp_mono (h1 a w hR) fun e a' w' he=>?_)
   obtain⟨aa,hk,aB⟩:=he
   cases e with
   | exit lB=>
    simp only[Exit.inBlock]
    by_cases hid:lB=id
    ·simp only[hid,if_true]at hk ⊢
     exact⟨aa,hk,aB⟩
    ·simp only[hid,if_false]at hk ⊢
     exact⟨aa,hk,aB⟩
   | _=>exact⟨aa,hk,aB⟩
 | _=>exact fun σ k h=>by simp[dQ]at h
end
/-! What a loop carries. -/
inductive Lm where
 | int (k:IntKind)
 | bool
 | str
 | own (r:Nat)
 | av (t:TC) (o:Nat)
def Lm.T:Lm->Type
 | .int _=>Int
 | .bool=>Bool
 | .str=>ByteArray
 | .own _=>Unit
 | .av t _=>List (Proofs.YtjldnlbiefpekaaDoor.T t)
def Lm.mk:(m:Lm)->m.T->Lf
 | .int k,n=>.v (.int k n)
 | .bool,b=>.v (.bool b)
 | .str,s=>.v (.str s)
 | .own r,_=>.own [r]
 | .av t o,l=>.v (.sl t o false l)
def Lm.rd:(m:Lm)->Lf->Option m.T
 | .int k,.v (.int k' n)=>if k'=k then some n else none
 | .bool,.v (.bool b)=>some b
 | .str,.v (.str s)=>some s
 | .own r,.own [r']=>bif Nat.beq r' r then some ()else none
 | .av t o,.v x=>bif Nat.blt o 2 then x.bS t o else none
 | _,_=>none
inductive Tm where
 | lf (m:Lm)
 | aF (r j:Nat)
 | fp (t:TC) (o:Nat)
 | fc (f:Nat) (t:TC)
 | ag (t:TC)
 | pk (r n:Nat)
def Tm.T:Tm->Type
 | .lf m=>m.T
 | .aF _ _=>Unit
 | .fp t _=>Proofs.YtjldnlbiefpekaaDoor.T t
 | .fc _ t=>Proofs.YtjldnlbiefpekaaDoor.T t
 | .ag t=>Proofs.YtjldnlbiefpekaaDoor.T t
 | .pk _ _=>Unit
def Tm.mk:(m:Tm)->m.T->A
 | .lf m,x=>.lf (m.mk x)
 | .aF r j,_=>.aF r j
 | .fp t o,x=>.ec (enc t o x)
 | .fc f t,x=>.ic f (enc t 0 x)
 | .ag t,x=>.agg ((enc t 0 x).map .v)
 | .pk r n,_=>.pk r n
def Tm.rd:(m:Tm)->A->Option m.T
 | .lf m,.lf x=>m.rd x
 | .aF r j,.aF r' j'=>bif Nat.beq r' r&&Nat.beq j' j then some ()else none
 | .fp t o,.ec cs=>bif Nat.blt o 2 then dec t o cs else none
 | .fc f t,.ic f' cs=>bif Nat.beq f' f then dec t 0 cs else none
 | .ag t,.agg cs=>(match n5 cs with
  | some vs=>dec t 0 vs
  | none=>none)
 | .pk r n,.pk r' n'=>bif Nat.beq r' r&&Nat.beq n' n then some ()else none
 | _,_=>none
def AY:List Lm->Type
 | []=>Unit
 | m :: ms=>m.T×AY ms
def qq:(ms:List Lm)->AY ms->List Lf
 | [],_=>[]
 | m :: ms,x=>m.mk x.1 :: qq ms x.2
def xd:(ms:List Lm)->List Lf->Option (AY ms)
 | [],[]=>some ()
 | m :: ms,x :: xs=>match m.rd x,xd ms xs with
  | some y,some ys=>some (y,ys)
  | _,_=>none
 | _,_=>none
inductive Rm where
 | sl (t:TC) (o:Nat)
 | st (t:TC)
 | blk (ms:List Lm)
 | mp
def Rm.T:Rm->Type
 | .sl t _=>List (Proofs.YtjldnlbiefpekaaDoor.T t)
 | .st t=>Proofs.YtjldnlbiefpekaaDoor.T t
 | .blk ms=>AY ms
 | .mp=>List (Int×Bool)
def Rm.mk:(m:Rm)->m.T->ax
 | .sl t o,l=>.sl (.sl t o false l)
 | .st t,x=>.blk ((enc t 0 x).map .v)
 | .blk ms,x=>.blk (qq ms x)
 | .mp,l=>.mp l
def Rm.rd:(m:Rm)->ax->Option m.T
 | .sl t o,.sl y=>y.bS t o
 | .st t,.blk cs=>(match n5 cs with
  | some vs=>dec t 0 vs
  | none=>none)
 | .blk ms,.blk cs=>xd ms cs
 | .mp,.mp l=>some l
 | _,_=>none
def xe:List (Nat×Tm)->Type
 | []=>Unit
 | (_,m) :: ms=>m.T×xe ms
def qt:(ms:List (Nat×Tm))->xe ms->Nat->A
 | [],_,_=>.undef
 | (n,m) :: ms,x,k=>bif Nat.beq k n then m.mk x.1 else qt ms x.2 k
def AZ:(ms:List (Nat×Tm))->(Nat->A)->Option (xe ms)
 | [],_=>some ()
 | (n,m) :: ms,t=>match m.rd (t n),AZ ms t with
  | some x,some xs=>some (x,xs)
  | _,_=>none
def qu:List (Nat×Rm)->Type
 | []=>Unit
 | (_,m) :: ms=>m.T×qu ms
def qv:(ms:List (Nat×Rm))->qu ms->Nat->Option ax
 | [],_,_=>none
 | (n,m) :: ms,x,k=>bif Nat.beq k n then some (m.mk x.1)else qv ms x.2 k
def xg:(ms:List (Nat×Rm))->(Nat->Option ax)->Option (qu ms)
 | [],_=>some ()
 | (n,m) :: ms,t=>match (t n).bind m.rd,xg ms t with
  | some x,some xs=>some (x,xs)
  | _,_=>none
structure fq where
 ts:List (Nat×Tm)
 rs:List (Nat×Rm)
def fq.St(τ:fq):Type:=xe τ.ts×qu τ.rs
def fq.mk'(τ:fq)(x:τ.St):S:=⟨qt τ.ts x.1,qv τ.rs x.2⟩
def fq.Dz(τ:fq)(σ:S):Option τ.St:=match AZ τ.ts σ.t,xg τ.rs σ.m with
 | some x,some y=>some (x,y)
 | _,_=>none
/-! Roots by other names. -/
abbrev Rn:=List (Nat×Nat)
def Rn.inv(rs:Rn)(n:Nat):Option Nat:=(rs.find? fun p=>Nat.beq p.2 n).map (·.1)
def Rn.add(rs:Rn)(r n:Nat):Rn:=bif rs.any (fun p=>Nat.beq p.1 r&&Nat.beq p.2 n)then rs else (r,n) :: rs
def Ip(n:Nat):Option Nat->Bool
 | some m=>Nat.beq m n
 | none=>false
def Rn.ok(rs:Rn):Bool:=rs.all fun p=>(Nat.beq p.1 p.2 || Nat.ble 60000 p.2)&&Ip p.2 (rs.lookup p.1)&&Ip p.1 (rs.inv p.2)
def Lf.cq(rs:Rn):Lf->Lf
 | .v x=>.v x
 | .own [r]=>(match rs.lookup r with
  | some n=>.own [n]
  | none=>.dead)
 | _=>.dead
def A.cq(rs:Rn):A->A
 | .lf x=>.lf (x.cq rs)
 | .aF r j=>(match rs.lookup r with
  | some n=>.aF n j
  | none=>.undef)
 | .ec cs=>.ec cs
 | .ic f cs=>.ic f cs
 | .agg cs=>.agg (cs.map (Lf.cq rs))
 | _=>.undef
def ax.cq(rs:Rn):ax->ax
 | .blk cs=>.blk (cs.map (Lf.cq rs))
 | .sl y=>.sl y
 | .mp l=>.mp l
 | .gh _=>.gh []
def S.cq(rs:Rn)(σ:S):S:=⟨fun k=>(σ.t k).cq rs,fun n=>match rs.inv n with
 | some r=>(σ.m r).map (ax.cq rs)
 | none=>none⟩
def NM:Lm->Lf->Rn->Rn
 | .own n,.own [r],rs=>rs.add r n
 | _,_,rs=>rs
def Iq:List Lm->List Lf->Rn->Rn
 | m :: ms,x :: xs,rs=>Iq ms xs (NM m x rs)
 | _,_,rs=>rs
def XY:Tm->A->Rn->Rn
 | .lf m,.lf x,rs=>NM m x rs
 | .aF n j,.aF r j',rs=>rs.add r n
 | _,_,rs=>rs
def NN(t:Nat->A):List (Nat×Tm)->Rn->Rn
 | [],rs=>rs
 | (k,m) :: ms,rs=>NN t ms (XY m (t k) rs)
def NO(m:Nat->Option ax):List (Nat×Rm)->Rn->Rn
 | [],rs=>rs
 | (n,x) :: xs,rs=>NO m xs (match x,rs.inv n with
  | .blk ms,some r=>(match m r with
   | some (.blk cs)=>Iq ms cs rs
   | _=>rs)
  | .blk ms,none=>(match m n with
   | some (.blk cs)=>Iq ms cs (rs.add n n)
   | _=>rs)
  | _,some _=>rs
  | _,none=>rs.add n n)
def fq.rn(τ:fq)(σ:S):Rn:=NO σ.m τ.rs (NN σ.t τ.ts [])
def Ir(rs:List (Nat×Rm))(p:Nat×Tm)(σ:S):S:=match p.2,σ.t p.1 with
 | .lf (.own n),.lf (.v .nil)=>(match rs.lookup n with
  | some (.sl t o)=>bif Nat.ble 60000 n then ⟨aI ((σ.drop n).root n (.sl (.sl t o false []))).t p.1 (.lf (.own [n])),((σ.drop n).root n (.sl (.sl t o false []))).m⟩else σ
  | _=>σ)
 | _,_=>σ
def DA(rs:List (Nat×Rm)):List (Nat×Tm)->S->S
 | [],σ=>σ
 | p :: ps,σ=>DA rs ps (Ir rs p σ)
def Is(n j r:Nat)(σ:S):S:=match σ.m r with
 | some (.blk cs)=>(match cs[j]? with
  | some (.v .nil)=>⟨σ.t,aI σ.m r (some (.blk (cs.set j (.own [n]))))⟩
  | _=>σ)
 | _=>σ
def It(rs:List (Nat×Rm))(n j r:Nat)(σ:S):S:=match rs.lookup n with
 | some (.sl t o)=>bif Nat.ble 60000 n then Is n j r ((σ.drop n).root n (.sl (.sl t o false [])))else σ
 | _=>σ
def uG(rs:List (Nat×Rm))(r:Nat):Nat->List Lm->List Lf->S->S
 | j,.own n :: ms,.v .nil :: cs,σ=>uG rs r (j+1) ms cs (It rs n j r σ)
 | j,_ :: ms,_ :: cs,σ=>uG rs r (j+1) ms cs σ
 | _,_,_,σ=>σ
def A2(rs:List (Nat×Rm)):List (Nat×Rm)->S->S
 | [],σ=>σ
 | (r,.blk ms) :: ps,σ=>A2 rs ps (match σ.m r with
  | some (.blk cs)=>uG rs r 0 ms cs σ
  | _=>σ)
 | _ :: ps,σ=>A2 rs ps σ
def fq.NP(τ:fq)(σ:S):Option τ.St:=bif (τ.rn σ).ok then τ.Dz (A2 τ.rs τ.rs (σ.cq (τ.rn σ)))else none
def fq.rd(τ:fq)(σ:S):Option τ.St:=match τ.Dz σ with
 | some x=>some x
 | none=>τ.NP (DA τ.rs τ.ts σ)
section
variable {P:Program} {w w':World} {w0:Wd} {B N:Nat} {lab af:aH} {ρ ρ':Nat->Loc} {σ:S} {a:Act} {X:Type} {d:Nat} {r:X} {o:Oper} {Φ:cc} {Λ:jA}
theorem Lm.kQ{m:Lm}{x:Lf}{y:m.T}(h:m.rd x=some y){u:Value}(hu:bB w B lab ρ x u):bB w B lab ρ (m.mk y) u:=by
 unfold Lm.rd at h
 split at h
 ·split at h
  ·rename_i hk;subst hk;injection h with h;subst h;exact hu
  ·cases h
 ·injection h with h;subst h;exact hu
 ·injection h with h;subst h;exact hu
 ·rename_i r' XZ
  cases U:Nat.beq XZ r' with
  | false=>rw[U]at h;cases h
  | true=>obtain rfl:=Nat.eq_of_beq_eq_true U;exact hu
 ·rename_i t o x
  cases U:Nat.blt o 2 with
  | false=>rw[U]at h;cases h
  | true=>
   rw[U]at h
   have h:V.bS t o x=some y:=h
   have:=Nat.le_of_ble_eq_true U
   exact⟨by simp[V.av];omega,hu.2.wk (V.bW h)⟩
 ·cases h
theorem Tm.kQ{m:Tm}{x:A}{y:m.T}(h:m.rd x=some y){u:Value}(hu:RA w B lab ρ x u):RA w B lab ρ (m.mk y) u:=by
 cases m with
 | lf m=>
  cases x with
  | lf x=>exact Lm.kQ (m:=m) h hu
  | _=>cases h
 | aF r j=>
  cases x with
  | aF r' j'=>
   have h:(bif Nat.beq r' r&&Nat.beq j' j then some ()else none)=some y:=h
   cases U:(Nat.beq r' r&&Nat.beq j' j)with
   | false=>rw[U]at h;cases h
   | true=>
    rw[Bool.and_eq_true]at U
    obtain rfl:=Nat.eq_of_beq_eq_true U.1
    obtain rfl:=Nat.eq_of_beq_eq_true U.2
    exact hu
  | _=>cases h
 | fp t o=>
  cases x with
  | ec cs=>
   have h:(bif Nat.blt o 2 then dec t o cs else none)=some y:=h
   cases U:Nat.blt o 2 with
   | false=>rw[U]at h;cases h
   | true=>
    rw[U,cond_true]at h
    have ho:=Nat.le_of_ble_eq_true U
    have hk:=hU t o cs y h
    obtain⟨b,off,h1,h2,h3,h4⟩:=hu
    refine⟨b,off,h1,h2,h3,fun j z hz=>?_⟩
    have hj:j<cs.length:=by rw[hk.1];exact(List.getElem?_eq_some_iff.1 hz).1
    have hv:=List.getElem?_eq_getElem hj
    obtain⟨g1,v,g2,g3⟩:=h4 j _ hv
    exact⟨fY t o y (by omega) j z hz,v,g2,g3.wk (hk.2 j _ z hv hz)⟩
  | _=>cases h
 | fc f t=>
  cases x with
  | ic f' cs=>
   have h:(bif Nat.beq f' f then dec t 0 cs else none)=some y:=h
   cases U:Nat.beq f' f with
   | false=>rw[U]at h;cases h
   | true=>
    rw[U,cond_true]at h
    obtain rfl:=Nat.eq_of_beq_eq_true U
    have hk:=hU t 0 cs y h
    obtain⟨pv,e0,b,off,h1,h2,h3,h4⟩:=hu
    refine⟨pv,e0,b,off,h1,h2,h3,fun j z hz=>?_⟩
    have hj:j<cs.length:=by rw[hk.1];exact(List.getElem?_eq_some_iff.1 hz).1
    have hv:=List.getElem?_eq_getElem hj
    obtain⟨g1,v,g2,g3⟩:=h4 j _ hv
    exact⟨fY t 0 y (by omega) j z hz,v,g2,g3.wk (hk.2 j _ z hv hz)⟩
  | _=>cases h
 | ag t=>
  cases x with
  | agg cs=>
   have h:(match n5 cs with | some vs=>dec t 0 vs | none=>none)=some y:=h
   cases cT:n5 cs with
   | none=>rw[cT]at h;cases h
   | some vs=>
    rw[cT]at h
    have h:dec t 0 vs=some y:=h
    have bZ:=Cq _ _ cT
    have hk:=hU t 0 vs y h
    obtain⟨us,h1,h2,h3⟩:=hu
    refine⟨us,h1,?_,fun j x hx=>?_⟩
    ·rw[h2,bZ,List.length_map,List.length_map,hk.1]
    ·rw[List.getElem?_map]at hx
     cases hz:(enc t 0 y)[j]? with
     | none=>rw[hz]at hx;cases hx
     | some z=>
      rw[hz]at hx
      injection hx with hx
      subst hx
      have hj:j<vs.length:=by rw[hk.1];exact(List.getElem?_eq_some_iff.1 hz).1
      have hv:=List.getElem?_eq_getElem hj
      obtain⟨v,g1,g2⟩:=h3 j (.v vs[j]) (by rw[bZ,List.getElem?_map,hv];rfl)
      exact⟨v,g1,fY t 0 y (by omega) j z hz,g2.2.wk (hk.2 j _ z hv hz)⟩
  | _=>cases h
 | pk r n=>
  cases x with
  | pk r' n'=>
   have h:(bif Nat.beq r' r&&Nat.beq n' n then some ()else none)=some y:=h
   cases U:(Nat.beq r' r&&Nat.beq n' n)with
   | false=>rw[U]at h;cases h
   | true=>
    rw[Bool.and_eq_true]at U
    obtain rfl:=Nat.eq_of_beq_eq_true U.1
    obtain rfl:=Nat.eq_of_beq_eq_true U.2
    exact hu
  | _=>cases h
theorem NQ:∀ (ms:List Lm) (cs:List Lf) (y:AY ms),xd ms cs=some y->(qq ms y).length=cs.length/\∀ (j:Nat) x,(qq ms y)[j]?=some x->∃ z,cs[j]?=some z/\(∀ (w:World) (B:Nat) (lab:aH) (ρ:Nat->Loc) (u:Value),bB w B lab ρ z u->bB w B lab ρ x u)
 | [],[],y,h=>⟨rfl,fun j x hx=>by simp[qq]at hx⟩
 | m :: ms,c :: cs,y,h=>by
  unfold xd at h
  split at h
  ·rename_i y1 ys h1 h2
   injection h with h
   subst h
   obtain⟨k1,k2⟩:=NQ ms cs ys h2
   refine⟨by simp[qq,k1],fun j x hx=>?_⟩
   cases j with
   | zero=>simp[qq]at hx;subst hx;exact⟨c,rfl,fun w B lab ρ u hu=>Lm.kQ h1 hu⟩
   | succ j=>exact k2 j x (by simpa [qq]using hx)
  ·cases h
 | [],_ :: _,y,h=>by simp[xd]at h
 | _ :: _,[],y,h=>by simp[xd]at h
theorem Rm.kQ{m:Rm}{x:ax}{y:m.T}(h:m.rd x=some y){n:Nat}(hx:bU w B lab ρ n x):bU w B lab ρ n (m.mk y):=by
 cases m with
 | sl t o=>
  cases hx with
  | sl v y' au hr=>exact .sl v _ au (hr.wk (V.bW h))
  | blk=>cases h
  | mp=>cases h
  | gh=>cases h
 | mp=>
  cases hx with
  | gh=>cases h
  | sl=>cases h
  | blk=>cases h
  | mp b c es l au hl hh he=>injection h with h;subst h;exact .mp b c es _ au hl hh he
 | st t=>
  cases hx with
  | sl=>cases h
  | mp=>cases h
  | gh=>cases h
  | blk b off cells e cs us au hl hh hs hc=>
   have h:(match n5 cs with | some vs=>dec t 0 vs | none=>none)=some y:=h
   cases cT:n5 cs with
   | none=>rw[cT]at h;cases h
   | some vs=>
    rw[cT]at h
    have h:dec t 0 vs=some y:=h
    have bZ:=Cq _ _ cT
    have hk:=hU t 0 vs y h
    refine .blk b off cells e _ us au hl hh (by rw[List.length_map,<-hk.1];rw[bZ,List.length_map]at hs;exact hs) fun j x hx=>?_
    rw[List.getElem?_map]at hx
    cases hz:(enc t 0 y)[j]? with
    | none=>rw[hz]at hx;cases hx
    | some z=>
     rw[hz]at hx
     injection hx with hx
     subst hx
     have hj:j<vs.length:=by rw[hk.1];exact(List.getElem?_eq_some_iff.1 hz).1
     have hv:=List.getElem?_eq_getElem hj
     obtain⟨h1,h2⟩:=hc j (.v vs[j]) (by rw[bZ,List.getElem?_map,hv];rfl)
     exact⟨h1,fY t 0 y (by omega) j z hz,h2.2.wk (hk.2 j _ z hv hz)⟩
 | blk ms=>
  cases hx with
  | sl=>cases h
  | mp=>cases h
  | gh=>cases h
  | blk b off cells e cs us au hl hh hs hc=>
   obtain⟨k1,k2⟩:=NQ ms cs y h
   refine .blk b off cells e _ us au hl hh (by show off+(qq ms y).length<=_;rw[k1];exact hs) fun j x hx=>?_
   obtain⟨z,hz,hm⟩:=k2 j x hx
   exact⟨(hc j z hz).1,hm _ _ _ _ _ (hc j z hz).2⟩
theorem Iu:∀ (ms:List (Nat×Tm)) (t:Nat->A) (y:xe ms),AZ ms t=some y->∀ k,qt ms y k = .undef\/∃ m z,(Tm.rd m (t k)=some z/\qt ms y k=m.mk z)
 | [],t,y,h,k=>.inl rfl
 | (n,m) :: ms,t,y,h,k=>by
  unfold AZ at h
  split at h
  ·rename_i x xs h1 h2
   injection h with h
   subst h
   by_cases hk:k=n
   ·subst hk
    exact .inr ⟨m,x,h1,by simp[qt]⟩
   ·have U:Nat.beq k n=false:=by
     cases U:Nat.beq k n with
     | false=>rfl
     | true=>exact absurd (Nat.eq_of_beq_eq_true U) hk
    simp only[qt,U,cond_false]
    exact Iu ms t xs h2 k
  ·cases h
theorem Iv:∀ (ms:List (Nat×Rm)) (t:Nat->Option ax) (y:qu ms),xg ms t=some y->∀ k,qv ms y k=none\/∃ m x z,t k=some x/\Rm.rd m x=some z/\qv ms y k=some (m.mk z)
 | [],t,y,h,k=>.inl rfl
 | (n,m) :: ms,t,y,h,k=>by
  unfold xg at h
  split at h
  ·rename_i x xs h1 h2
   injection h with h
   subst h
   by_cases hk:k=n
   ·subst hk
    cases ht:t k with
    | none=>rw[ht]at h1;cases h1
    | some z=>rw[ht]at h1;exact .inr ⟨m,z,x,rfl,h1,by simp[qv]⟩
   ·have U:Nat.beq k n=false:=by
     cases U:Nat.beq k n with
     | false=>rfl
     | true=>exact absurd (Nat.eq_of_beq_eq_true U) hk
    simp only[qv,U,cond_false]
    exact Iv ms t xs h2 k
  ·cases h
theorem fq.NR{τ:fq}{x:τ.St}(h:τ.Dz σ=some x)(hR:R w0 N σ a w):R w0 N (τ.mk' x) a w:=by
 unfold fq.Dz at h
 split at h
 ·rename_i u v h1 h2
  injection h with h
  subst h
  obtain⟨lab,ρ,hR⟩:=hR
  refine⟨lab,ρ,hR.below,hR.bh,fun n y hy=>?_,fun k=>?_,hR.size,hR.defers,hR.fix,hR.cF⟩
  ·have hy:qv τ.rs v n=some y:=hy
   rcases Iv τ.rs σ.m v h2 n with e | ⟨m,x,z,e1,e2,e3⟩
   ·rw[e]at hy;cases hy
   ·rw[e3]at hy
    injection hy with hy
    subst hy
    exact Rm.kQ e2 (hR.root n x e1)
  ·show RA _ _ _ _ (qt τ.ts u k) _
   rcases Iu τ.ts σ.t u h1 k with e | ⟨m,z,e1,e2⟩
   ·rw[e];trivial
   ·rw[e2];exact Tm.kQ e1 (hR.tmp k)
 ·cases h
theorem NS{n:Nat}{o:Option Nat}(h:Ip n o=true):o=some n:=by
 cases o with
 | none=>cases h
 | some m=>rw[Nat.eq_of_beq_eq_true h]
theorem NT{rs:Rn}{r n:Nat}(h:rs.lookup r=some n):(r,n)∈rs:=by
 induction rs with
 | nil=>cases h
 | cons p rs ih=>
  obtain⟨x,y⟩:=p
  rw[List.lookup_cons]at h
  split at h
  ·rename_i U
   injection h with h
   subst h
   rw[eq_of_beq U]
   exact .head _
  ·exact .tail _ (ih h)
theorem NU{rs:Rn}{r n:Nat}(h:rs.inv n=some r):(r,n)∈rs:=by
 unfold Rn.inv at h
 cases hf:rs.find? (fun p=>Nat.beq p.2 n)with
 | none=>rw[hf]at h;cases h
 | some p=>
  rw[hf]at h
  injection h with h
  subst h
  have h1:=List.find?_some hf
  have h2:=List.mem_of_find?_eq_some hf
  rw[<-Nat.eq_of_beq_eq_true h1]
  exact h2
def Rn.b8(rs:Rn)(ρ:Nat->Loc):Nat->Loc:=fun n=>match rs.inv n with
 | some r=>ρ r
 | none=>ρ n
theorem Rn.DB{rs:Rn}(h:rs.ok=true){r n:Nat}(hm:(r,n)∈rs):(r=n\/60000<=n)/\rs.lookup r=some n/\rs.inv n=some r:=by
 have:=List.all_eq_true.1 h _ hm
 rw[Bool.and_eq_true,Bool.and_eq_true,Bool.or_eq_true]at this
 refine⟨?_,NS this.1.2,NS this.2⟩
 rcases this.1.1 with h | h
 ·exact .inl (Nat.eq_of_beq_eq_true h)
 ·exact .inr (Nat.le_of_ble_eq_true h)
theorem bB.cq{rs:Rn}(cK:rs.ok=true){x:Lf}{u:Value}(h:bB w B lab ρ x u):bB w B (cA lab rs id) (rs.b8 ρ) (x.cq rs) u:=by
 unfold Lf.cq
 split
 ·exact⟨h.1,h.2.zU h.1 fun b=>pS⟩
 ·rename_i r
  split
  ·rename_i n hn
   have hi:=(Rn.DB cK (NT hn)).2.2
   refine⟨h.1,?_⟩
   have h2:=h.2
   simp only[aP]at h2 ⊢
   unfold Rn.b8
   rw[hi]
   exact h2
  ·trivial
 ·trivial
theorem Rl.cq{rs:Rn}(cK:rs.ok=true)(h:Rl w0 N lab ρ σ a w):Rl w0 N (cA lab rs id) (rs.b8 ρ) (σ.cq rs) a w:=by
 have hl:∀ b r n,lab b=some [r]->rs.lookup r=some n->cA lab rs id b=some [n]:=by
  intro b r n h1 h2
  simp[cA,h1,h2]
 refine⟨h.below,fun b k hk=>?_,fun n x hx=>?_,fun k=>?_,h.size,h.defers,fun r l hr=>?_,h.cF⟩
 ·unfold cA at hk
  split at hk
  ·cases hk
  ·rename_i k0 Ai
   split at hk
   ·cases hk
   ·rename_i r hr
    cases hn:rs.lookup r with
    | none=>rw[hn]at hk;cases hk
    | some n=>
     rw[hn]at hk
     injection hk with hk
     subst hk
     obtain⟨h1,h2,_⟩:=h.bh b k0 Ai
     exact⟨h1,h2,by simp⟩
 ·have hx:(match rs.inv n with | some r=>(σ.m r).map (ax.cq rs) | none=>none)=some x:=hx
  cases hi:rs.inv n with
  | none=>rw[hi]at hx;cases hx
  | some r=>
   rw[hi]at hx
   have hx:(σ.m r).map (ax.cq rs)=some x:=hx
   have mP:=(Rn.DB cK (NU hi)).2.1
   have au:rs.b8 ρ n=ρ r:=by unfold Rn.b8;rw[hi]
   cases hm:σ.m r with
   | none=>rw[hm]at hx;cases hx
   | some y=>
    rw[hm]at hx
    injection hx with hx
    subst hx
    cases h.root r y hm with
    | blk b off cells e cs us h1 h2 hh hs hc=>
     refine .blk b off cells e _ us (au.trans h1) (hl b r n h2 mP) hh (by rw[List.length_map];exact hs) fun j x hx=>?_
     rw[List.getElem?_map]at hx
     cases hz:cs[j]? with
     | none=>rw[hz]at hx;cases hx
     | some z=>
      rw[hz]at hx
      injection hx with hx
      subst hx
      exact⟨(hc j z hz).1,(hc j z hz).2.cq cK⟩
    | sl v y h1 h2=>
     exact .sl v y (au.trans h1) (RV.cA (p:=[]) (nm:=id) h2 mP)
    | mp b c es l h1 h2 hh he=>exact .mp b c es l (au.trans h1) (hl b r n h2 mP) hh he
    | gh us xs h1 hx=>exact .gh us _ (au.trans h1) fun j x hj=>by simp at hj
 ·show RA _ _ _ _ ((σ.t k).cq rs) _
  have hk:=h.tmp k
  generalize σ.t k=x at hk
  unfold A.cq
  split
  ·exact hk.cq cK
  ·rename_i r j
   split
   ·rename_i n hn
    have hi:=(Rn.DB cK (NT hn)).2.2
    obtain⟨b,off,h1,h2⟩:=hk
    exact⟨b,off,by unfold Rn.b8;rw[hi];exact h1,h2⟩
   ·trivial
  ·obtain⟨b,off,g1,g2,g3,g4⟩:=hk
   refine⟨b,off,g1,g2,pS g3,fun j x hx=>?_⟩
   obtain⟨f1,v,f2,f3⟩:=g4 j x hx
   exact⟨f1,v,f2,f3.zU f1 fun b=>pS⟩
  ·obtain⟨pv,e0,b,off,g1,g2,g3,g4⟩:=hk
   refine⟨pv,e0,b,off,g1,g2,pS g3,fun j x hx=>?_⟩
   obtain⟨f1,v,f2,f3⟩:=g4 j x hx
   exact⟨f1,v,f2,f3.zU f1 fun b=>pS⟩
  ·obtain⟨us,g1,g2,g3⟩:=hk
   refine⟨us,g1,by rw[List.length_map];exact g2,fun j x hx=>?_⟩
   rw[List.getElem?_map]at hx
   rename_i cs
   cases hz:cs[j]? with
   | none=>rw[hz]at hx;cases hx
   | some z=>
    rw[hz]at hx
    injection hx with hx
    subst hx
    obtain⟨v,f1,f2⟩:=g3 j z hz
    exact⟨v,f1,f2.cq cK⟩
  ·trivial
 ·show rs.b8 ρ r=l
  unfold Rn.b8
  split
  ·rename_i r0 hi
   rcases(Rn.DB cK (NU hi)).1 with e | e
   ·rw[e];exact h.fix r l hr
   ·rw[h.cF r (.inr e)]at hr;cases hr
  ·exact h.fix r l hr
theorem X0{rs:List (Nat×Rm)}{p:Nat×Tm}(hR:R w0 N σ a w):R w0 N (Ir rs p σ) a w:=by
 unfold Ir
 split
 ·rename_i n hp hk
  split
  ·rename_i t o hl
   cases U:Nat.ble 60000 n with
   | false=>exact hR
   | true=>
    have hn:=Nat.le_of_ble_eq_true U
    obtain⟨lab,ρ,hR⟩:=hR
    have hu:=hR.tmp p.1
    rw[hk]at hu
    have Gx:a.tmps.getD p.1 undef = .slice none 0 0:=by
     have h2:=hu.2
     generalize a.tmps.getD p.1 undef=u at h2
     cases h2
     rfl
    have h1:=hR.new (d:=n) (x:=.sl (.sl t o false [])) (.bX (.slice none 0 0)) (.sl _ _ (aK _ _ _) (.bg _ _ _)) (hR.cF n (.inr hn))
    refine⟨lab,_,h1.below,h1.bh,h1.root,fun k=>?_,h1.size,h1.defers,h1.fix,h1.cF⟩
    show RA _ _ _ _ (aI ((σ.drop n).root n (.sl (.sl t o false []))).t p.1 (.lf (.own [n])) k) _
    by_cases CV:k=p.1
    ·subst CV
     rw[aK,Gx]
     exact⟨rfl,by simp only[aP,aK]⟩
    ·rw[aQ _ _ _ CV]
     exact h1.tmp k
  ·exact hR
 ·exact hR
theorem X1{n j r:Nat}{y:V}(hR:Rl w0 N lab ρ σ a w)(hn:ρ n = .bX (.slice none 0 0)):Rl w0 N lab ρ (Is n j r σ) a w:=by
 unfold Is
 split
 ·rename_i cs hm
  split
  ·rename_i hj
   refine⟨hR.below,hR.bh,fun r' x hx=>?_,hR.tmp,hR.size,hR.defers,hR.fix,hR.cF⟩
   have hx:aI σ.m r (some (.blk (cs.set j (.own [n])))) r'=some x:=hx
   by_cases hr:r'=r
   ·subst hr
    rw[aK]at hx
    injection hx with hx
    subst hx
    cases hR.root r' _ hm with
    | blk b off cells e cs us h1 h2 hh hs hc=>
     refine .blk b off cells e _ us h1 h2 hh (by rw[List.length_set];exact hs) fun i z hz=>?_
     rw[List.getElem?_set]at hz
     by_cases hi:j=i
     ·subst hi
      have aW:j<cs.length:=(List.getElem?_eq_some_iff.1 hj).1
      rw[if_pos rfl,if_pos aW]at hz
      injection hz with hz
      subst hz
      obtain⟨k1,k2⟩:=hc j _ hj
      refine⟨k1,?_⟩
      have hu:us j = .slice none 0 0:=by
       have h2:=k2.2
       generalize us j=u at h2
       cases h2
       rfl
      rw[hu]
      exact⟨rfl,by simp only[aP,hn]⟩
     ·rw[if_neg hi]at hz
      exact hc i z hz
   ·rw[aQ _ _ _ hr]at hx
    exact hR.root r' x hx
  ·exact hR
 ·exact hR
theorem X2{rs:List (Nat×Rm)}{n j r:Nat}(hR:R w0 N σ a w):R w0 N (It rs n j r σ) a w:=by
 unfold It
 split
 ·rename_i t o hl
  cases U:Nat.ble 60000 n with
  | false=>exact hR
  | true=>
   have hn:=Nat.le_of_ble_eq_true U
   obtain⟨lab,ρ,hR⟩:=hR
   exact⟨lab,_,X1 (y:=.nil) (hR.new (d:=n) (x:=.sl (.sl t o false [])) (.bX (.slice none 0 0)) (.sl _ _ (aK _ _ _) (.bg _ _ _)) (hR.cF n (.inr hn))) (aK _ _ _)⟩
 ·exact hR
theorem Iw{rs:List (Nat×Rm)}{r:Nat}:∀ (ms:List Lm) (cs:List Lf) (j:Nat) (σ:S),R w0 N σ a w->R w0 N (uG rs r j ms cs σ) a w
 | [],cs,j,σ,h=>by unfold uG;exact h
 | m :: ms,[],j,σ,h=>by
  unfold uG
  split <;>first | exact h | contradiction
 | m :: ms,c :: cs,j,σ,h=>by
  unfold uG
  split
  ·rename_i e1 e2;cases e1;cases e2;exact Iw ms cs _ _ (X2 h)
  ·rename_i e1 e2;cases e1;cases e2;exact Iw ms cs _ _ h
  ·exact h
theorem A3{rs:List (Nat×Rm)}:∀ (ps:List (Nat×Rm)) (σ:S),R w0 N σ a w->R w0 N (A2 rs ps σ) a w
 | [],σ,h=>h
 | (r,.sl t o) :: ps,σ,h=>A3 ps σ h
 | (r,.st t) :: ps,σ,h=>A3 ps σ h
 | (r,.mp) :: ps,σ,h=>A3 ps σ h
 | (r,.blk ms) :: ps,σ,h=>by
  unfold A2
  refine A3 ps _ ?_
  split
  ·exact Iw ms _ 0 σ h
  ·exact h
theorem NV{rs:List (Nat×Rm)}:∀ (ps:List (Nat×Tm)) (σ:S),R w0 N σ a w->R w0 N (DA rs ps σ) a w
 | [],σ,h=>h
 | p :: ps,σ,h=>NV ps _ (X0 h)
theorem fq.kQ{τ:fq}{x:τ.St}(h:τ.rd σ=some x)(hR:R w0 N σ a w):R w0 N (τ.mk' x) a w:=by
 unfold fq.rd at h
 split at h
 ·rename_i y hy
  injection h with h
  subst h
  exact fq.NR hy hR
 ·have hR:=NV (rs:=τ.rs) τ.ts σ hR
  revert h hR
  generalize DA τ.rs τ.ts σ=aa
  intro h hR
  unfold fq.NP at h
  cases U:(τ.rn aa).ok with
  | false=>rw[U]at h;cases h
  | true=>
   rw[U,cond_true]at h
   obtain⟨lab,ρ,hR⟩:=hR
   exact fq.NR h (A3 τ.rs _ ⟨_,_,hR.cq U⟩)
end
end Go.Proofs.YtjldnlbiefpekaaDoor
namespace Go.Proofs.YtjldnlbiefpekaaDoor
open Go.RowKit
set_option linter.unusedVariables false
def qw:List V->List Nat->List Lf
 | [],_=>[]
 | x :: xs,ns=>bif x.plain then .v x :: qw xs ns else (match ns with
  | n :: ns=>.own [n] :: qw xs ns
  | []=>.dead :: qw xs [])
def uH:List V->List Nat->(Nat->Option ax)->Nat->Option ax
 | [],_,m,k=>m k
 | x :: xs,ns,m,k=>bif x.plain then uH xs ns m k else (match ns with
  | n :: ns=>bif Nat.beq k n then some (.sl x)else uH xs ns m k
  | []=>uH xs [] m k)
def gi(m:Nat->Option ax):List Lf->List Nat->Option (List V)
 | [],[]=>some []
 | .v x :: cs,ns=>bif x.plain then (match gi m cs ns with
  | some vs=>some (x :: vs)
  | none=>none)else none
 | .own [r] :: cs,n :: ns=>bif Nat.beq r n then (match m n with
  | some (.sl y)=>bif y.plain then none else (match gi m cs ns with
   | some vs=>some (y :: vs)
   | none=>none)
  | _=>none)else none
 | _,_=>none
abbrev Gp:=Nat×TC×Nat×List Nat
def A4:List Gp->Type->Type
 | [],X=>X
 | g :: gs,X=>T g.2.1×A4 gs X
def DC:(gs:List Gp)->(rs:List (Nat×Rm))->A4 gs (qu rs)->Nat->Option ax
 | [],rs,x,k=>qv rs x k
 | (n,t,o,ns) :: gs,rs,x,k=>bif Nat.beq k n then some (.blk (qw (enc t o x.1) ns))else uH (enc t o x.1) ns (DC gs rs x.2) k
def DD:(gs:List Gp)->(rs:List (Nat×Rm))->(Nat->Option ax)->Option (A4 gs (qu rs))
 | [],rs,m=>xg rs m
 | (n,t,o,ns) :: gs,rs,m=>match m n with
  | some (.blk cs)=>(match gi m cs ns with
   | some vs=>(match dec t o vs,DD gs rs m with
    | some x,some y=>some (x,y)
    | _,_=>none)
   | none=>none)
  | _=>none
def xh:List V->List Nat->List Lm
 | [],_=>[]
 | .int k _ :: xs,ns=>.int k :: xh xs ns
 | .bool _ :: xs,ns=>.bool :: xh xs ns
 | .str _ :: xs,ns=>.str :: xh xs ns
 | _ :: xs,n :: ns=>.own n :: xh xs ns
 | _ :: xs,[]=>.bool :: xh xs []
def Ix:List V->List Nat->List (Nat×Rm)
 | .sl t o _ _ :: xs,n :: ns=>(n,.sl t o) :: Ix xs ns
 | _ :: xs,ns=>Ix xs ns
 | [],_=>[]
def Iy:List Gp->List (Nat×Rm)->List (Nat×Rm)
 | [],rs=>rs
 | (n,t,o,ns) :: gs,rs=>(n,.blk (xh (KZ t o) ns)) :: (Ix (KZ t o) ns++Iy gs rs)
structure aV where
 ts:List (Nat×Tm)
 rs:List (Nat×Rm)
 gs:List Gp
def aV.St(τ:aV):Type:=xe τ.ts×A4 τ.gs (qu τ.rs)
def aV.mk'(τ:aV)(x:τ.St):S:=⟨qt τ.ts x.1,DC τ.gs τ.rs x.2⟩
def aV.DE(τ:aV)(σ:S):Option τ.St:=match AZ τ.ts σ.t,DD τ.gs τ.rs σ.m with
 | some x,some y=>some (x,y)
 | _,_=>none
def aV.rd(τ:aV)(σ:S):Option τ.St:=match τ.DE σ with
 | some x=>some x
 | none=>match fq.rd ⟨τ.ts,Iy τ.gs τ.rs⟩ σ with
  | some z=>τ.DE (fq.mk' ⟨τ.ts,Iy τ.gs τ.rs⟩ z)
  | none=>none
section
variable {P:Program} {w w':World} {w0:Wd} {B N:Nat} {lab af:aH} {ρ ρ':Nat->Loc} {σ:S} {a:Act} {m:Nat->Option ax}
theorem aL.inv{x:V}{xs ys:List V}(k:aL (x :: xs) ys):∃ y zs,ys=y :: zs/\Wk x y/\aL xs zs:=by
 obtain⟨k1,k2⟩:=k
 cases ys with
 | nil=>simp at k1
 | cons y zs=>exact⟨y,zs,rfl,k2 0 x y rfl rfl,by simpa using k1,fun j a b ha U=>k2 (j+1) a b (by simpa using ha) (by simpa using U)⟩
theorem Wk.NW{x y:V}(h:Wk x y)(hp:x.plain=true):y=x:=by
 cases h <;>first | rfl | cases hp
theorem Wk.NX{x y:V}(h:Wk x y)(hp:x.plain=false):y.plain=false:=by
 cases h <;>first | exact hp | rfl
theorem Iz:∀ (cs:List Lf) (ns:List Nat) (vs ys:List V),gi m cs ns=some vs->aL vs ys->(qw ys ns).length=cs.length/\∀ (j:Nat) z,(qw ys ns)[j]?=some z->cs[j]?=some z
 | [],[],vs,ys,h,hw=>by
  simp only[gi,Option.some.injEq]at h
  subst h
  have:ys=[]:=List.eq_nil_of_length_eq_zero hw.1.symm
  subst this
  exact⟨rfl,fun j z hz=>by simp[qw]at hz⟩
 | .v x :: cs,ns,vs,ys,h,hw=>by
  unfold gi at h
  cases hp:x.plain with
  | false=>rw[hp]at h;cases h
  | true=>
   rw[hp,cond_true]at h
   split at h
   ·rename_i us cI
    injection h with h
    subst h
    obtain⟨y,zs,rfl,k1,k2⟩:=hw.inv
    obtain rfl:=k1.NW hp
    obtain⟨e1,e2⟩:=Iz cs ns us zs cI k2
    simp only[qw,hp,cond_true]
    refine⟨by simp[e1],fun j z hz=>?_⟩
    cases j with
    | zero=>simpa using hz
    | succ j=>exact e2 j z (by simpa using hz)
   ·cases h
 | .own [r] :: cs,n :: ns,vs,ys,h,hw=>by
  unfold gi at h
  cases U:Nat.beq r n with
  | false=>rw[U]at h;cases h
  | true=>
   rw[U,cond_true]at h
   obtain rfl:=Nat.eq_of_beq_eq_true U
   split at h
   ·rename_i y hy
    cases hp:y.plain with
    | true=>rw[hp]at h;cases h
    | false=>
     rw[hp,cond_false]at h
     split at h
     ·rename_i us cI
      injection h with h
      subst h
      obtain⟨y',zs,rfl,k1,k2⟩:=hw.inv
      have hq:=k1.NX hp
      obtain⟨e1,e2⟩:=Iz cs ns us zs cI k2
      simp only[qw,hq,cond_false]
      refine⟨by simp[e1],fun j z hz=>?_⟩
      cases j with
      | zero=>simpa using hz
      | succ j=>exact e2 j z (by simpa using hz)
     ·cases h
   ·cases h
 | [],_ :: _,vs,ys,h,_=>by simp[gi]at h
 | .dead :: _,_,vs,ys,h,_=>by simp[gi]at h
 | .own [] :: _,_,vs,ys,h,_=>by simp[gi]at h
 | .own (_ :: _ :: _) :: _,_,vs,ys,h,_=>by simp[gi]at h
 | .own [_] :: _,[],vs,ys,h,_=>by simp[gi]at h
theorem IA{f:Nat->Option ax}{k:Nat}{x:ax}:∀ (cs:List Lf) (ns:List Nat) (vs ys:List V),gi m cs ns=some vs->aL vs ys->uH ys ns f k=some x->f k=some x\/∃ v y,m k=some (.sl v)/\x = .sl y/\Wk v y
 | [],[],vs,ys,h,hw,hx=>by
  simp only[gi,Option.some.injEq]at h
  subst h
  have:ys=[]:=List.eq_nil_of_length_eq_zero hw.1.symm
  subst this
  exact .inl hx
 | .v x' :: cs,ns,vs,ys,h,hw,hx=>by
  unfold gi at h
  cases hp:x'.plain with
  | false=>rw[hp]at h;cases h
  | true=>
   rw[hp,cond_true]at h
   split at h
   ·rename_i us cI
    injection h with h
    subst h
    obtain⟨y,zs,rfl,k1,k2⟩:=hw.inv
    obtain rfl:=k1.NW hp
    simp only[uH,hp,cond_true]at hx
    exact IA cs ns us zs cI k2 hx
   ·cases h
 | .own [r] :: cs,n :: ns,vs,ys,h,hw,hx=>by
  unfold gi at h
  cases U:Nat.beq r n with
  | false=>rw[U]at h;cases h
  | true=>
   rw[U,cond_true]at h
   obtain rfl:=Nat.eq_of_beq_eq_true U
   split at h
   ·rename_i y hy
    cases hp:y.plain with
    | true=>rw[hp]at h;cases h
    | false=>
     rw[hp,cond_false]at h
     split at h
     ·rename_i us cI
      injection h with h
      subst h
      obtain⟨y',zs,rfl,k1,k2⟩:=hw.inv
      have hq:=k1.NX hp
      simp only[uH,hq,cond_false]at hx
      cases hk:Nat.beq k r with
      | true=>
       rw[hk,cond_true]at hx
       injection hx with hx
       obtain rfl:=Nat.eq_of_beq_eq_true hk
       exact .inr ⟨y,y',hy,hx.symm,k1⟩
      | false=>
       rw[hk,cond_false]at hx
       exact IA cs ns us zs cI k2 hx
     ·cases h
   ·cases h
 | [],_ :: _,vs,ys,h,_,_=>by simp[gi]at h
 | .dead :: _,_,vs,ys,h,_,_=>by simp[gi]at h
 | .own [] :: _,_,vs,ys,h,_,_=>by simp[gi]at h
 | .own (_ :: _ :: _) :: _,_,vs,ys,h,_,_=>by simp[gi]at h
 | .own [_] :: _,[],vs,ys,h,_,_=>by simp[gi]at h
theorem NY:∀ (gs:List Gp) (rs:List (Nat×Rm)) (y:A4 gs (qu rs)),DD gs rs m=some y->∀ k x,DC gs rs y k=some x->∃ x0,m k=some x0/\∀ (w:World) (B:Nat) (lab:aH) (ρ:Nat->Loc),bU w B lab ρ k x0->bU w B lab ρ k x
 | [],rs,y,h,k,x,hx=>by
  have h:xg rs m=some y:=h
  have hx:qv rs y k=some x:=hx
  rcases Iv rs m y h k with e | ⟨m',x0,z,e1,e2,e3⟩
  ·rw[e]at hx;cases hx
  ·rw[e3]at hx
   injection hx with hx
   subst hx
   exact⟨x0,e1,fun w B lab ρ hr=>Rm.kQ e2 hr⟩
 | (n,t,o,ns) :: gs,rs,y,h,k,x,hx=>by
  unfold DD at h
  split at h
  ·rename_i cs hm
   split at h
   ·rename_i vs cT
    split at h
    ·rename_i x1 y1 h1 h2
     injection h with h
     subst h
     have hw:=hU t o vs x1 h1
     simp only[DC]at hx
     cases hk:Nat.beq k n with
     | true=>
      rw[hk,cond_true]at hx
      injection hx with hx
      subst hx
      obtain rfl:=Nat.eq_of_beq_eq_true hk
      obtain⟨e1,e2⟩:=Iz cs ns vs _ cT hw
      refine⟨_,hm,fun w B lab ρ hr=>?_⟩
      cases hr with
      | blk b off cells e _ us au hl hh hs hc=>exact .blk b off cells e _ us au hl hh (by rw[e1];exact hs) fun j z hz=>hc j z (e2 j z hz)
     | false=>
      rw[hk,cond_false]at hx
      rcases IA cs ns vs _ cT hw hx with e | ⟨v,y',e1,rfl,e2⟩
      ·exact NY gs rs y1 h2 k x e
      ·refine⟨_,e1,fun w B lab ρ hr=>?_⟩
       cases hr with
       | sl u _ au hr=>exact .sl u _ au (hr.wk e2)
    ·cases h
   ·cases h
  ·cases h
theorem aV.NZ{τ:aV}{x:τ.St}(h:τ.DE σ=some x)(hR:R w0 N σ a w):R w0 N (τ.mk' x) a w:=by
 unfold aV.DE at h
 split at h
 ·rename_i u v h1 h2
  injection h with h
  subst h
  obtain⟨lab,ρ,hR⟩:=hR
  refine⟨lab,ρ,hR.below,hR.bh,fun n y hy=>?_,fun k=>?_,hR.size,hR.defers,hR.fix,hR.cF⟩
  ·obtain⟨x0,e1,e2⟩:=NY τ.gs τ.rs v h2 n y hy
   exact e2 _ _ _ _ (hR.root n x0 e1)
  ·show RA _ _ _ _ (qt τ.ts u k) _
   rcases Iu τ.ts σ.t u h1 k with e | ⟨m,z,e1,e2⟩
   ·rw[e];trivial
   ·rw[e2];exact Tm.kQ e1 (hR.tmp k)
 ·cases h
theorem aV.kQ{τ:aV}{x:τ.St}(h:τ.rd σ=some x)(hR:R w0 N σ a w):R w0 N (τ.mk' x) a w:=by
 unfold aV.rd at h
 split at h
 ·rename_i y hy
  injection h with h
  subst h
  exact aV.NZ hy hR
 ·split at h
  ·rename_i z hz
   exact aV.NZ h (fq.kQ hz hR)
  ·cases h
end
end Go.Proofs.YtjldnlbiefpekaaDoor
namespace Go.Proofs.YtjldnlbiefpekaaDoor
open Go.RowKit
set_option linter.unusedVariables false
def xj:Exit->Option Nat
 | .normal=>some 0
 | .ret=>some 1
 | .exit n=>some (n+2)
 | _=>none
def IB:Nat->Exit
 | 0=>.normal
 | 1=>.ret
 | n+2=>.exit n
theorem sS{e:Exit}{n:Nat}(h:xj e=some n):e=IB n:=by
 cases e <;>simp[xj]at h <;>subst h <;>rfl
def sU:List (Nat×aV)->Type
 | []=>Empty
 | (_,τ) :: r=>τ.St⊕sU r
def DF:(l:List (Nat×aV))->Nat->S->Option (sU l)
 | [],_,_=>none
 | (n,τ) :: r,e,σ=>bif Nat.beq n e then (match τ.rd σ with
  | some x=>some (.inl x)
  | none=>none)else (match DF r e σ with
  | some x=>some (.inr x)
  | none=>none)
def IC{X:Type}:(l:List (Nat×aV))->sU l->(Exit->S->Option X)->Option X
 | [],z,_=>nomatch z
 | (n,τ) :: r,z,k=>match z with
  | .inl x=>k (IB n) (τ.mk' x)
  | .inr z=>IC r z k
def iter{α β:Type}(step:α->Option (α⊕β)):Nat->α->Option β
 | 0,_=>none
 | n+1,x=>match step x with
  | some (.inl y)=>iter step n y
  | some (.inr z)=>some z
  | none=>none
def DG(P:Program)(N:Nat)(Φ:cc)(Λ:jA)(body:Code)(τ:aV)(jZ:List (Nat×aV))(x:τ.St):Option (τ.St⊕sU jZ):=
 dQ P N Φ Λ body (τ.mk' x) fun e σ=>match xj e with
  | some 0=>(match τ.rd σ with
   | some x=>some (.inl x)
   | none=>none)
  | some n=>(match DF jZ n σ with
   | some x=>some (.inr x)
   | none=>none)
  | none=>none
def ID{X:Type}(id:Nat)(k:Exit->S->Option X)(e:Exit)(σ:S):Option X:=
 match e with
 | .exit lB=>if lB=id then k .normal σ else k (.exit lB) σ
 | e=>k e σ
def eE(id:Nat)(τ:aV)(jZ:List (Nat×aV))(F:τ.St->Option (τ.St⊕sU jZ))(fuel:τ.St->Nat):dG:=
 ⟨fun X σ k=>match τ.rd σ with
  | some x=>(match iter F (fuel x) x with
   | some z=>IC jZ z (ID id k)
   | none=>none)
  | none=>none⟩
def lF:List (Bool×TC)->Type
 | []=>Unit
 | (_,t) :: r=>T t×lF r
def gB:(l:List (Bool×TC))->lF l->List Pt
 | [],_=>[]
 | (b,t) :: r,x=>(b,enc t 0 x.1) :: gB r x.2
def uI:(l:List (Bool×TC))->List Pt->Option (lF l)
 | [],[]=>some ()
 | (b,t) :: r,(b',vs) :: ps=>bif b==b' then (match dec t 0 vs,uI r ps with
  | some x,some xs=>some (x,xs)
  | _,_=>none)else none
 | _,_=>none
def cg(ai:List (Bool×TC))(ro:List (Bool×TC×Nat))(F:lF ai->Option (iw ro)):cu:=
 ⟨fun X args k=>match uI ai args with
  | some x=>(match F x with
   | some y=>k (cG ro y)
   | none=>none)
  | none=>none⟩
def IE:Pt->A
 | (false,[x])=>.lf (.v x)
 | (true,xs)=>.agg (xs.map .v)
 | (false,.bool true :: c :: cs)=>.ec (c :: cs)
 | (false,.bool false :: .int .i64 (.ofNat g) :: c :: cs)=>.ic g (c :: cs)
 | _=>.undef
def N0(args:List Pt):S:=⟨fun k=>match args[k]? with
 | some p=>IE p
 | none=>.undef,fun _=>none⟩
def DH{X:Type}(P:Program)(N:Nat)(Φ:cc)(Λ:jA)(code:Code)(rv:Array ResultVar)(args:List Pt)(k:dz->Option X):Option X:=
 dQ P N Φ Λ code (N0 args) fun e σ=>match xj e with
  | some 0=>zN P σ rv k
  | some 1=>zN P σ rv k
  | _=>none
section
variable {P:Program} {w w':World} {w0:Wd} {B N:Nat} {lab af:aH} {ρ ρ':Nat->Loc} {σ:S} {a:Act} {X:Type} {d:Nat} {r:X} {o:Oper} {Φ:cc} {Λ:jA}
theorem N1:∀ (l:List (Nat×aV)) (e:Nat) (z:sU l),DF l e σ=some z->∀ (X:Type) (k:Exit->S->Option X),∃ aa,IC l z k=k (IB e) aa/\∀ a w,R w0 N σ a w->R w0 N aa a w
 | [],e,z,h=>by cases h
 | (n,τ) :: l,e,z,h=>by
  intro X k
  unfold DF at h
  cases U:Nat.beq n e with
  | true=>
   obtain rfl:=Nat.eq_of_beq_eq_true U
   rw[U,cond_true]at h
   split at h
   ·rename_i x hx
    injection h with h
    subst h
    exact⟨τ.mk' x,rfl,fun a w hR=>aV.kQ hx hR⟩
   ·cases h
  | false=>
   rw[U,cond_false]at h
   split at h
   ·rename_i x hx
    injection h with h
    subst h
    exact N1 l e x hx X k
   ·cases h
theorem X3{id:Nat}{body:Code}{τ:aV}{jZ:List (Nat×aV)}{F:τ.St->Option (τ.St⊕sU jZ)}{fuel:τ.St->Nat}(aJ:dB P Φ)(fU:oD P N Λ (occs body))(hF:∀ x,DG P N Φ Λ body τ jZ x=F x):ez P N (.block id (.loop body)) (eE id τ jZ F fuel):=by
 intro X σ k r w0 h a w hR
 simp only[eE]at h
 split at h
 ·rename_i x hx
  split at h
  ·rename_i z hz
   refine wp_block ?_
   have key:∀ (n:Nat) (x:τ.St),iter F n x=some z->∀ (a:Act) (w:World),R w0 N (τ.mk' x) a w->∀ (b:Frame) (kk:List Item) (cs:List Frame),
     ∃ e a' w',Exit.inBlock id (fun e a' w'=>∃ aa,k e aa=some r/\R w0 N aa a' w') e a' w'/\Arrives P (lone (b.at a (.code body :: .inLoop body :: kk)) cs w) b kk cs e a' w':=by
    intro n
    induction n with
    | zero=>intro x hx;simp[iter]at hx
    | succ n ih=>
     intro x hx a w hR b kk cs
     simp only[iter]at hx
     have eV:∃ y,DG P N Φ Λ body τ jZ x=some y/\(match y with | .inl y=>iter F n y=some z | .inr z'=>z'=z):=by
      rw[hF]
      split at hx
      ·rename_i y hy;exact⟨_,hy,hx⟩
      ·rename_i y hy;exact⟨_,hy,by injection hx⟩
      ·cases hx
     obtain⟨y,hy,DI⟩:=eV
     unfold DG at hy
     have X4:=Dy (w0:=w0) aJ body _ _ hy fU a w hR
     obtain⟨e,a1,w1,⟨jy,kP,kK⟩,DJ⟩:=X4 b (.inLoop body :: kk) cs
     split at kP
     ·rename_i he
      have he:=sS he
      subst he
      split at kP
      ·rename_i x1 tu
       injection kP with kP
       subst kP
       obtain⟨e2,a2,w2,mj,X5⟩:=ih x1 DI a1 w1 (aV.kQ tu kK) b kk cs
       exact⟨e2,a2,w2,mj,.of_steps (Steps.trans DJ (.one step_inLoop)) X5⟩
      ·cases kP
     ·rename_i n' aA he
      have he:=sS he
      split at kP
      ·rename_i z1 X6
       injection kP with kP
       subst kP
       have DI:z1=z:=DI
       subst DI
       obtain⟨σ2,iR,gb⟩:=N1 (w0:=w0) (N:=N) jZ n' z1 X6 X (ID id k)
       rw[iR]at h
       rw[<-he]at h
       refine⟨e,a1,w1,?_,?_⟩
       ·cases e with
        | exit lB=>
         simp only[ID]at h
         simp only[Exit.inBlock]
         split at h
         ·rename_i hid;rw[if_pos hid];exact⟨σ2,h,gb a1 w1 kK⟩
         ·rename_i hid;rw[if_neg hid];exact⟨σ2,h,gb a1 w1 kK⟩
        | _=>exact⟨σ2,h,gb a1 w1 kK⟩
       ·refine .pass (x:=.inLoop body) rfl (fun _ _=>.inl ?_) DJ
        intro e'
        rw[e']at he
        match n',aA,he with
        | 0,aA,_=>exact aA rfl
        | 1,_,he=>cases he
        | n+2,_,he=>cases he
      ·cases kP
     ·cases kP
   intro b kk cs
   obtain⟨e,a',w',hq,DJ⟩:=key (fuel x) x hz a w (aV.kQ hx hR) b kk cs
   exact⟨e,a',w',hq,.of_steps (.one step_loop) DJ⟩
  ·cases h
 ·cases h
theorem PV.nA{key:Nat->List Nat}{b:Bool}{xs ys:List V}{u:Value}(h:PV w B lab key (b,xs) u)(k:aL xs ys):PV w B lab key (b,ys) u:=by
 obtain⟨us,hu,hs,hr⟩:=h
 refine⟨us,hu,hs.trans k.1,fun j y hy=>?_⟩
 have hj:j<xs.length:=by rw[k.1];exact(List.getElem?_eq_some_iff.1 hy).1
 obtain⟨v,hv,bx⟩:=hr j _ (List.getElem?_eq_getElem hj)
 exact⟨v,hv,bx.wk (k.2 j _ y (List.getElem?_eq_getElem hj) hy)⟩
theorem sg.nA{cs ds:List V}{u:Value}(h:sg w cs u)(k:aL cs ds):sg w ds u:=by
 obtain⟨b,off,hu,U,hr⟩:=h
 refine⟨b,off,hu,U,fun j y hy=>?_⟩
 have hj:j<cs.length:=by rw[k.1];exact(List.getElem?_eq_some_iff.1 hy).1
 obtain⟨v,hv,bx⟩:=hr j _ (List.getElem?_eq_getElem hj)
 exact⟨v,hv,bx.wk (k.2 j _ y (List.getElem?_eq_getElem hj) hy)⟩
theorem PA.nA{b:Bool}{xs ys:List V}{u:Value}(h:PA w (b,xs) u)(k:aL xs ys):PA w (b,ys) u:=by
 cases h with
 | v _ _ h=>exact .v _ _ (h.nA k)
 | p c cs _ h=>
  obtain⟨y,zs,rfl,k1,k2⟩:=k.inv
  cases k1
  have h:=h.nA k2
  obtain⟨c',cZ,rfl,_,_⟩:=k2.inv
  exact .p _ _ _ h
 | f g c cs u h=>
  obtain⟨y,zs,rfl,k1,k2⟩:=k.inv
  cases k1
  obtain⟨y,zs,rfl,k1,k3⟩:=k2.inv
  cases k1
  have h:=h.nA k3
  obtain⟨c',cZ,rfl,_,_⟩:=k3.inv
  exact .f _ _ _ _ h
theorem PA.ra{p:Pt}{u:Value}(h:PA w p u)(hf:∀ y∈p.2,y.av=true):RA w w.heap.size (fun _=>none) ρ (IE p) u:=by
 have N2:∀ {cs:List V} {u:Value},sg w cs u->(∀ y∈cs,y.av=true)->RF w w.heap.size (fun _=>none) cs u:=by
  rintro cs u ⟨b,off,rfl,U,hr⟩ hf
  refine⟨b,off,rfl,U,rfl,fun j x hx=>⟨hf x (List.mem_of_getElem? hx),hr j x hx⟩⟩
 cases h with
 | v _ _ h=>
  obtain⟨us,hu,hs,hr⟩:=h
  obtain⟨b,xs⟩:=p
  cases b with
  | true=>
   refine⟨us,hu,by rw[List.length_map];exact hs,fun i y hy=>?_⟩
   rw[List.getElem?_map]at hy
   cases hz:xs[i]? with
   | none=>rw[hz]at hy;cases hy
   | some z=>
    rw[hz]at hy
    injection hy with hy
    subst hy
    obtain⟨v,hv,bx⟩:=hr i z hz
    exact⟨v,hv,hf z (List.mem_of_getElem? hz),bx⟩
  | false=>
   have hu:us = #[u]:=hu
   subst hu
   have h1:xs.length=1:=hs.symm
   obtain⟨x,rfl⟩:=List.length_eq_one_iff.1 h1
   obtain⟨v,hv,bx⟩:=hr 0 x rfl
   have:u=v:=by simpa using hv
   subst this
   exact⟨hf x (by simp),bx⟩
 | p c cs _ h=>exact N2 h fun y hy=>hf y (.tail _ hy)
 | f g c cs u h=>exact⟨u,rfl,N2 h fun y hy=>hf y (.tail _ (.tail _ hy))⟩
theorem A5:∀ (l:List (Bool×TC)) (ps:List Pt) (x:lF l),uI l ps=some x->(gB l x).length=ps.length/\∀ (i:Nat) p,(gB l x)[i]?=some p->∃ q,ps[i]?=some q/\q.1=p.1/\aL q.2 p.2
 | [],[],x,h=>⟨rfl,fun i p hp=>by simp[gB]at hp⟩
 | (b,t) :: r,(b',vs) :: ps,x,h=>by
  unfold uI at h
  cases U:b==b' with
  | false=>rw[U]at h;cases h
  | true=>
   rw[U,cond_true]at h
   have U:b=b':=by simpa using U
   subst U
   split at h
   ·rename_i y ys h1 h2
    injection h with h
    subst h
    obtain⟨k1,k2⟩:=A5 r ps ys h2
    refine⟨by simp[gB,k1],fun i p hp=>?_⟩
    cases i with
    | zero=>simp[gB]at hp;subst hp;exact⟨(b,vs),rfl,rfl,hU t 0 vs y h1⟩
    | succ i=>exact k2 i p (by simpa [gB]using hp)
   ·cases h
 | [],_ :: _,x,h=>by simp[uI]at h
 | _ :: _,[],x,h=>by simp[uI]at h
def qx(l:List (Bool×TC×Nat)):Bool:=l.all fun p=>Nat.ble (full p.2.1) p.2.2
theorem N3(t:TC)(g:Nat)(x:T t)(h:full t<=g):(enc t g x).all V.loc=true:=by
 rw[List.all_eq_true]
 intro y hy
 have hg:=oW t g x y hy
 have hl:=B9 t g x y hy
 cases y with
 | sl t' o' q l=>
  have ho:o'=g:=by simpa [V.gr]using hg
  subst ho
  have hl:full t'+2<=full t:=Nat.le_of_ble_eq_true hl
  show sj t' o'=true
  match o',h with
  | 0,h=>omega
  | 1,h=>omega
  | n+2,h=>
   simp only[sj,Bool.or_eq_true]
   left
   exact Nat.ble_eq_true_of_le (by omega)
 | _=>rfl
theorem IF:∀ (l:List (Bool×TC×Nat)) (ps:List Pt) (x:iw l),qx l=true->iy l ps=some x->(mQ l x).length=ps.length/\∀ (nm:Nat->Nat) (off:Nat) (vs:List Value),fm w B lab nm off ps vs->fm w B lab nm off (mQ l x) vs
 | [],[],x,_,h=>⟨rfl,fun nm off vs hr=>hr⟩
 | [(b,t,g)],[(b',vs)],x,ho,h=>by
  unfold iy at h
  cases U:b==b' with
  | false=>rw[U]at h;cases h
  | true=>
   rw[U]at h
   have h:dec t g vs=some x:=h
   have U:b=b':=by simpa using U
   subst U
   have hg:full t<=g:=by simpa [qx]using ho
   refine⟨rfl,fun nm off us hr=>?_⟩
   match us,hr with
   | [u],⟨⟨_,h1⟩,_⟩=>exact⟨⟨N3 t g x hg,h1.nA (hU t g vs x h)⟩,trivial⟩
 | (b,t,g) :: q :: r,(b',vs) :: ps,x,ho,h=>by
  unfold iy at h
  cases U:b==b' with
  | false=>rw[U]at h;cases h
  | true=>
   rw[U,cond_true]at h
   have U:b=b':=by simpa using U
   subst U
   have nv:full t<=g/\qx (q :: r)=true:=by
    simp only[qx,List.all_cons,Bool.and_eq_true]at ho ⊢
    exact⟨Nat.le_of_ble_eq_true ho.1,ho.2⟩
   split at h
   ·rename_i y ys h1 h2
    injection h with h
    subst h
    obtain⟨k1,k2⟩:=IF (q :: r) ps ys nv.2 h2
    refine⟨by simp[mQ,k1],fun nm off us hr=>?_⟩
    match us,hr with
    | u :: us,⟨⟨_,hp⟩,fk⟩=>
     have hlen:vs.length=(enc t g y).length:=(hU t g vs y h1).1
     refine⟨⟨N3 t g y nv.1,hp.nA (hU t g vs y h1)⟩,?_⟩
     have pF:off+vs.length=off+(enc t g y).length:=by rw[hlen]
     have fk:fm w B lab nm (off+vs.length) ps us:=fk
     rw[pF]at fk
     exact k2 nm _ us fk
   ·cases h
 | [],_ :: _,x,_,h=>by simp[iy]at h
 | [_],[],x,_,h=>by simp[iy]at h
 | [_],_ :: _ :: _,x,_,h=>by simp[iy]at h
 | _ :: _ :: _,[],x,_,h=>by simp[iy]at h
theorem N4{l:List (Bool×TC×Nat)}{res:dz}{x:iw l}(ho:qx l=true)(h:pU l res=some x){nm:Nat->Nat}{v:Value}(hr:jx w B lab nm res v):jx w B lab nm (cG l x) v:=by
 cases res with
 | one p=>
  obtain⟨k1,k2⟩:=IF (w:=w) (B:=B) (lab:=lab) l [p] x ho h
  have hr:fm w B lab nm 0 [p] [v]:=hr
  have:=k2 nm 0 [v] hr
  unfold cG
  match hm:mQ l x,k1,this with
  | [q],_,this=>exact this
  | [],k1,_=>cases k1
  | _ :: _ :: _,k1,_=>simp at k1
 | aU ps=>
  simp only[pU]at h
  cases U:Nat.beq ps.length 1 with
  | true=>rw[U]at h;cases h
  | false=>
   rw[U,cond_false]at h
   obtain⟨k1,k2⟩:=IF (w:=w) (B:=B) (lab:=lab) l ps x ho h
   obtain⟨vs,e,hr⟩:=hr
   have:=k2 nm 0 _ hr
   unfold cG
   match hm:mQ l x,k1,this with
   | [q],k1,this=>simp only[List.length_singleton]at k1;rw[<-k1]at U;cases U
   | [],_,this=>exact⟨vs,e,this⟩
   | _ :: _ :: _,_,this=>exact⟨vs,e,this⟩
theorem N5:∀ (l:List (Bool×TC)) (x:lF l),(gB l x).length=l.length
 | [],x=>rfl
 | (b,t) :: l,x=>by simp[gB,N5 l]
theorem N6:∀ (l:List (Bool×TC)) (x:lF l) (j:Nat) (p:Pt),(gB l x)[j]?=some p->∀ y∈p.2,y.av=true
 | [],x,j,p,hp,_,_=>by simp[gB]at hp
 | (b,t) :: l,x,0,p,hp,y,hy=>by
  simp[gB]at hp
  subst hp
  obtain⟨i,hi⟩:=List.mem_iff_getElem?.1 hy
  exact fY t 0 x.1 (by omega) i y hi
 | (b,t) :: l,x,j+1,p,hp,y,hy=>N6 l x.2 j p (by simpa [gB]using hp) y hy
theorem X7{f:Nat}{fn:Func}{code:Code}{uJ:List Pt}{ro:List (Bool×TC×Nat)}{y:iw ro}(hf:P.funcs[f]?=some fn)(U:fn.body=some code)(hN:fn.ntmps=N)(hle:uJ.length<=N)(bE:qx ro=true)
  (aJ:dB P Φ) (fU:oD P N Λ (occs code)) (X8:∀ (j:Nat) p,uJ[j]?=some p->∀ y∈p.2,y.av=true) (hy:DH P N Φ Λ code fn.results uJ (pU ro)=some y) (nm:Nat->Nat) (w:World) (aM:Array Value) (cR:si w uJ aM) (hQ:Hd w (fun _=>none)):
  Calls P f aM w fun e w'=>∃ v af,e = .returned v/\Below w.heap.size w w'/\(∀ b k,af b=some k->w.heap.size<=b/\b<w'.heap.size/\k≠[])/\jx w' w.heap.size af nm (cG ro y) v:=by
 have hle:aM.size<=N:=by rw[cR.1];exact hle
 refine calls_of_wp hf U ?_
 unfold DH at hy
 have hR:R (.of w hQ) N (N0 uJ) { tmps:=aM++Array.replicate (fn.ntmps-aM.size) undef,defers:=[] } w:=by
  refine⟨fun _=>none,fun _=>.blk 0 0,.of (Below.refl w.heap.size w) (Nat.le_refl _),(fun b k hk=>by cases hk),(fun n y hy=>by cases hy),fun j=>?_,by simp[hN];omega,rfl,(fun r l h=>by cases h),(fun _ _=>rfl)⟩
  show RA w w.heap.size _ _ (match uJ[j]? with | some p=>IE p | none=>.undef) _
  cases hp:uJ[j]? with
  | none=>trivial
  | some p=>
   obtain⟨u,hu,mT⟩:=cR.2 j p hp
   have hj:j<aM.size:=(Array.getElem?_eq_some_iff.1 hu).1
   have e:(aM++Array.replicate (fn.ntmps-aM.size) undef).getD j undef=u:=by rw[Array.getD_eq_getD_getElem?,Array.getElem?_append_left hj,hu];rfl
   rw[e]
   exact mT.ra (X8 j p hp)
 refine wp_mono (Dy (w0:=.of w hQ) aJ code _ _ hy fU _ w hR) fun e a' w' he=>?_
 obtain⟨aa,hk,lab,ρ,aB⟩:=he
 have fin:zN P aa fn.results (pU ro)=some y->a'.defers=[]/\∃ v,(results fn a'.tmps).run P w' = .ok v w'/\∃ sV af,Ending.returned v=Ending.returned sV/\Below w.heap.size w w'/\(∀ b k,af b=some k->w.heap.size<=b/\b<w'.heap.size/\k≠[])/\jx w' w.heap.size af nm (cG ro y) sV:=by
  intro uK
  obtain⟨res,er,aD⟩:=UE (w0:=.of w hQ) (N:=N) (fn:=fn) uK
  obtain⟨v,af,h1,h2,h3⟩:=aD lab ρ a' w' aB nm
  exact⟨aB.defers,v,h1,v,af,rfl,⟨aB.below.os,aB.below.tape,aB.below.output,aB.below.size,fun k hk=>aB.below.block k hk rfl⟩,fun b k U=>⟨(h2 b k U).1.resolve_right (fun h=>h rfl),(h2 b k U).2⟩,N4 bE er h3⟩
 split at hk
 ·rename_i he
  have he:=sS he
  subst he
  exact fin hk
 ·rename_i he
  have he:=sS he
  subst he
  exact fin hk
 ·cases hk
theorem X9{f:Nat}{fn:Func}{code:Code}{ai:List (Bool×TC)}{ro:List (Bool×TC×Nat)}{F:lF ai->Option (iw ro)}(hf:P.funcs[f]?=some fn)(U:fn.body=some code)(hN:fn.ntmps=N)(qy:(fn.name == "runtime.NumGoroutine")=false)(A6:Nat.ble ai.length N=true)(bE:qx ro=true)
  (aJ:dB P Φ) (fU:oD P N Λ (occs code)) (hF:∀ x,DH P N Φ Λ code fn.results (gB ai x) (pU ro)=F x):enters P f/\cw P f (cg ai ro F):=by
 refine⟨⟨fn,hf,qy,by rw[U];rfl⟩,fun X args k r h=>?_⟩
 simp only[cg]at h
 split at h
 ·rename_i x hx
  split at h
  ·rename_i y hy
   refine⟨_,h,fun X' k'=>by simp only[cg,hx,hy],fun nm w aM cR hQ=>?_⟩
   obtain⟨k1,k2⟩:=A5 ai args x hx
   refine X7 hf U hN (by rw[N5];exact Nat.le_of_ble_eq_true A6) bE aJ fU (N6 ai x) ((hF x).trans hy) nm w aM ⟨cR.1.trans k1.symm,fun j p hp=>?_⟩ hQ
   obtain⟨q,hq,kJ,mj⟩:=k2 j p hp
   obtain⟨u,hu,mT⟩:=cR.2 j q hq
   refine⟨u,hu,?_⟩
   obtain⟨b,ys⟩:=p
   obtain⟨b',xs⟩:=q
   simp only at kJ
   subst kJ
   exact mT.nA mj
  ·cases h
 ·cases h
end
end Go.Proofs.YtjldnlbiefpekaaDoor
namespace Go.Proofs.YtjldnlbiefpekaaDoor
open Go.RowKit
set_option linter.unusedVariables false
def IG{X:Type}(P:Program)(N:Nat)(Φ:cc)(Λ:jA)(code:Code)(rv:Array ResultVar)(ins:List In)(args:List Ar)(k:List In->dz->Option X):Option X:=
 dQ P N Φ Λ code (sx ins args) fun e σ=>match xj e with
  | some 0=>zX P σ rv ins k
  | some 1=>zX P σ rv ins k
  | _=>none
section
variable {P:Program} {w w':World} {w0:Wd} {B N:Nat} {lab af:aH} {ρ ρ':Nat->Loc} {σ:S} {a:Act} {X:Type} {d:Nat} {r:X} {o:Oper} {Φ:cc} {Λ:jA}
theorem fnM_core{f:Nat}{fn:Func}{code:Code}{ins:List In}{args:List Ar}{k:List In->dz->Option X}(hf:P.funcs[f]?=some fn)(U:fn.body=some code)(hN:fn.ntmps=N)(N7:N<=20000)(hlen:args.length<=N)
  (aJ:dB P Φ) (fU:oD P N Λ (occs code)) (h:IG P N Φ Λ code fn.results ins args k=some r) (nm:Nat->Nat) (w:World) (lab:aH) (ρ:Nat->Loc) (aM:Array Value)
  (hE:jT w w.heap.size lab ρ 0 ins) (fP:∀ b k,lab b=some k->b<w.heap.size/\k≠[]) (hsz:aM.size=args.length) (hv:∀ i,RA w w.heap.size lab ρ ((sx ins args).t i) (aM.getD i undef)) (hQ:Hd w lab):
  Calls P f aM w fun e w'=>∃ v af outs res,k outs res=some r/\e = .returned v/\eL ⟨w,lab,fun _=>none,hQ,fun _ _=>rfl⟩ w w'/\(∀ b k,af b=some k->(w.heap.size<=b\/lab b≠none)/\b<w'.heap.size/\k≠[])/\jx w' w.heap.size af nm res v/\lp w w' af ρ nm 0 res.len ins outs:=by
 let W:Wd:=⟨w,lab,fun r=>if 20000<=r/\r<60000 then some (ρ r)else none,hQ,fun r hr=>if_neg (by omega)⟩
 refine calls_of_wp hf U ?_
 unfold IG at h
 have hR:R W N (sx ins args) { tmps:=aM++Array.replicate (fn.ntmps-aM.size) undef,defers:=[] } w:=by
  refine⟨lab,ρ,.of (Below.refl w.heap.size w) (Nat.le_refl _),fun b k U=>⟨.inr (by rw[show W.L b=lab b from rfl,U];simp),fP b k U⟩,jT.roots ins 0 _ hE (fun r x hx=>by cases hx),fun j=>?_,by simp[hN];omega,rfl,fun r l hr=>?_,fun r hr=>?_⟩
  ·by_cases hj:j<aM.size
   ·have e:(aM++Array.replicate (fn.ntmps-aM.size) undef).getD j undef=aM.getD j undef:=by
     rw[Array.getD_eq_getD_getElem?,Array.getElem?_append_left hj,Array.getD_eq_getD_getElem?]
    show RA w w.heap.size lab ρ _ ((aM++Array.replicate (fn.ntmps-aM.size) undef).getD j undef)
    rw[e]
    exact hv j
   ·have e:(sx ins args).t j = .undef:=by
     simp only[sx,List.getElem?_eq_none (by omega:args.length<=j)]
    rw[e]
    trivial
  ·have hr:(if 20000<=r/\r<60000 then some (ρ r)else none)=some l:=hr
   split at hr
   ·injection hr
   ·cases hr
  ·show (if 20000<=r/\r<60000 then some (ρ r)else none)=none
   rw[if_neg (by omega)]
 refine wp_mono (Dy (w0:=W) aJ code _ _ h fU _ w hR) fun e a' w' he=>?_
 obtain⟨aa,hk,gx,pQ,aB⟩:=he
 have fin:zX P aa fn.results ins k=some r->a'.defers=[]/\∃ v,(results fn a'.tmps).run P w' = .ok v w'/\∃ sV af outs res,k outs res=some r/\Ending.returned v=Ending.returned sV/\eL ⟨w,lab,fun _=>none,hQ,fun _ _=>rfl⟩ w w'/\(∀ b k,af b=some k->(w.heap.size<=b\/lab b≠none)/\b<w'.heap.size/\k≠[])/\jx w' w.heap.size af nm res sV/\lp w w' af ρ nm 0 res.len ins outs:=by
  intro uK
  obtain⟨outs,res,Ya,aD⟩:=UL (w0:=W) (N:=N) (fn:=fn) (w1:=w) (oa:=ρ) rfl (fun r h1 h2=>if_pos ⟨h1,h2⟩) (jT.GP ins 0 hE) uK
  obtain⟨v,af,h1,h2,h3,h4⟩:=aD gx pQ a' w' aB nm
  exact⟨aB.defers,v,h1,v,af,outs,res,Ya,rfl,⟨aB.below.os,aB.below.tape,aB.below.output,aB.below.size,fun k hk=>aB.below.block k hk⟩,h2,h3,h4⟩
 split at hk
 ·rename_i he
  have he:=sS he
  subst he
  exact fin hk
 ·rename_i he
  have he:=sS he
  subst he
  exact fin hk
 ·cases hk
end
end Go.Proofs.YtjldnlbiefpekaaDoor
namespace Go.Proofs.YtjldnlbiefpekaaDoor
open Go.RowKit
set_option linter.unusedVariables false
def lG:(l:List (Bool×TC×Nat))->List In->Option (pV l)
 | [],[]=>some ()
 | (true,t,g) :: r,.blk cs :: is=>match dec t g cs,lG r is with
  | some x,some xs=>some (x,xs)
  | _,_=>none
 | (false,t,g) :: r,.sl y :: is=>match (bif Nat.ble 1000000 g then (bif y.fK then none else y.bS t (g+2))else bif y.fK then y.bS t (g+2)else none),lG r is with
  | some x,some xs=>some (x,xs)
  | _,_=>none
 | _,_=>none
def DK:List In->List In->List In->Prop
 | [],[],[]=>True
 | .blk DL :: r0,.blk cs :: r,.blk cZ :: r'=>(aL cs cZ/\DL.map (fun v=>(v.plain,v.av))=cZ.map (fun v=>(v.plain,v.av))/\∀ x∈cZ,x.fK=true)/\DK r0 r r'
 | .sl _ :: r0,.sl y :: r,.sl y' :: r'=>(Wk y y'/\(y = .nil->y' = .nil))/\DK r0 r r'
 | _,_,_=>False
theorem DM:∀ (ps:List PK) (x0:jd ps) (is:List In) (x:pV (cJ ps)),lG (cJ ps) is=some x->DK (lq ps x0) is (eA (cJ ps) x)
 | [],_,[],x,_=>trivial
 | [],_,_ :: _,x,h=>by simp[lG,cJ]at h
 | .v b t :: ps,x0,is,x,h=>DM ps x0.2 is x h
 | .p t g off :: ps,x0,[],x,h=>by simp[lG,cJ]at h
 | .s t g :: ps,x0,[],x,h=>by simp[lG,cJ]at h
 | .p t g off :: ps,x0,.sl _ :: _,x,h=>by simp[lG,cJ]at h
 | .s t g :: ps,x0,.blk _ :: _,x,h=>by simp[lG,cJ]at h
 | .p t g off :: ps,x0,.blk cs :: is,x,h=>by
  have h:lG ((true,t,g) :: cJ ps) (.blk cs :: is)=some x:=h
  unfold lG at h
  split at h
  ·rename_i y ys h1 h2
   injection h with h
   subst h
   exact⟨⟨hU t g cs y h1,Ty t g x0.1 y,fun z hz=>FQ t g y z hz⟩,DM ps x0.2 is ys h2⟩
  ·cases h
 | .s t g :: ps,x0,.sl y :: is,x,h=>by
  have h:lG ((false,t,g) :: cJ ps) (.sl y :: is)=some x:=h
  unfold lG at h
  split at h
  ·rename_i z zs h1 h2
   injection h with h
   subst h
   refine⟨?_,DM ps x0.2 is zs h2⟩
   cases U:Nat.ble 1000000 g with
   | true=>
    cases hy:y.fK with
    | true=>rw[U,hy]at h1;cases h1
    | false=>
     have:y = .nil:=by cases y <;>first | rfl | cases hy
     subst this
     exact⟨.same _,fun _=>rfl⟩
   | false=>
    cases hy:y.fK with
    | false=>rw[U,hy]at h1;cases h1
    | true=>
     rw[U,hy]at h1
     exact⟨V.bW h1,fun e=>by subst e;cases hy⟩
  ·cases h
theorem lp.typed{w w':World}{af:aH}{ρ:Nat->Loc}{nm:Nat->Nat}:∀ (ins:List In) (i pos:Nat) (outs xk:List In),lp w w' af ρ nm i pos ins outs->DK ins outs xk->zW w w' af ρ nm i pos ins xk
 | [],i,pos,[],[],h,hk=>trivial
 | .blk DL :: ins,i,pos,.blk N8 :: outs,.blk w5 :: xk,h,hk=>by
  obtain⟨⟨b,off,cells,jc,e,e',h1,h2,h3,h4,h5,h6,h7⟩,hr⟩:=h
  obtain⟨⟨hw,II,Yb⟩,cm⟩:=hk
  refine⟨⟨b,off,cells,jc,e,e',h1,h2,h3,h4,by rw[<-hw.1];exact h5,by rw[<-hw.1];exact h6,fun j x hx=>?_⟩,lp.typed ins _ _ outs xk hr cm⟩
  have hj:j<N8.length:=by rw[hw.1];exact(List.getElem?_eq_some_iff.1 hx).1
  obtain⟨u,hu,hc⟩:=h7 j _ (List.getElem?_eq_getElem hj)
  have hk:=hw.2 j _ x (List.getElem?_eq_getElem hj) hx
  have Yc:∀ x0,DL[j]?=some x0->x0.plain=x.plain/\x0.av=x.av:=by
   intro x0 h0
   have e1:(DL.map (fun v=>(v.plain,v.av)))[j]?=(w5.map (fun v=>(v.plain,v.av)))[j]?:=by rw[II]
   rw[List.getElem?_map,List.getElem?_map,h0,hx]at e1
   simpa using e1
  have Yd:=Yb x (List.mem_of_getElem? hx)
  generalize N8[j]=y at hc hk
  refine⟨u,hu,?_⟩
  rcases hc with ⟨c1,c2⟩ | ⟨c1,c2,x0,c3,c4⟩ | ⟨c1,c2,c6,⟨x0,c3,c4⟩,c5⟩ | ⟨c1,c2⟩
  ·cases hk with
   | same=>exact .inl ⟨c1,c2⟩
   | nil t o=>cases c1
   | q t o l=>cases c1
   | gr=>cases c1
  ·subst c1 c2
   have hf:x.av=false:=by rw[<-(Yc x0 c3).2];exact c4
   cases hk with
   | same=>cases Yd
   | nil t o=>exact .inr (.inr ⟨hf,.bg _ _ _⟩)
  ·cases hk with
   | same=>exact .inr (.inl ⟨c1,c2,c5⟩)
   | nil t o=>cases c6
   | q t o l=>exact .inr (.inl ⟨rfl,c2,c5⟩)
   | gr t o o' qn l h1 h2=>simp[V.av]at c2;omega
  ·have hf:=hk.GV c1
   exact .inr (.inr ⟨hf,c2.wk hk⟩)
 | .sl y0 :: ins,i,pos,.sl y1 :: outs,.sl y2 :: xk,h,hk=>by
  obtain⟨h,hr⟩:=h
  obtain⟨⟨hw,hn⟩,cm⟩:=hk
  exact⟨h.imp hn (fun⟨v,h1,h2⟩=>⟨v,h1,h2.wk hw⟩),lp.typed ins _ _ outs xk hr cm⟩
 | [],_,_,_ :: _,_,h,_=>h.elim
 | [],_,_,[],_ :: _,_,h=>h.elim
 | .blk _ :: _,_,_,[],_,h,_=>h.elim
 | .sl _ :: _,_,_,[],_,h,_=>h.elim
 | .blk _ :: _,_,_,.sl _ :: _,_,h,_=>h.elim
 | .sl _ :: _,_,_,.blk _ :: _,_,h,_=>h.elim
 | .blk _ :: _,_,_,.blk _ :: _,[],_,h=>h.elim
 | .blk _ :: _,_,_,.blk _ :: _,.sl _ :: _,_,h=>h.elim
 | .sl _ :: _,_,_,.sl _ :: _,[],_,h=>h.elim
 | .sl _ :: _,_,_,.sl _ :: _,.blk _ :: _,_,h=>h.elim
theorem N9:∀ (l:List (Bool×TC×Nat)) (ps:List Pt) (x:iw l),iy l ps=some x->(ps.map fun p=>p.2.length)=((mQ l x).map fun p=>p.2.length)
 | [],[],x,h=>rfl
 | [(b,t,g)],[(b',vs)],x,h=>by
  unfold iy at h
  cases U:b==b' with
  | false=>rw[U]at h;cases h
  | true=>
   rw[U]at h
   have h:dec t g vs=some x:=h
   simp[mQ,(hU t g vs x h).1]
 | (b,t,g) :: q :: r,(b',vs) :: ps,x,h=>by
  unfold iy at h
  cases U:b==b' with
  | false=>rw[U]at h;cases h
  | true=>
   rw[U,cond_true]at h
   split at h
   ·rename_i y ys h1 h2
    injection h with h
    subst h
    simp only[mQ,List.map_cons]
    rw[N9 (q :: r) ps ys h2,(hU t g vs y h1).1]
   ·cases h
 | [],_ :: _,x,h=>by simp[iy]at h
 | [_],[],x,h=>by simp[iy]at h
 | [_],_ :: _ :: _,x,h=>by simp[iy]at h
 | _ :: _ :: _,[],x,h=>by simp[iy]at h
theorem Ye{l:List (Bool×TC×Nat)}{res:dz}{x:iw l}(h:pU l res=some x):res.len=(cG l x).len:=by
 have key:∀ ps,iy l ps=some x->(ps.map fun p=>p.2.length).sum=(cG l x).len:=by
  intro ps h
  rw[N9 l ps x h]
  unfold cG
  match hm:mQ l x with
  | [q]=>simp[dz.len]
  | []=>rfl
  | _ :: _ :: _=>rfl
 cases res with
 | one p=>have:=key [p] h;simpa [dz.len]using this
 | aU ps=>
  simp only[pU]at h
  cases U:Nat.beq ps.length 1 with
  | true=>rw[U]at h;cases h
  | false=>rw[U,cond_false]at h;exact key ps h
section
variable {P:Program} {w w':World} {w0:Wd} {B N:Nat} {lab af:aH} {ρ ρ':Nat->Loc} {σ:S} {a:Act} {X:Type} {d:Nat} {r:X} {o:Oper} {Φ:cc} {Λ:jA}
def Oa(l:List (Bool×TC×Nat))(ro:List (Bool×TC×Nat))(outs:List In)(res:dz):Option (iw ro×pV l):=
 match pU ro res,lG l outs with
 | some x,some y=>some (x,y)
 | _,_=>none
theorem IJ{f:Nat}{fn:Func}{code:Code}{ps:List PK}{ro:List (Bool×TC×Nat)}{F:jd ps->Option (iw ro×pV (cJ ps))}(hf:P.funcs[f]?=some fn)(U:fn.body=some code)(hN:fn.ntmps=N)(qy:(fn.name == "runtime.NumGoroutine")=false)(A6:Nat.ble ps.length N=true)(N7:Nat.ble N 20000=true)(bE:qx ro=true)
  (aJ:dB P Φ) (fU:oD P N Λ (occs code)) (hF:∀ x,IG P N Φ Λ code fn.results (lq ps x) (iz ps 0 x) (Oa (cJ ps) ro)=F x):enters P f/\mR P f ⟨ps,ro,F⟩:=by
 refine⟨⟨fn,hf,qy,by rw[U];rfl⟩,fun x y h nm w lab ρ aM hE fP hsz hv hQ=>?_⟩
 have h:F x=some y:=h
 rw[<-hF x]at h
 have hlen:∀ (ps:List PK) (i:Nat) (x:jd ps),(iz ps i x).length=ps.length:=by
  intro ps
  induction ps with
  | nil=>intro i x;rfl
  | cons p ps ih=>
   intro i x
   cases p with
   | v=>exact congrArg (· + 1) (ih _ _)
   | p=>exact congrArg (· + 1) (ih _ _)
   | s=>exact congrArg (· + 1) (ih _ _)
 have hsz:aM.size=(iz ps 0 x).length:=by rw[hlen];exact hsz
 refine(fnM_core hf U hN (Nat.le_of_ble_eq_true N7) (by rw[hlen];exact Nat.le_of_ble_eq_true A6) aJ fU h nm w lab ρ aM hE fP hsz hv hQ).mono fun e w' fG=>?_
 obtain⟨v,af,outs,res,hk,he,dj,hl,er,G5⟩:=fG
 unfold Oa at hk
 split at hk
 ·rename_i y1 y2 h1 h2
  injection hk with hk
  subst hk
  refine⟨v,af,he,dj,hl,N4 bE h1 er,?_⟩
  rw[<-Ye h1]
  exact lp.typed _ _ _ _ _ G5 (DM ps x outs y2 h2)
 ·cases hk
end
end Go.Proofs.YtjldnlbiefpekaaDoor
namespace Go.Proofs.YtjldnlbiefpekaaDoor
open Go.RowKit
set_option linter.unusedVariables false
set_option maxRecDepth 100000
section
variable {P:Program} {w w':World} {w0:Wd} {B N:Nat} {lab af:aH} {ρ ρ':Nat->Loc} {σ:S} {a:Act} {X:Type} {d:Nat} {r:X} {o:Oper} {Φ:cc} {Λ:jA}
end
end Go.Proofs.YtjldnlbiefpekaaDoor
namespace Go.Proofs.YtjldnlbiefpekaaDoor
open Go.RowKit
set_option linter.unusedVariables false
set_option maxRecDepth 100000
def nV(i j:Nat):Nat:=20001+1000*i+j
def ac7(σ:S)(rv:Array ResultVar)(a j:Nat)(t:TC):Option (Nat×Nat):=match rv.toList with
 | [.tmp s]=>(match σ.t s with
  | .view [n] sz i k=>bif Nat.beq n (nV a j)&&Nat.beq sz (aj t)then some (i,k)else none
  | _=>none)
 | _=>none
section
variable {P:Program} {w w':World} {w0:Wd} {B N:Nat} {lab af:aH} {ρ ρ':Nat->Loc} {σ:S} {a:Act} {X:Type} {d:Nat} {r:X} {o:Oper} {Φ:cc} {Λ:jA}
end
end Go.Proofs.YtjldnlbiefpekaaDoor
namespace Go.Proofs.YtjldnlbiefpekaaDoor
open Go.RowKit
set_option linter.unusedVariables false
def Wd.Yf(d:Wd)(g:Nat)(l:Option Loc)(hg:20000<=g):Wd:=⟨d.w,d.L,fun r=>if r=g then l else d.F r,d.held,fun r hr=>by
 show (if r=g then l else d.F r)=none
 rw[if_neg (by omega)]
 exact d.low r hr⟩
def sW(g:Nat):List (Bool×List Lf)->A
 | [(false,[x])]=>.lf (x.drop g)
 | [(true,cs)]=>.agg (cs.map (Lf.drop g))
 | [(false,_)]=>.undef
 | ps=>.aU (ps.map fun p=>(p.1,p.2.map (Lf.drop g)))
def uL{X:Type}(P:Program)(g:Nat)(rv:Array ResultVar)(τ:S)(k:S->A->Option X):Option X:=
 jQ P τ rv.toList fun ps=>match τ.m g with
  | some (.gh ys)=>k ⟨fun j=>((ys.map (A.drop g))[j]?).getD .undef,(τ.drop g).m⟩ (sW g ps)
  | _=>none
def Ob(g N:Nat)(σ:S)(xs:List A):S:=⟨fun j=>((xs.map (A.drop g))[j]?).getD .undef,aI (σ.drop g).m g (some (.gh ((List.range N).map fun j=>(σ.t j).drop g)))⟩
def A7:jA:=fun _=>none
def A8{X:Type}(P:Program)(M g:Nat)(Φ:cc)(code:Code)(rv:Array ResultVar)(N:Nat)(σ:S)(xs:List A)(k:S->A->Option X):Option X:=
 bif Nat.ble xs.length M then dQ P M Φ A7 code (Ob g N σ xs) fun e τ=>match xj e with
  | some 0=>uL P g rv τ k
  | some 1=>uL P g rv τ k
  | _=>none
 else none
def Oc(P:Program)(M g:Nat)(Φ:cc)(code:Code)(rv:Array ResultVar):mW:=⟨fun X N σ xs k=>A8 P M g Φ code rv N σ xs k⟩
section
variable {P:Program} {w w':World} {w0:Wd} {B M N g:Nat} {lab af:aH} {ρ ρ':Nat->Loc} {σ:S} {a:Act} {X:Type} {d:Nat} {r:X} {o:Oper} {Φ:cc} {Λ:jA}
theorem DN{dst:Option Tmp}{gd:Bool}{k:S->Option X}(h:splitK σ dst gd k=some r):∃ τ,k τ=some r/\aS (fun X k=>splitK (X:=X) σ dst gd k) τ:=by
 unfold splitK at h
 cases gd with
 | false=>exact⟨σ,h,fun X k=>rfl⟩
 | true=>
  rw[cond_true]at h
  split at h
  ·rename_i d
   split at h
   ·rename_i b U
    cases b with
    | true=>exact⟨_,h,fun X k=>by simp only[splitK,cond_true,U]⟩
    | false=>exact⟨_,h,fun X k=>by simp only[splitK,cond_true,U,cond_false]⟩
   ·rename_i U
    exact⟨σ,h,fun X k=>by
     show splitK σ (some d) true k=k σ
     unfold splitK
     simp only[cond_true]⟩
  ·exact⟨σ,h,fun X k=>rfl⟩
theorem Yg[Inhabited Wd]{ops:Array Oper}{L i:Nat}{k:S->Option X}(h:sP P N Φ ops L i σ o k=some r):∃ τ,k τ=some r/\aS (fun X k=>sP (X:=X) P N Φ ops L i σ o k) τ:=by
 unfold sP at h
 split at h
 ·rename_i hw
  obtain⟨v,h1,hd,_⟩:=wR (w0:=default) (N:=N) h
  cases hv:v.fS (oC Φ ops i L (waits ops i ops.size 0 0) σ) (qf σ ops i L (waits ops i ops.size 0 0))with
  | false=>rw[hv]at h1;cases h1
  | true=>
   rw[hv,cond_true]at h1
   obtain⟨h2,h3⟩:=fT h1
   exact⟨_,h2,fun X k=>by
    simp only[sP,hw]
    refine(hd.at_ _).trans ?_
    rw[hv,cond_true]
    exact(h3 σ).at_ _⟩
 ·rename_i hw
  obtain⟨h1,h2⟩:=fT h
  exact⟨_,h1,fun X k=>by simp only[sP,hw];exact(h2 σ).at_ _⟩
 ·cases h
theorem IK[Inhabited Wd](aJ:dB P Φ){ops:Array Oper}{k:S->Option X}(h:bO P N Φ ops σ o k=some r):∃ τ,k τ=some r/\aS (fun X k=>bO (X:=X) P N Φ ops σ o k) τ:=by
 unfold bO at h
 split at h
 ·rename_i hw
  obtain⟨τ,h1,h2⟩:=C9 aJ h
  exact⟨τ,h1,fun X k=>by simp only[bO,hw];exact h2 X k⟩
 ·rename_i hw
  obtain⟨h1,h2⟩:=fT h
  exact⟨_,h1,fun X k=>by simp only[bO,hw];exact(h2 σ).at_ _⟩
 ·cases h
theorem A9[Inhabited Wd](aJ:dB P Φ){ops:Array Oper}:∀ (f L:Nat) (σ:S) (k:S->Option X),gP P N Φ ops f L σ k=some r->∃ τ,k τ=some r/\aS (fun X k=>gP (X:=X) P N Φ ops f L σ k) τ
 | 0,L,σ,k,h=>by
  unfold gP at h
  split at h
  ·rename_i hr
   exact⟨σ,h,fun X k=>by simp only[gP,hr]⟩
  ·cases h
 | f+1,L,σ,k,h=>by
  unfold gP at h
  split at h
  ·rename_i hr
   exact⟨σ,h,fun X k=>by simp only[gP,hr]⟩
  ·rename_i i hr
   split at h
   ·rename_i o ho
    obtain⟨τ,h1,h2⟩:=IK aJ h
    obtain⟨dD,h3,h4⟩:=DN h1
    obtain⟨nB,h5,h6⟩:=A9 aJ f _ dD k h3
    exact⟨nB,h5,fun X k=>by
     simp only[gP,hr,ho]
     exact(h2.at_ _).trans ((h4.at_ _).trans (h6.at_ _))⟩
   ·cases h
  ·rename_i rs hn hs
   split at h
   ·rename_i i hf
    split at h
    ·rename_i o ho
     obtain⟨τ,h1,h2⟩:=Yg h
     obtain⟨dD,h3,h4⟩:=DN h1
     obtain⟨nB,h5,h6⟩:=A9 aJ f _ dD k h3
     refine⟨nB,h5,fun X k=>?_⟩
     show gP P N Φ ops (f+1) L σ k=k nB
     unfold gP
     split
     ·rename_i e;exact absurd e hn
     ·rename_i i e;exact absurd e (hs i)
     ·simp only[hf,ho]
      exact(h2.at_ _).trans ((h4.at_ _).trans (h6.at_ _))
    ·cases h
   ·rename_i hf
    split at h
    ·rename_i i Yh
     split at h
     ·rename_i o ho
      obtain⟨τ,h1,h2⟩:=IK aJ h
      obtain⟨dD,h3,h4⟩:=DN h1
      obtain⟨nB,h5,h6⟩:=A9 aJ f _ dD k h3
      refine⟨nB,h5,fun X k=>?_⟩
      show gP P N Φ ops (f+1) L σ k=k nB
      unfold gP
      split
      ·rename_i e;exact absurd e hn
      ·rename_i i e;exact absurd e (hs i)
      ·simp only[hf,Yh,ho]
       exact(h2.at_ _).trans ((h4.at_ _).trans (h6.at_ _))
     ·cases h
    ·cases h
theorem Yi[Inhabited Wd](aJ:dB P Φ){ops:Array Oper}{k:S->Option X}(h:qi P N Φ ops σ k=some r):∃ τ,k τ=some r/\aS (fun X k=>qi (X:=X) P N Φ ops σ k) τ:=by
 unfold qi at h
 split at h
 ·rename_i i hi
  split at h
  ·rename_i o ho
   split at h
   ·rename_i e he
    obtain⟨τ,h1,h2⟩:=IK aJ h
    obtain⟨dD,h3,h4⟩:=A9 aJ _ _ _ _ h1
    exact⟨dD,h3,fun X k=>by
     simp only[qi,hi,ho,he]
     exact(h2.at_ _).trans (h4.at_ _)⟩
   ·cases h
  ·cases h
 ·rename_i hi
  obtain⟨τ,h1,h2⟩:=A9 aJ _ _ _ _ h
  exact⟨τ,h1,fun X k=>by simp only[qi,hi];exact h2.at_ _⟩
theorem Yj[Inhabited Wd](aJ:dB P Φ){k:S->Option X}(h:kM P N Φ σ o k=some r):∃ τ,k τ=some r/\∀ (X':Type) (k':S->Option X'),kM P N Φ σ o k'=k' τ:=by
 have same:∀ σ2:S,(∀ (X':Type) (k':S->Option X'),kM P N Φ σ o k'=bF P N Φ σ2 o k')->∃ τ,k τ=some r/\∀ (X':Type) (k':S->Option X'),kM P N Φ σ o k'=k' τ:=by
  intro σ2 e
  rw[e]at h
  obtain⟨τ,h1,h2⟩:=C9 aJ h
  exact⟨τ,h1,fun X k=>(e X k).trans (h2 X k)⟩
 cases ho:o.op with
 | store t x y=>
  cases hd:o.dst with
  | some d=>exact same σ fun X' k'=>by simp only[kM,ho,hd]
  | none=>
   have e:∀ (X':Type) (k':S->Option X'),kM P N Φ σ o k'=(match ah σ y with
    | .view [q] s i j=>sJ P σ q s i j t (ah σ x) k'
    | _=>bF P N Φ σ o k'):=fun X' k'=>by simp only[kM,ho,hd];rfl
   rw[e]at h
   split at h
   ·rename_i q s i j hy
    obtain⟨τ,h1,h2⟩:=Wc h
    exact⟨τ,h1,fun X k=>by rw[e];simp only[hy];exact h2.at_ _⟩
   ·rename_i hn
    obtain⟨τ,h1,h2⟩:=C9 aJ h
    refine⟨τ,h1,fun X k=>?_⟩
    rw[e]
    split
    ·rename_i q s i j hy;exact(hn _ _ _ _ hy).elim
    ·exact h2 X k
 | slice t x lo hi mx=>
  cases hd:o.dst with
  | none=>exact same σ fun X' k'=>by simp only[kM,ho,hd]
  | some d=>
   cases mx with
   | some m=>exact same σ fun X' k'=>by simp only[kM,ho,hd]
   | none=>exact same (wM σ (ah σ x)) fun X' k'=>by simp only[kM,ho,hd]
 | _=>exact same σ fun X' k'=>by simp only[kM,ho]
theorem IL[Inhabited Wd](aJ:dB P Φ){ops:Array Oper}:∀ (rest:List Oper) (j:Nat) (σ:S) (k:S->Option X),oz P N Φ ops j rest σ k=some r->∃ τ,k τ=some r/\aS (fun X k=>oz (X:=X) P N Φ ops j rest σ k) τ
 | [],j,σ,k,h=>⟨σ,h,fun X k=>rfl⟩
 | o :: rest,j,σ,k,h=>by
  unfold oz at h
  split at h
  ·rename_i hw
   obtain⟨τ,h1,h2⟩:=Yj aJ h
   obtain⟨dD,h3,h4⟩:=DN h1
   obtain⟨nB,h5,h6⟩:=IL aJ rest _ dD k h3
   exact⟨nB,h5,fun X k=>by
    simp only[oz,hw]
    exact(h2 _ _).trans ((h4.at_ _).trans (h6.at_ _))⟩
  ·rename_i hw
   obtain⟨h1,h2⟩:=fT h
   obtain⟨nB,h5,h6⟩:=IL aJ rest _ _ k h1
   exact⟨nB,h5,fun X k=>by
    simp only[oz,hw]
    exact((h2 σ).at_ _).trans (h6.at_ _)⟩
  ·cases h
theorem Yk[Inhabited Wd](aJ:dB P Φ):∀ (c:Code) (σ:S) (k:Exit->S->Option X),dQ P N Φ A7 c σ k=some r->∃ e τ,k e τ=some r/\∀ (X':Type) (k':Exit->S->Option X'),dQ P N Φ A7 c σ k'=k' e τ:=by
 intro c
 induction c with
 | skip=>exact fun σ k h=>⟨_,_,h,fun _ _=>rfl⟩
 | label l=>exact fun σ k h=>⟨_,_,h,fun _ _=>rfl⟩
 | ret=>exact fun σ k h=>⟨_,_,h,fun _ _=>rfl⟩
 | exit id=>exact fun σ k h=>⟨_,_,h,fun _ _=>rfl⟩
 | region id ops draw=>
  intro σ k h
  cases draw with
  | true=>
   simp only[dQ]at h
   cases hm:P.follows .mixedOrders with
   | false=>rw[hm]at h;cases h
   | true=>
    rw[hm,cond_true]at h
    obtain⟨τ,h1,h2⟩:=Yi aJ h
    exact⟨_,τ,h1,fun X k=>by simp only[dQ,hm,cond_true];exact h2.at_ _⟩
  | false=>
   simp only[dQ]at h
   obtain⟨τ,h1,h2⟩:=IL aJ _ _ _ _ h
   exact⟨_,τ,h1,fun X k=>by simp only[dQ];exact h2.at_ _⟩
 | seq x y uD uE=>
  intro σ k h
  simp only[dQ]at h
  obtain⟨e,τ,h1,h2⟩:=uD σ _ h
  cases e with
  | normal=>
   obtain⟨e',dD,h3,h4⟩:=uE τ k h1
   exact⟨e',dD,h3,fun X k=>by simp only[dQ];rw[h2];exact h4 X k⟩
  | _=>exact⟨_,τ,h1,fun X k=>by simp only[dQ];rw[h2]⟩
 | cond c x y uD uE=>
  intro σ k h
  simp only[dQ]at h
  split at h
  ·rename_i b U
   cases b with
   | true=>
    obtain⟨e,τ,h1,h2⟩:=uD σ k h
    exact⟨e,τ,h1,fun X k=>by simp only[dQ,U,cond_true];exact h2 X k⟩
   | false=>
    obtain⟨e,τ,h1,h2⟩:=uE σ k h
    exact⟨e,τ,h1,fun X k=>by simp only[dQ,U,cond_false];exact h2 X k⟩
  ·cases h
 | block id c ih=>
  intro σ k h
  have e0:∀ (X':Type) (k':Exit->S->Option X'),dQ P N Φ A7 (.block id c) σ k'=dQ P N Φ A7 c σ fun e aa=>match e with
   | .exit lB=>if lB=id then k' .normal aa else k' (.exit lB) aa
   | e=>k' e aa:=fun X' k'=>rfl
  rw[e0]at h
  obtain⟨e,τ,h1,h2⟩:=ih σ _ h
  cases e with
  | exit lB=>
   by_cases hi:lB=id
   ·simp only[hi,if_true]at h1
    exact⟨_,τ,h1,fun X k=>by rw[e0,h2];simp only[hi,if_true]⟩
   ·simp only[hi,if_false]at h1
    exact⟨_,τ,h1,fun X k=>by rw[e0,h2];simp only[hi,if_false]⟩
  | _=>exact⟨_,τ,h1,fun X k=>by rw[e0,h2]⟩
 | _=>intro σ k h;simp[dQ]at h
theorem IM:∀ (l:List ResultVar) (k:List (Bool×List Lf)->Option X),jQ P σ l k=some r->∃ ps,k ps=some r/\aS (fun X k=>jQ (X:=X) P σ l k) ps
 | [],k,h=>⟨[],h,fun X k=>rfl⟩
 | .tmp t :: rest,k,h=>by
  simp only[jQ]at h
  split at h
  ·rename_i p hp
   obtain⟨ps,h2,h3⟩:=IM rest _ h
   exact⟨_,h2,fun X k=>by simp only[jQ,hp];exact h3.at_ _⟩
  ·cases h
 | .cell c ty :: rest,k,h=>by
  simp only[jQ]at h
  obtain⟨y,hy,hd⟩:=Ak h
  split at hy
  ·rename_i p hp
   obtain⟨ps,h2,h3⟩:=IM rest _ hy
   exact⟨_,h2,fun X k=>by
    simp only[jQ]
    refine(hd.at_ _).trans ?_
    simp only[hp]
    exact h3.at_ _⟩
  ·cases hy
theorem Yl{rv:Array ResultVar}{k:S->A->Option X}(h:uL P g rv σ k=some r):∃ ys ps,σ.m g=some (.gh ys)/\jQ P σ rv.toList some=some ps/\k ⟨fun j=>((ys.map (A.drop g))[j]?).getD .undef,(σ.drop g).m⟩ (sW g ps)=some r/\
  ∀ (X':Type) (k':S->A->Option X'),uL P g rv σ k'=k' ⟨fun j=>((ys.map (A.drop g))[j]?).getD .undef,(σ.drop g).m⟩ (sW g ps):=by
 unfold uL at h
 obtain⟨ps,h1,h2⟩:=IM _ _ h
 split at h1
 ·rename_i ys hy
  exact⟨ys,ps,hy,h2.at_ _,h1,fun X' k'=>by
   unfold uL
   refine(h2.at_ _).trans ?_
   simp only[hy]⟩
 ·cases h1
theorem List.Od(xs:List A)(g j:Nat):((xs.map (A.drop g))[j]?).getD .undef=A.drop g ((xs[j]?).getD .undef):=by
 rw[List.getElem?_map]
 cases xs[j]? <;>rfl
theorem RP.sW{ps:List (Bool×List Lf)}{vs:List Value}(au:∀ r,r≠g->ρ' r=ρ r)(hl:vs.length=ps.length)(h:∀ (i:Nat) p v,ps[i]?=some p->vs[i]?=some v->RP w B lab ρ p v):
  RA w B lab ρ' (sW g ps) (if h:vs.toArray.size=1 then vs.toArray[0]else .tuple vs.toArray):=by
 have aU:ps.length≠1->RA w B lab ρ' (.aU (ps.map fun p=>(p.1,p.2.map (Lf.drop g)))) (if h:vs.toArray.size=1 then vs.toArray[0]else .tuple vs.toArray):=by
  intro hn
  rw[dif_neg (by simpa [hl]using hn)]
  refine⟨vs.toArray,rfl,by simpa using hl,fun j p hp=>?_⟩
  rw[List.getElem?_map]at hp
  cases hq:ps[j]? with
  | none=>rw[hq]at hp;cases hp
  | some q=>
   rw[hq]at hp
   injection hp with hp
   subst hp
   have hj:j<vs.length:=by rw[hl];exact(List.getElem?_eq_some_iff.1 hq).1
   exact⟨vs[j],by simp[hj],(h j q vs[j] hq (List.getElem?_eq_getElem hj)).b8 au⟩
 unfold Proofs.YtjldnlbiefpekaaDoor.sW
 split
 ·rename_i x
  match vs,hl,h with
  | [v],_,h=>
   have:=h 0 _ v rfl rfl
   obtain⟨u,hu,hr⟩:=this.2 0 x rfl
   have:v=u:=by simpa using hu
   subst this
   exact hr.b8 au
 ·rename_i cs
  match vs,hl,h with
  | [v],_,h=>exact RP.b8 au (p:=(true,cs)) (h 0 _ v rfl rfl)
 ·trivial
 ·rename_i h1 h2 h3
  refine aU fun e=>?_
  obtain⟨⟨b,cs⟩,rfl⟩:=List.length_eq_one_iff.1 e
  cases b with
  | true=>exact h2 cs rfl
  | false=>exact h3 cs rfl
theorem Ym{f:Nat}{fn:Func}{code:Code}(hf:P.funcs[f]?=some fn)(U:fn.body=some code)(hN:fn.ntmps=M)(hM:M<=20000)(qy:(fn.name == "runtime.NumGoroutine")=false)(hg:20000<=g/\g<60000)(aJ:dB P Φ):
  enters P f/\ow P f (Oc P M g Φ code fn.results):=by
 refine⟨⟨fn,hf,qy,by rw[U];rfl⟩,fun X N σ xs k r h=>?_⟩
 have h:A8 P M g Φ code fn.results N σ xs k=some r:=h
 unfold A8 at h
 cases hl:Nat.ble xs.length M with
 | false=>rw[hl]at h;cases h
 | true=>
  rw[hl,cond_true]at h
  have dc:=Nat.le_of_ble_eq_true hl
  obtain⟨e,τ,h1,h2⟩:=Yk aJ _ _ _ h
  have h3:(e = .normal\/e = .ret)/\uL P g fn.results τ k=some r:=by
   split at h1
   ·rename_i he;exact⟨.inl (sS he),h1⟩
   ·rename_i he;exact⟨.inr (sS he),h1⟩
   ·cases h1
  obtain⟨hex,h3⟩:=h3
  obtain⟨ys,ps,hy,dP,hk,hd⟩:=Yl h3
  refine⟨_,_,hk,fun X' k'=>?_,fun w0 lab ρ a w aM hR hsz hv=>?_⟩
  ·show A8 P M g Φ code fn.results N σ xs k'=_
   unfold A8
   rw[hl,cond_true,h2]
   rcases hex with rfl | rfl
   ·exact hd X' k'
   ·exact hd X' k'
  ·let us:=a.tmps.toList
   let W:Wd:=w0.Yf g (some (.aM us)) hg.1
   let pQ:=aI ρ g (.aM us)
   have au:∀ r,r≠g->pQ r=ρ r:=fun r hr=>aQ _ _ _ hr
   have cI:∀ j,us.getD j undef=a.tmps.getD j undef:=fun j=>by
    show a.tmps.toList.getD j undef=_
    rw[List.getD_eq_getElem?_getD,Array.getElem?_toList,Array.getD_eq_getD_getElem?]
   have hle:aM.size<=M:=by rw[hsz];exact dc
   have kK:Rl W M lab pQ (Ob g N σ xs) { tmps:=aM++Array.replicate (fn.ntmps-aM.size) undef,defers:=[] } w:=by
    refine⟨⟨hR.below.os,hR.below.tape,hR.below.output,hR.below.size,hR.below.block⟩,hR.bh,fun r x hx=>?_,fun j=>?_,by simp[hN];omega,rfl,fun r l hr=>?_,fun r hr=>?_⟩
    ·have hx:aI (σ.drop g).m g (some (.gh ((List.range N).map fun j=>(σ.t j).drop g))) r=some x:=hx
     by_cases kR:r=g
     ·subst kR
      rw[aK]at hx
      injection hx with hx
      subst hx
      refine .gh us _ (aK _ _ _) fun j x hj=>?_
      rw[List.getElem?_map]at hj
      cases hr:(List.range N)[j]? with
      | none=>rw[hr]at hj;cases hj
      | some j'=>
       rw[hr]at hj
       injection hj with hj
       obtain⟨aW,kB⟩:=List.getElem?_eq_some_iff.1 hr
       rw[List.getElem_range]at kB
       subst kB hj
       rw[cI]
       exact(hR.tmp j).b8 au
     ·rw[aQ _ _ _ kR]at hx
      have hx:(bif Nat.beq r g then none else (σ.m r).map (ax.drop g))=some x:=hx
      cases U:Nat.beq r g with
      | true=>rw[U]at hx;cases hx
      | false=>
       rw[U,cond_false]at hx
       cases hm:σ.m r with
       | none=>rw[hm]at hx;cases hx
       | some y=>
        rw[hm]at hx
        injection hx with hx
        subst hx
        exact(hR.root r y hm).b8 au kR
    ·show RA w w0.heap.size lab pQ (((xs.map (A.drop g))[j]?).getD .undef) _
     rw[List.Od]
     by_cases hj:j<aM.size
     ·have e1:(aM++Array.replicate (fn.ntmps-aM.size) undef).getD j undef=aM.getD j undef:=by
       rw[Array.getD_eq_getD_getElem?,Array.getElem?_append_left hj,Array.getD_eq_getD_getElem?]
      show RA w w0.heap.size lab pQ _ ((aM++Array.replicate (fn.ntmps-aM.size) undef).getD j undef)
      rw[e1]
      exact(hv j).b8 au
     ·rw[List.getElem?_eq_none (by omega:xs.length<=j)]
      trivial
    ·have hr:(if r=g then some (Loc.aM us)else w0.F r)=some l:=hr
     by_cases kR:r=g
     ·rw[if_pos kR]at hr
      injection hr with hr
      rw[kR,<-hr]
      exact aK _ _ _
     ·rw[if_neg kR]at hr
      rw[au r kR]
      exact hR.fix r l hr
    ·show (if r=g then some (Loc.aM us)else w0.F r)=none
     rw[if_neg (by omega)]
     rcases hr with hr | hr
     ·exact w0.low r (by omega)
     ·exact hR.cF r (.inr hr)
   refine calls_of_wp hf U ?_
   refine wp_mono (Dy (w0:=W) aJ code _ (fun e τ=>some (e,τ)) (h2 _ _) (fun p hp b U=>by cases U) _ w ⟨lab,pQ,kK⟩) fun e' a' w' he=>?_
   obtain⟨aa,cm,af,ρ',aB⟩:=he
   injection cm with cm
   injection cm with k1 k2
   subst k1 k2
   have Ad:ρ' g = .aM us:=aB.fix g _ (if_pos rfl)
   let cB:=aI ρ' g ((w0.F g).getD (.blk 0 0))
   have n9:∀ r,r≠g->cB r=ρ' r:=fun r hr=>aQ _ _ _ hr
   obtain⟨jS,IN,iT⟩:=zV (w0:=W) (N:=M) _ _ dP
   injection IN with IN
   subst IN
   obtain⟨vs,aD,hlen,cT⟩:=iT af ρ' a' w' aB
   have Yn:(fn.results.mapM (pT a'.tmps)).run P w' = .ok vs.toArray w':=by
    rw[Array.mapM_eq_mapM_toList]
    simp[aD]
   have er:results fn a'.tmps=(do let vs <-fn.results.mapM (pT a'.tmps);pure (if h:vs.size=1 then vs[0]else .tuple vs)):=by
    unfold results
    congr 1
   have Yo:Rl w0 N af cB ⟨fun j=>((ys.map (A.drop g))[j]?).getD .undef,(aa.drop g).m⟩ a w':=by
    refine⟨⟨aB.below.os,aB.below.tape,aB.below.output,aB.below.size,aB.below.block⟩,aB.bh,fun r x hx=>?_,fun j=>?_,hR.size,hR.defers,fun r l hr=>?_,hR.cF⟩
    ·have hx:(bif Nat.beq r g then none else (aa.m r).map (ax.drop g))=some x:=hx
     cases U:Nat.beq r g with
     | true=>rw[U]at hx;cases hx
     | false=>
      have kR:r≠g:=by rintro rfl;simp at U
      rw[U,cond_false]at hx
      cases hm:aa.m r with
      | none=>rw[hm]at hx;cases hx
      | some y=>
       rw[hm]at hx
       injection hx with hx
       subst hx
       exact(aB.root r y hm).b8 n9 kR
    ·show RA w' w0.heap.size af cB (((ys.map (A.drop g))[j]?).getD .undef) _
     rw[List.Od]
     cases Yp:ys[j]? with
     | none=>trivial
     | some y=>
      have bE:=aB.root g _ hy
      generalize hz:ax.gh ys=z at bE
      cases bE with
      | blk=>cases hz
      | sl=>cases hz
      | mp=>cases hz
      | gh Lw TN pY Yq=>
       injection hz with hz
       subst hz
       rw[Ad]at pY
       injection pY with pY
       subst pY
       have:=Yq j y Yp
       rw[cI]at this
       exact this.b8 n9
    ·by_cases kR:r=g
     ·subst kR
      show aI ρ' r ((w0.F r).getD (.blk 0 0)) r=l
      rw[aK,hr]
      rfl
     ·rw[n9 r kR]
      exact aB.fix r l ((if_neg kR).trans hr)
   have fin:a'.defers=[]/\∃ v,(results fn a'.tmps).run P w' = .ok v w'/\∃ sV af ρ',Ending.returned v=Ending.returned sV/\Rl w0 N af ρ' ⟨fun j=>((ys.map (A.drop g))[j]?).getD .undef,(aa.drop g).m⟩ a w'/\RA w' w0.heap.size af ρ' (sW g jS) sV:=
    ⟨aB.defers,_,by rw[er,Sem.run_bind,Yn,Result.andThen_ok,Sem.run_pure],_,af,cB,rfl,Yo,RP.sW n9 hlen cT⟩
   rcases hex with rfl | rfl
   ·exact fin
   ·exact fin
end
end Go.Proofs.YtjldnlbiefpekaaDoor
namespace Go.Proofs.YtjldnlbiefpekaaDoor
open Go.RowKit
set_option linter.unusedVariables false
def kS:Nat:=1000000000
def stays(n:Nat):Bool:=Nat.ble 20000 (n % kS)
theorem Yr:60000<=kS:=Nat.le_of_ble_eq_true rfl
def kT(n:Nat):Nat:=bif stays n then n else n+kS
def sX(n:Nat):Option Nat:=bif stays n then some n else bif Nat.ble kS n && !stays (n-kS)then some (n-kS)else none
def gS:List Nat->List Nat
 | []=>[]
 | [r]=>[kT r]
 | x :: y :: k=>x :: gS (y :: k)
def Lf.up:Lf->Lf
 | .v x=>.v x
 | .own k=>.own (gS k)
 | .dead=>.dead
def A.up:A->A
 | .undef=>.undef
 | .skip=>.skip
 | .lf x=>.lf x.up
 | .agg cs=>.agg (cs.map Lf.up)
 | .aU xs=>.aU (xs.map fun p=>(p.1,p.2.map Lf.up))
 | .ptr k=>.ptr (gS k)
 | .aF r j=>.aF (kT r) j
 | .ec cs=>.ec cs
 | .ic f cs=>.ic f cs
 | .pk r n=>.pk (kT r) n
 | .view k s i j=>.view (gS k) s i j
 | .fn f cap=>.fn f (cap.map fun p=>(kT p.1,p.2))
def ax.up:ax->ax
 | .blk cs=>.blk (cs.map Lf.up)
 | .sl y=>.sl y
 | .mp l=>.mp l
 | .gh xs=>.gh (xs.map A.up)
def S.up(σ:S):S:=⟨fun k=>(σ.t k).up,fun n=>match sX n with
 | some r=>(σ.m r).map ax.up
 | none=>none⟩
def Oe(c:mW):mW:=⟨fun X N σ xs k=>c.run X N σ.up (xs.map A.up) fun aa y=>k aa.up y.up⟩
section
variable {P:Program} {w w':World} {w0:Wd} {B N:Nat} {lab af:aH} {ρ ρ':Nat->Loc} {σ:S} {a:Act} {X:Type}
theorem Ys(r:Nat):sX (kT r)=some r:=by
 unfold sX kT
 cases h:stays r with
 | true=>simp only[cond_true,h]
 | false=>
  have h2:stays (r+kS)=false:=by
   unfold stays at h ⊢
   rw[Nat.add_mod_right]
   exact h
  have h3:Nat.ble kS (r+kS)=true:=Nat.ble_eq_true_of_le (Nat.le_add_left _ _)
  have h4:r+kS-kS=r:=Nat.add_sub_cancel r kS
  rw[cond_false,h2,cond_false,h3,h4,h]
  rfl
theorem Yt{n r:Nat}(h:sX n=some r):n=kT r:=by
 unfold sX at h
 cases hs:stays n with
 | true=>
  rw[hs,cond_true]at h
  injection h with h
  subst h
  simp[kT,hs]
 | false=>
  rw[hs,cond_false]at h
  cases hc:(Nat.ble kS n && !stays (n-kS))with
  | false=>rw[hc]at h;cases h
  | true=>
   rw[hc,cond_true]at h
   have h:=Option.some.inj h
   rw[Bool.and_eq_true]at hc
   have h1:=Nat.le_of_ble_eq_true hc.1
   have h2:stays r=false:=by rw[<-h];simpa using hc.2
   simp only[kT,h2,cond_false]
   omega
def iL(lab:aH):aH:=fun b=>(lab b).map gS
def oG(ρ:Nat->Loc):Nat->Loc:=fun n=>match sX n with
 | some r=>ρ r
 | none=>ρ n
theorem uM(r:Nat):oG ρ (kT r)=ρ r:=by unfold oG;rw[Ys]
theorem Yu{k:List Nat}(h:k≠[]):gS k≠[]:=by
 match k with
 | []=>exact absurd rfl h
 | [r]=>simp[gS]
 | x :: y :: k=>simp[gS]
theorem uO{x:Nat}{k:List Nat}(h:k≠[]):gS (x :: k)=x :: gS k:=by
 match k with
 | []=>exact absurd rfl h
 | y :: k=>rfl
theorem Of(x y:Nat)(k:List Nat):∃ y' k',gS (x :: y :: k)=x :: y' :: k':=by
 rw[uO (by simp)]
 match k with
 | []=>exact⟨_,_,rfl⟩
 | z :: k=>exact⟨y,_,rfl⟩
theorem IP:∀ (k:List Nat) (ad:Addr),addrAt w lab ρ k=some ad->addrAt w (iL lab) (oG ρ) (gS k)=some ad
 | [],_,h=>by simp[addrAt]at h
 | [_],_,h=>by simp[addrAt]at h
 | [_,_],_,h=>by simp[addrAt]at h
 | [_,_,_],_,h=>by simp[addrAt]at h
 | [j,i,s,r],ad,h=>by
  simp only[addrAt]at h
  simp only[gS,addrAt,uM]
  split at h
  ·rename_i b n c hr
   split at h
   ·rename_i hl
    rw[if_pos (by simp[iL,hl,gS])]
    exact h
   ·cases h
  ·cases h
 | j :: i :: s :: x :: y :: q,ad,h=>by
  simp only[addrAt]at h
  split at h
  ·rename_i b n c hr
   split at h
   ·rename_i hl
    cases ha:addrAt w lab ρ (x :: y :: q)with
    | none=>rw[ha]at hr;cases hr
    | some jK=>
     have ih:=IP (x :: y :: q) jK ha
     have e:iL lab b=some (gS (x :: y :: q)):=by simp[iL,hl]
     rw[uO (by simp),uO (by simp),uO (by simp)]
     rw[ha]at hr
     obtain⟨y',q',hk⟩:=Of x y q
     rw[hk]at ih e ⊢
     simp only[addrAt,ih,hr,e,if_true]
     exact h
   ·cases h
  ·cases h
theorem Og{k:List Nat}{u:Value}(h:aP w lab ρ k=some u):aP w (iL lab) (oG ρ) (gS k)=some u:=by
 match k with
 | []=>simp[aP,addrAt]at h
 | [r]=>
  simp only[aP]at h
  simp only[gS,aP,uM]
  exact h
 | x :: y :: k=>
  simp only[aP]at h
  cases ha:addrAt w lab ρ (x :: y :: k)with
  | none=>rw[ha]at h;cases h
  | some ad=>
   have:=IP _ _ ha
   obtain⟨y',q',hk⟩:=Of x y k
   rw[hk]at this ⊢
   simp only[aP,this]
   rw[ha]at h
   exact h
theorem IQ{b:Nat}(h:lab b=none):iL lab b=none:=by simp[iL,h]
theorem RV.up(aA:∀ b k,lab b=some k->k≠[]){k:List Nat}{x:V}{v:Value}(h:RV w B lab k x v):RV w B (iL lab) (gS k) x v:=by
 induction h with
 | int=>exact .int _ _ _
 | bool=>exact .bool _ _
 | str=>exact .str _ _
 | nil=>exact .nil _
 | bg=>exact .bg _ _ _
 | bw q t o A c ho=>exact .bw _ _ _ _ _ ho
 | bI q t o A c ho=>exact .bI _ _ _ _ _ ho
 | av q t o qn l b off cap u ho hl U h1 hcap hc hr ih=>
  exact .av _ _ _ _ _ _ _ _ u ho (IQ hl) U h1 hcap hc ih
 | own q t o qn l b cap cs u hl hh hs hn hm hc hr ih=>
  have hq:=aA b q hl
  refine .own _ _ _ _ _ _ _ cs u (by simp[iL,hl]) hh hs hn hm hc fun i h j x hx=>?_
  have:=ih i h j x hx
  rw[uO (by simp),uO (by simp),uO hq]at this
  exact this
theorem bB.up(aA:∀ b k,lab b=some k->k≠[]){x:Lf}{u:Value}(h:bB w B lab ρ x u):bB w B (iL lab) (oG ρ) x.up u:=by
 cases x with
 | v x=>exact⟨h.1,RV.up aA h.2⟩
 | own k=>exact⟨h.1,Og h.2⟩
 | dead=>trivial
theorem bK.up(aA:∀ b k,lab b=some k->k≠[]){cs:List Lf}{us:Array Value}(h:bK w B lab ρ cs us):bK w B (iL lab) (oG ρ) (cs.map Lf.up) us:=by
 refine⟨by rw[List.length_map];exact h.1,fun j x hx=>?_⟩
 rw[List.getElem?_map]at hx
 cases hz:cs[j]? with
 | none=>rw[hz]at hx;cases hx
 | some z=>
  rw[hz]at hx
  injection hx with hx
  subst hx
  obtain⟨u,h1,h2⟩:=h.2 j z hz
  exact⟨u,h1,h2.up aA⟩
theorem RP.up(aA:∀ b k,lab b=some k->k≠[]){p:Bool×List Lf}{u:Value}(h:RP w B lab ρ p u):RP w B (iL lab) (oG ρ) (p.1,p.2.map Lf.up) u:=by
 obtain⟨b,cs⟩:=p
 cases b with
 | true=>
  obtain⟨us,rfl,h⟩:=h
  exact⟨us,rfl,bK.up aA h⟩
 | false=>exact bK.up aA h
theorem RA.up(aA:∀ b k,lab b=some k->k≠[]){x:A}{u:Value}(h:RA w B lab ρ x u):RA w B (iL lab) (oG ρ) x.up u:=by
 cases x with
 | undef=>trivial
 | skip=>exact h
 | lf x=>exact bB.up aA h
 | agg cs=>exact RP.up aA (p:=(true,cs)) h
 | aU xs=>
  obtain⟨us,rfl,h1,h2⟩:=h
  refine⟨us,rfl,by rw[List.length_map];exact h1,fun j p hp=>?_⟩
  rw[List.getElem?_map]at hp
  cases hz:xs[j]? with
  | none=>rw[hz]at hp;cases hp
  | some z=>
   rw[hz]at hp
   injection hp with hp
   subst hp
   obtain⟨v,h3,h4⟩:=h2 j z hz
   exact⟨v,h3,h4.up aA⟩
 | ptr k=>
  obtain⟨ad,rfl,h⟩:=h
  exact⟨ad,rfl,IP _ _ h⟩
 | aF r j=>
  obtain⟨b,off,h1,h2⟩:=h
  exact⟨b,off,(uM r).trans h1,h2⟩
 | ec cs=>
  obtain⟨b,off,g1,g2,g3,g4⟩:=h
  refine⟨b,off,g1,g2,IQ g3,fun j x hx=>?_⟩
  obtain⟨f1,v,f2,f3⟩:=g4 j x hx
  exact⟨f1,v,f2,RV.up aA f3⟩
 | ic f cs=>
  obtain⟨pv,e0,h⟩:=h
  refine⟨pv,e0,?_⟩
  obtain⟨b,off,g1,g2,g3,g4⟩:=h
  refine⟨b,off,g1,g2,IQ g3,fun j x hx=>?_⟩
  obtain⟨f1,v,f2,f3⟩:=g4 j x hx
  exact⟨f1,v,f2,RV.up aA f3⟩
 | pk r n=>
  obtain⟨b,h1,h2⟩:=h
  exact⟨b,(uM r).trans h1,h2⟩
 | view k s i j=>
  obtain⟨A,n,c,h1,h2⟩:=h
  exact⟨A,n,c,Og h1,h2⟩
 | fn f cap=>
  obtain⟨vs,rfl,h1,h2⟩:=h
  refine⟨vs,rfl,by rw[List.length_map];exact h1,fun j p hp=>?_⟩
  rw[List.getElem?_map]at hp
  cases hz:cap[j]? with
  | none=>rw[hz]at hp;cases hp
  | some z=>
   rw[hz]at hp
   injection hp with hp
   subst hp
   obtain⟨b,off,h3,h4⟩:=h2 j z hz
   exact⟨b,off,(uM _).trans h3,h4⟩
theorem bU.up(aA:∀ b k,lab b=some k->k≠[]){r:Nat}{x:ax}(h:bU w B lab ρ r x):bU w B (iL lab) (oG ρ) (kT r) x.up:=by
 have au:=uM (ρ:=ρ) r
 have hl:∀ {b},lab b=some [r]->iL lab b=some [kT r]:=fun h=>by simp[iL,h,gS]
 cases h with
 | blk b off cells e cs us h1 h2 hh hs hc=>
  refine .blk b off cells e _ us (au.trans h1) (hl h2) hh (by rw[List.length_map];exact hs) fun j x hx=>?_
  rw[List.getElem?_map]at hx
  cases hz:cs[j]? with
  | none=>rw[hz]at hx;cases hx
  | some z=>
   rw[hz]at hx
   injection hx with hx
   subst hx
   exact⟨(hc j z hz).1,(hc j z hz).2.up aA⟩
 | sl v y h1 h2=>exact .sl v y (au.trans h1) (RV.up aA h2)
 | mp b c es l h1 h2 hh he=>exact .mp b c es l (au.trans h1) (hl h2) hh he
 | gh us xs h1 hx=>
  refine .gh us _ (au.trans h1) fun j x hj=>?_
  rw[List.getElem?_map]at hj
  cases hz:xs[j]? with
  | none=>rw[hz]at hj;cases hj
  | some z=>
   rw[hz]at hj
   injection hj with hj
   subst hj
   exact RA.up aA (hx j z hz)
theorem Rl.up(h:Rl w0 N lab ρ σ a w):Rl w0 N (iL lab) (oG ρ) σ.up a w:=by
 have aA:∀ b k,lab b=some k->k≠[]:=fun b k hk=>(h.bh b k hk).2.2
 refine⟨h.below,fun b k hk=>?_,fun n x hx=>?_,fun k=>RA.up aA (h.tmp k),h.size,h.defers,fun r l hr=>?_,h.cF⟩
 ·unfold iL at hk
  cases hl:lab b with
  | none=>rw[hl]at hk;cases hk
  | some q=>
   rw[hl]at hk
   injection hk with hk
   obtain⟨h1,h2,h3⟩:=h.bh b q hl
   exact⟨h1,h2,by rw[<-hk];exact Yu h3⟩
 ·have hx:(match sX n with | some r=>(σ.m r).map ax.up | none=>none)=some x:=hx
  cases hd:sX n with
  | none=>rw[hd]at hx;cases hx
  | some r=>
   rw[hd]at hx
   have hx:(σ.m r).map ax.up=some x:=hx
   cases hm:σ.m r with
   | none=>rw[hm]at hx;cases hx
   | some y=>
    rw[hm]at hx
    injection hx with hx
    subst hx
    rw[Yt hd]
    exact(h.root r y hm).up aA
 ·have hs:stays r=true:=by
   have h1:20000<=r:=Nat.le_of_not_lt fun aW=>by rw[w0.low r aW]at hr;cases hr
   have h2:r<60000:=Nat.lt_of_not_le fun hle=>by rw[h.cF r (.inr hle)]at hr;cases hr
   unfold stays
   rw[Nat.mod_eq_of_lt (Nat.lt_of_lt_of_le h2 Yr)]
   exact Nat.ble_eq_true_of_le h1
  have hu:kT r=r:=by simp[kT,hs]
  have:=uM (ρ:=ρ) r
  rw[hu]at this
  rw[this]
  exact h.fix r l hr
theorem Yv{f:Nat}{c:mW}(h:ow P f c):ow P f (Oe c):=by
 intro hi X N σ xs k r hr
 obtain⟨aa,y,h1,h2,h3⟩:=h X N σ.up (xs.map A.up) _ r hr
 refine⟨aa.up,y.up,h1,fun X' k'=>h2 X' _,fun w0 lab ρ a w aM hR hs hv=>?_⟩
 have aA:∀ b k,lab b=some k->k≠[]:=fun b k hk=>(hR.bh b k hk).2.2
 refine(h3 w0 _ _ a w aM hR.up (by rw[List.length_map];exact hs) fun i=>?_).mono fun e w' hp=>?_
 ·rw[List.getElem?_map]
  have:=hv i
  cases hx:xs[i]? with
  | none=>trivial
  | some x=>
   rw[hx]at this
   exact RA.up aA this
 ·obtain⟨v,af,ρ',he,aB,hy⟩:=hp
  exact⟨v,_,_,he,aB.up,RA.up (fun b k hk=>(aB.bh b k hk).2.2) hy⟩
end
end Go.Proofs.YtjldnlbiefpekaaDoor
namespace Go.Proofs.YtjldnlbiefpekaaDoor
open Go.RowKit
set_option linter.unusedVariables false
def big:Nat:=4611686018427387904
def eS(c:Code)(id:Nat):Code:=match (occs c).lookup id with
 | some (.loop b)=>b
 | _=>.skip
def dH(fn:Func):Code:=fn.body.getD .skip
def uQ(l:List (Nat×mX)):cc:=fun f=>l.lookup f
def Ba(P:Program):List (Nat×mX)->Prop
 | []=>True
 | (f,c) :: l=>(enters P f/\MN P f c)/\Ba P l
theorem uS{P:Program}:∀ (l:List (Nat×mX)),Ba P l->dB P (uQ l)
 | [],_=>fun f c h=>by cases h
 | (f',c') :: l,⟨h1,h2⟩=>fun f c h=>by
  have h':List.lookup f ((f',c') :: l)=some c:=h
  clear h
  rw[List.lookup_cons]at h'
  split at h'
  ·rename_i he
   have he:f=f':=by simpa using he
   subst he
   injection h' with h'
   subst h'
   exact h1
  ·exact uS l h2 f c h'
def qz(l:List (Nat×dG)):jA:=fun id=>l.lookup id
def Oh(P:Program)(N:Nat)(code:Code):List (Nat×dG)->Prop
 | []=>True
 | (id,b) :: l=>(∃ c,(occs code).lookup id=some c/\ez P N (.block id c) b)/\Oh P N code l
def ids(l:List (Nat×Code)):Bool:=(l.map (·.1)).all fun i=>Nat.beq ((l.filter fun p=>Nat.beq p.1 i).length) 1
theorem Oi:∀ (l:List (Nat×Code)) (p:Nat×Code),(∀ q∈l,q.1=p.1->q=p)->p∈l->l.lookup p.1=some p.2
 | [],p,_,h=>by cases h
 | q :: l,p,hu,h=>by
  rw[List.lookup_cons]
  by_cases he:p.1=q.1
  ·have:q=p:=hu q (.head _) he.symm
   subst this
   simp
  ·have U:(p.1==q.1)=false:=by simpa using he
   rw[U]
   rcases List.mem_cons.1 h with rfl | h
   ·exact absurd rfl he
   ·exact Oi l p (fun q hq=>hu q (.tail _ hq)) h
theorem Yw{l:List (Nat×Code)}(h:ids l=true){p q:Nat×Code}(hp:p∈l)(hq:q∈l)(he:q.1=p.1):q=p:=by
 have h1:=List.all_eq_true.1 h p.1 (List.mem_map_of_mem hp)
 have h1:=Nat.eq_of_beq_eq_true h1
 have hp':p∈l.filter fun r=>Nat.beq r.1 p.1:=List.mem_filter.2 ⟨hp,by simp⟩
 have gG:q∈l.filter fun r=>Nat.beq r.1 p.1:=List.mem_filter.2 ⟨hq,by simp[he]⟩
 obtain⟨z,hz⟩:=List.length_eq_one_iff.1 h1
 rw[hz]at hp' gG
 rw[List.mem_singleton.1 hp',List.mem_singleton.1 gG]
theorem fy{P:Program}{N:Nat}{code:Code}(hi:ids (occs code)=true):∀ (l:List (Nat×dG)),Oh P N code l->oD P N (qz l) (occs code)
 | [],_=>fun p hp b h=>by cases h
 | (id,b') :: l,⟨⟨c,hc,h1⟩,h2⟩=>fun p hp b h=>by
  have h':List.lookup p.1 ((id,b') :: l)=some b:=h
  clear h
  rw[List.lookup_cons]at h'
  split at h'
  ·rename_i he
   have he:p.1=id:=by simpa using he
   injection h' with h'
   subst h'
   have:=Oi (occs code) p (fun q hq e=>Yw hi hp hq e) hp
   rw[he,hc]at this
   injection this with this
   rw[he,<-this]
   exact h1
  ·exact fy hi l h2 p hp b h'
theorem cY{P:Program}{N:Nat}{l:List (Nat×Code)}:oD P N (qz []) l:=fun p hp b h=>by cases h
def ci(P:Program)(fn:Func)(qA:Nat)(l:List (Nat×mX)):mW:=Oc P fn.ntmps (59000+qA) (uQ l) (dH fn) fn.results
theorem Yx{P:Program}{f:Nat}{fn:Func}(qA:Nat)(l:List (Nat×mX))(hf:P.funcs[f]?=some fn)(hl:Ba P l)(U:fn.body=some (dH fn):=by kernel_rfl)(hN:Nat.ble fn.ntmps 20000=true:=by kernel_rfl)(hv:Nat.ble qA 900=true:=by kernel_rfl)(qy:(fn.name == "runtime.NumGoroutine")=false:=by kernel_rfl):enters P f/\ow P f (ci P fn qA l):=
 Ym hf U rfl (Nat.le_of_ble_eq_true hN) qy ⟨by omega,by have:=Nat.le_of_ble_eq_true hv;omega⟩ (uS l hl)
def cj(P:Program)(fn:Func)(qA:Nat)(l:List (Nat×mX)):mW:=Oe (ci P fn qA l)
theorem Yy{P:Program}{f:Nat}{fn:Func}{qA:Nat}{l:List (Nat×mX)}(h:enters P f/\ow P f (ci P fn qA l)):enters P f/\ow P f (cj P fn qA l):=⟨h.1,Yv h.2⟩
theorem dI{P:Program}{f:Nat}{fn:Func}{ai:List (Bool×TC)}{ro:List (Bool×TC×Nat)}{F:lF ai->Option (iw ro)}(N:Nat)(l:List (Nat×mX))(b:List (Nat×dG))(hf:P.funcs[f]?=some fn)(hl:Ba P l)(fU:oD P N (qz b) (occs (dH fn)))(hF:∀ x,DH P N (uQ l) (qz b) (dH fn) fn.results (gB ai x) (pU ro)=F x)(U:fn.body=some (dH fn):=by kernel_rfl)(hN:fn.ntmps=N:=by kernel_rfl)(qy:(fn.name == "runtime.NumGoroutine")=false:=by kernel_rfl)(A6:Nat.ble ai.length N=true:=by kernel_rfl)(bE:qx ro=true:=by kernel_rfl):enters P f/\cw P f (cg ai ro F):=X9 hf U hN qy A6 bE (uS l hl) fU hF
def gT{α β:Type}(a:α)(f:α->β):β:=f a
theorem eY{P:Program}{id:Nat}{body:Code}{τ:aV}{jZ:List (Nat×aV)}{F:τ.St->Option (τ.St⊕sU jZ)}{fuel:τ.St->Nat}(N:Nat)(l:List (Nat×mX))(b:List (Nat×dG))(hl:Ba P l)(fU:oD P N (qz b) (occs body))(hF:∀ x,DG P N (uQ l) (qz b) body τ jZ x=F x):ez P N (.block id (.loop body)) (eE id τ jZ F fuel):=X3 (uS l hl) fU hF
end Go.Proofs.YtjldnlbiefpekaaDoor
