/-
  Running the program over pure contents, and that it follows (part Z). Nothing here is a claim.
-/
import Derived.Test.YtinbifpbkcbnkaaGreatV4
set_option linter.unusedSimpArgs false
namespace Go.Proofs.YtinbifpbkcbnkaaGreat
open Go.RowKit
set_option linter.unusedVariables false
section
variable {P:Program} {w w':World} {w0:Wd} {B N:Nat} {af ax:bq} {ρ ρ':Nat->Loc} {σ:S} {a:Act} {X:Type} {d e:Nat} {r:X} {o:Oper} {Φ:dG} {x:aP} {u:A}
def eC(e:Nat)(σ:S):Prop:=σ.drop e=σ
theorem eC.t_(h:eC e σ)(k:Nat):(σ.t k).drop e=σ.t k:=congrFun (congrArg S.t h) k
theorem eC.m_(h:eC e σ)(r:Nat):(bif Nat.beq r e then none else (σ.m r).map (aP.drop e))=σ.m r:=congrFun (congrArg S.m h) r
theorem eC.n6(h:eC e σ)(y:Operand):(aA σ y).drop e=aA σ y:=by
 cases y with
 | tmp t=>exact h.t_ t
 | const v=>
  show (AF v).drop e=AF v
  unfold AF
  split <;>rfl
 | global g=>rfl
 | func f=>rfl
def mm(e n:Nat):Bool:=Nat.beq n e
theorem IY(e:Nat):mm e e=true:=Nat.beq_refl e
theorem PM{k:List Nat}(h:aX e k=false):dN (mm e) k=true:=by
 unfold dN
 unfold aX at h
 split
 ·rename_i r hr
  rw[hr]at h
  unfold mm
  cases hb:Nat.beq r e with
  | false=>rfl
  | true=>
   have:=Nat.eq_of_beq_eq_true hb
   subst this
   simp at h
 ·rfl
theorem Lf.Bk{l:Lf}(h:l.drop e=l):l.nr (mm e)=true:=by
 cases l with
 | own k=>
  have h:(bif aX e k then Lf.dead else .own k) = .own k:=h
  cases hl:aX e k with
  | true=>rw[hl]at h;cases h
  | false=>exact PM hl
 | v z=>rfl
 | dead=>rfl
theorem gp.of_map{cs:List Lf}(h:cs.map (Lf.drop e)=cs):∀ c∈cs,c.drop e=c:=by
 induction cs with
 | nil=>intro c hc;cases hc
 | cons c cs ih=>
  rw[List.map_cons]at h
  injection h with h1 h2
  intro c' hc
  rcases List.mem_cons.1 hc with rfl | hc
  ·exact h1
  ·exact ih h2 c' hc
theorem gp.W0{cs:List Lf}(h:∀ c∈cs,c.drop e=c):cs.map (Lf.drop e)=cs:=by
 rw[List.map_congr_left h,List.map_id']
theorem A.Bk{y:A}(h:y.drop e=y):y.nr (mm e)=true:=by
 cases y with
 | lf l=>injection h with h;exact Lf.Bk h
 | agg cs=>
  injection h with h
  exact List.all_eq_true.2 fun c hc=>Lf.Bk (gp.of_map h c hc)
 | cq xs=>
  injection h with h
  refine List.all_eq_true.2 fun q hq=>List.all_eq_true.2 fun c hc=>Lf.Bk ?_
  have h2:∀ q∈xs,(q.1,q.2.map (Lf.drop e))=q:=by
   clear hq
   induction xs with
   | nil=>intro q hq;cases hq
   | cons z zs ih=>
    rw[List.map_cons]at h
    injection h with h1 h2
    intro q hq
    rcases List.mem_cons.1 hq with rfl | hq
    ·exact h1
    ·exact ih h2 q hq
  exact gp.of_map (congrArg Prod.snd (h2 q hq)) c hc
 | ptr k=>
  have h:(bif aX e k then A.undef else .ptr k) = .ptr k:=h
  cases hl:aX e k with
  | true=>rw[hl]at h;cases h
  | false=>exact PM hl
 | view k s i j=>
  have h:(bif aX e k then A.undef else .view k s i j) = .view k s i j:=h
  cases hl:aX e k with
  | true=>rw[hl]at h;cases h
  | false=>exact PM hl
 | aC r j=>
  have h:(bif Nat.beq r e then A.undef else .aC r j) = .aC r j:=h
  cases hl:Nat.beq r e with
  | true=>rw[hl]at h;cases h
  | false=>show (!mm e r)=true;unfold mm;rw[hl];rfl
 | pk r j=>
  have h:(bif Nat.beq r e then A.undef else .pk r j) = .pk r j:=h
  cases hl:Nat.beq r e with
  | true=>rw[hl]at h;cases h
  | false=>show (!mm e r)=true;unfold mm;rw[hl];rfl
 | fn f cap=>
  have h:(bif cap.any (fun p=>Nat.beq p.1 e)then A.undef else .fn f cap) = .fn f cap:=h
  cases hl:cap.any (fun p=>Nat.beq p.1 e)with
  | true=>rw[hl]at h;cases h
  | false=>
   refine List.all_eq_true.2 fun q hq=>?_
   have:=List.any_eq_false.1 hl q hq
   show (!mm e q.1)=true
   unfold mm
   cases hb:Nat.beq q.1 e with
   | false=>rfl
   | true=>exact absurd hb this
 | _=>rfl
theorem Lf.qZ(l:Lf):(l.drop e).drop e=l.drop e:=by
 cases l with
 | own k=>
  show Lf.drop e (bif aX e k then Lf.dead else .own k)=(bif aX e k then Lf.dead else .own k)
  cases hl:aX e k with
  | true=>rfl
  | false=>
   show (bif aX e k then Lf.dead else .own k)=_
   rw[hl,cond_false]
 | _=>rfl
theorem gp.qZ(cs:List Lf):(cs.map (Lf.drop e)).map (Lf.drop e)=cs.map (Lf.drop e):=by
 rw[List.map_map]
 exact List.map_congr_left fun c _=>Lf.qZ c
theorem A.qZ(y:A):(y.drop e).drop e=y.drop e:=by
 cases y with
 | lf l=>exact congrArg A.lf (Lf.qZ l)
 | agg cs=>exact congrArg A.agg (gp.qZ cs)
 | cq xs=>
  show A.cq ((xs.map fun p=>(p.1,p.2.map (Lf.drop e))).map fun p=>(p.1,p.2.map (Lf.drop e)))=A.cq (xs.map fun p=>(p.1,p.2.map (Lf.drop e)))
  rw[List.map_map]
  refine congrArg A.cq (List.map_congr_left fun p _=>?_)
  exact congrArg (Prod.mk p.1) (gp.qZ p.2)
 | ptr k=>
  show A.drop e (bif aX e k then A.undef else .ptr k)=(bif aX e k then A.undef else .ptr k)
  cases hl:aX e k with
  | true=>rfl
  | false=>show (bif aX e k then A.undef else .ptr k)=_;rw[hl,cond_false]
 | view k s i j=>
  show A.drop e (bif aX e k then A.undef else .view k s i j)=(bif aX e k then A.undef else .view k s i j)
  cases hl:aX e k with
  | true=>rfl
  | false=>show (bif aX e k then A.undef else .view k s i j)=_;rw[hl,cond_false]
 | aC r j=>
  show A.drop e (bif Nat.beq r e then A.undef else .aC r j)=(bif Nat.beq r e then A.undef else .aC r j)
  cases hl:Nat.beq r e with
  | true=>rfl
  | false=>show (bif Nat.beq r e then A.undef else .aC r j)=_;rw[hl,cond_false]
 | pk r j=>
  show A.drop e (bif Nat.beq r e then A.undef else .pk r j)=(bif Nat.beq r e then A.undef else .pk r j)
  cases hl:Nat.beq r e with
  | true=>rfl
  | false=>show (bif Nat.beq r e then A.undef else .pk r j)=_;rw[hl,cond_false]
 | fn f cap=>
  show A.drop e (bif cap.any (fun p=>Nat.beq p.1 e)then A.undef else .fn f cap)=(bif cap.any (fun p=>Nat.beq p.1 e)then A.undef else .fn f cap)
  cases hl:cap.any (fun p=>Nat.beq p.1 e)with
  | true=>rfl
  | false=>show (bif cap.any (fun p=>Nat.beq p.1 e)then A.undef else .fn f cap)=_;rw[hl,cond_false]
 | _=>rfl
theorem aP.qZ(y:aP):(y.drop e).drop e=y.drop e:=by
 cases y with
 | ak cs=>exact congrArg aP.ak (gp.qZ cs)
 | sl y=>rfl
 | mp l=>rfl
 | gh xs=>
  refine congrArg aP.gh ?_
  rw[List.map_map]
  exact List.map_congr_left fun x _=>A.qZ x
theorem eC.drop(σ:S):eC e (σ.drop e):=by
 refine S.ext' (fun k=>A.qZ _) fun n=>?_
 show (bif Nat.beq n e then none else ((bif Nat.beq n e then none else (σ.m n).map (aP.drop e))).map (aP.drop e))=(bif Nat.beq n e then none else (σ.m n).map (aP.drop e))
 cases Nat.beq n e with
 | true=>rfl
 | false=>
  simp only[cond_false]
  cases σ.m n with
  | none=>rfl
  | some y=>simp only[Option.map_some,aP.qZ]
theorem eC.set(h:eC e σ){v:A}(hv:v.drop e=v)(d:Nat):eC e (σ.set d v):=by
 refine S.ext' (fun k=>?_) fun n=>h.m_ n
 show (bG σ.t d v k).drop e=bG σ.t d v k
 by_cases hk:k=d
 ·subst hk;rw[bK,hv]
 ·rw[cm _ _ _ hk,h.t_]
theorem eC.put(h:eC e σ){v:A}(hv:v.drop e=v)(dst:Option Tmp):eC e (eR σ dst v):=by
 cases dst with
 | none=>exact h
 | some d=>exact h.set hv d
theorem eC.sl(h:eC e σ){c:Nat}(z:V)(hc:e≠c):eC e ((σ.drop c).root c (.sl z)):=by
 refine S.ext' (fun k=>?_) fun n=>?_
 ·show ((σ.t k).drop c).drop e=(σ.t k).drop c
  rw[A.mX,h.t_]
 ·show (bif Nat.beq n e then none else (((σ.drop c).root c (.sl z)).m n).map (aP.drop e))=((σ.drop c).root c (.sl z)).m n
  rw[Po]
  by_cases hn:n=c
  ·rw[if_pos hn,IM (by rintro rfl;exact hc hn),cond_false];rfl
  ·rw[if_neg hn]
   have hm:=h.m_ n
   cases hb:Nat.beq n e with
   | true=>
    rw[hb,cond_true]at hm
    rw[<-hm];rfl
   | false=>
    rw[hb,cond_false]at hm
    rw[cond_false]
    cases hz:σ.m n with
    | none=>rfl
    | some y=>
     rw[hz]at hm
     injection hm with hm
     simp only[Option.map_some]
     rw[aP.mX,hm]
theorem eC.fN(hc:e<d):∀ (xs:List V) (c:Nat) (σ:S),d<=c->eC e σ->eC e (fN c σ xs)
 | [],c,σ,_,h=>h
 | x :: xs,c,σ,hd,h=>by
  simp only[Go.Proofs.YtinbifpbkcbnkaaGreat.fN]
  refine eC.fN hc xs (c+1) _ (by omega) ?_
  cases x.ah with
  | true=>exact h
  | false=>exact h.sl x (by omega)
theorem eC.ir(hc:e<d):∀ (ps:List Pt) (c:Nat) (σ:S),d<=c->eC e σ->eC e (ir c σ ps)
 | [],c,σ,_,h=>h
 | q :: ps,c,σ,hd,h=>eC.ir hc ps _ _ (by omega) (eC.fN hc q.2 c σ hd h)
/-! Values. -/
theorem eC.akO(y:Operand):aA (σ.root e x) y=aA σ y:=by cases y <;>rfl
theorem eC.W2{l:Lf}(hl:l.nr (mm e)=true)(k:V->Option X):gB (σ.root e x) l k=gB σ l k:=by
 cases l with
 | own q=>exact uj (IY e) q k hl
 | v z=>rfl
 | dead=>rfl
theorem eC.val(h:eC e σ){op:Op}(eN:Iu op=true)(k:A->Option X):cA P (σ.root e x) op k=cA P σ op k:=by
 have ho:∀ y,aA (σ.root e x) y=aA σ y:=eC.akO
 have hn:∀ y,(aA σ y).nr (mm e)=true:=fun y=>A.Bk (h.n6 y)
 cases op with
 | move y=>simp only[cA,ho]
 | assign y=>simp only[cA,ho]
 | unOp f t y=>simp only[cA,ho]
 | field s y f=>simp only[cA,ho]
 | fieldAddr s y f=>simp only[cA,ho]
 | index t y i=>simp only[cA,ho]
 | load t y=>
  simp only[cA,ho]
  have h1:=hn y
  generalize aA σ y=u at h1
  unfold g7
  split
  ·rfl
  ·split
   ·rename_i r j
    have hr:r≠e:=by
     rintro rfl
     have h1:(!mm r r)=true:=h1
     rw[IY]at h1
     cases h1
    have:(σ.root e x).m r=σ.m r:=cm _ _ _ hr
    rw[this]
   ·rfl
   ·rename_i j i s q
    have hk:dN (mm e) (j :: i :: s :: q)=true:=h1
    cases q with
    | nil=>rfl
    | cons q0 q=>
     refine uj (IY e) _ _ ?_
     simpa [dN,List.getLast?_cons_cons]using hk
   ·rfl
 | binOp f t y z yt=>
  simp only[cA,ho]
  refine Iw fun l hl k=>eC.W2 ?_ k
  have h1:=hn y
  rw[hl]at h1
  exact h1
 | call c=>
  obtain⟨callee,⟨args⟩,⟨cO⟩⟩:=c
  cases callee with
  | builtin b=>
   cases b <;>try (cases eN)
   match args,cO with
   | [y],[t]=>
    simp only[cA,ho]
    have h1:=hn y
    generalize aA σ y=u at h1
    unfold kP
    split
    ·exact eC.W2 h1 _
    ·rfl
    ·rfl
   | [],_=>rfl
   | [_],[]=>rfl
   | [_],_ :: _ :: _=>rfl
   | _ :: _ :: _,_=>rfl
  | _=>cases eN
 | _=>cases eN
theorem PN{t:TypeId}{cs:List Lf}{v:A}(h:jo P t cs some=some v)(hc:∀ c∈cs,c.drop e=c):v.drop e=v:=by
 unfold jo at h
 split at h
 ·split at h
  ·split at h
   ·injection h with h;subst h;exact congrArg A.agg (gp.W0 hc)
   ·split at h
    ·injection h with h;subst h;exact congrArg A.lf (hc _ (.head _))
    ·cases h
   ·cases h
  ·cases h
 ·cases h
theorem akP{op:BinOp}{t:TypeId}{y z:A}{v:A}(h:jK P σ op t y z some=some v):v.drop e=v:=by
 have fin:∀ (a b:A),(vK a fun a=>vK b fun b=>kO P t op a b fun z=>some (A.lf (.v z)))=some v->v.drop e=v:=by
  intro a b h
  obtain⟨_,h1,_⟩:=AY h
  obtain⟨_,h2,_⟩:=AY h1
  obtain⟨_,h3,_⟩:=VP h2
  injection h3 with h3
  subst h3
  rfl
 unfold jK at h
 split at h
 ·split at h
  ·rename_i cs ds xs ys _ _
   cases hb:(P.eqGuardType P.depth t || !isStr P t)with
   | true=>rw[hb]at h;cases h
   | false=>
    rw[hb,cond_false]at h
    split at h
    ·injection h with h;subst h;rfl
    ·cases h
  ·cases h
 ·split at h
  ·obtain⟨z,h1,hz⟩:=v8 h
   clear hz
   split at h1
   ·injection h1 with h1;subst h1;rfl
   ·injection h1 with h1;subst h1;rfl
   ·rename_i l
    cases hb:xP l with
    | true=>rw[hb]at h1;cases h1
    | false=>rw[hb]at h1;injection h1 with h1;subst h1;rfl
   ·cases h1
  ·cases h
 ·exact fin _ _ h
theorem eC.res(h:eC e σ){op:Op}(eN:Iu op=true){v:A}(hv:cA P σ op some=some v):v.drop e=v:=by
 cases op with
 | move y=>simp only[cA]at hv;injection hv with hv;subst hv;exact h.n6 y
 | assign y=>simp only[cA]at hv;injection hv with hv;subst hv;exact h.n6 y
 | unOp f t y=>
  simp only[cA]at hv
  obtain⟨_,h1,_⟩:=AY hv
  obtain⟨_,h2,_⟩:=VQ h1
  injection h2 with h2
  subst h2
  rfl
 | field s y f=>
  simp only[cA]at hv
  have h1:=h.n6 y
  generalize aA σ y=u at h1 hv
  unfold tE at hv
  split at hv
  ·rename_i fd cs _
   injection h1 with h1
   have hc:=gp.of_map h1
   split at hv
   ·split at hv
    ·injection hv with hv
     subst hv
     exact congrArg A.agg (gp.W0 fun c hm=>hc c (List.mem_of_mem_drop (List.mem_of_mem_take hm)))
    ·cases hv
   ·split at hv
    ·rename_i z hz
     injection hv with hv
     subst hv
     exact congrArg A.lf (hc _ (List.mem_of_getElem? hz))
    ·cases hv
   ·cases hv
  ·cases hv
 | fieldAddr s y f=>
  simp only[cA]at hv
  have h1:=h.n6 y
  generalize aA σ y=u at h1 hv
  unfold qz at hv
  split at hv
  ·cases hv
  ·split at hv
   ·split at hv
    ·rename_i r j
     injection hv with hv
     subst hv
     have h1:(bif Nat.beq r e then A.undef else .aC r j) = .aC r j:=h1
     cases hl:Nat.beq r e with
     | true=>rw[hl]at h1;cases h1
     | false=>show (bif Nat.beq r e then A.undef else _)=_;rw[hl,cond_false]
    ·injection hv with hv;subst hv;rfl
    ·rename_i j i s' q
     injection hv with hv
     subst hv
     have h1:(bif aX e (j :: i :: s' :: q)then A.undef else .ptr (j :: i :: s' :: q)) = .ptr (j :: i :: s' :: q):=h1
     cases hl:aX e (j :: i :: s' :: q)with
     | true=>rw[hl]at h1;cases h1
     | false=>
      have fD:∀ j',aX e (j' :: i :: s' :: q)=false:=by
       intro j'
       unfold aX at hl ⊢
       simpa [List.getLast?_cons_cons]using hl
      show (bif aX e _ then A.undef else _)=_
      rw[fD,cond_false]
    ·cases hv
   ·cases hv
 | index t y i=>
  simp only[cA]at hv
  unfold vH at hv
  split at hv
  ·split at hv
   ·split at hv
    ·injection hv with hv;subst hv;rfl
    ·cases hv
   ·cases hv
  ·cases hv
 | load t y=>
  simp only[cA]at hv
  have h1:=h.n6 y
  generalize aA σ y=u at h1 hv
  unfold g7 at hv
  split at hv
  ·cases hv
  ·split at hv
   ·rename_i r j
    split at hv
    ·rename_i cs dn
     have hm:=h.m_ r
     rw[dn]at hm
     have hc:cs.map (Lf.drop e)=cs:=by
      cases hb:Nat.beq r e with
      | true=>rw[hb]at hm;cases hm
      | false=>
       rw[hb]at hm
       injection hm with hm
       injection hm
     exact PN hv fun c hm=>gp.of_map hc c (List.mem_of_mem_drop (List.mem_of_mem_take hm))
    ·cases hv
   ·refine PN hv fun c hm=>?_
    obtain⟨z,_,rfl⟩:=List.mem_map.1 hm
    rfl
   ·rename_i j i s q
    obtain⟨y,h2,hg,_⟩:=qa _ _ hv
    have hq:∀ j',aX e (j' :: i :: s :: q)=false:=by
     have h1:(bif aX e (j :: i :: s :: q)then A.undef else .ptr (j :: i :: s :: q)) = .ptr (j :: i :: s :: q):=h1
     have hl:aX e (j :: i :: s :: q)=false:=by
      cases hl:aX e (j :: i :: s :: q)with
      | false=>rfl
      | true=>rw[hl]at h1;cases h1
     intro j'
     unfold aX at hl ⊢
     simpa [List.getLast?_cons_cons]using hl
    split at h2
    ·split at h2
     ·split at h2
      ·refine PN h2 fun c hm=>?_
       obtain⟨n,hn⟩:=List.getElem?_of_mem hm
       rw[NJ]at hn
       obtain⟨z,_,rfl⟩:=Option.map_eq_some_iff.1 hn
       cases z.ah with
       | true=>rfl
       | false=>
        show (bif aX e _ then Lf.dead else _)=_
        rw[hq]
        rfl
      ·cases h2
     ·cases h2
    ·cases h2
   ·cases hv
 | binOp f t y z yt=>exact akP (by simpa only [cA]using hv)
 | call c=>
  obtain⟨callee,⟨args⟩,⟨cO⟩⟩:=c
  cases callee with
  | builtin b=>
   cases b <;>try (cases eN)
   match args,cO,hv with
   | [y],[t],hv=>
    simp only[cA]at hv
    unfold kP at hv
    split at hv
    ·obtain⟨_,h1,_⟩:=v8 hv
     split at h1
     ·split at h1
      ·injection h1 with h1;subst h1;rfl
      ·cases h1
     ·split at h1
      ·injection h1 with h1;subst h1;rfl
      ·cases h1
     ·split at h1
      ·injection h1 with h1;subst h1;rfl
      ·cases h1
     ·cases h1
    ·split at hv
     ·injection hv with hv;subst hv;rfl
     ·cases hv
    ·cases hv
   | [],_,hv=>cases hv
   | [_],[],hv=>cases hv
   | [_],_ :: _ :: _,hv=>cases hv
   | _ :: _ :: _,_,hv=>cases hv
  | _=>cases eN
 | _=>cases eN
theorem akQ{op:Op}(h:Iu op=true):eO op=true:=by
 cases op with
 | call c=>
  obtain⟨callee,args,cO⟩:=c
  cases callee with
  | builtin b=>cases b <;>first | rfl | cases h
  | _=>cases h
 | _=>first | rfl | cases h
theorem akR[Inhabited Wd](bI:fO P Φ){ops:Array Oper}{oj:Oper}{τ:S}(hx:mg x)(hu:ld e u)(he:e<20000)(hb:O3 Φ oj=true)(hl:e ∉ oj.looksAt ops)(hd:oj.dst≠some e)(h:eC e σ)
  (dM:c7 P N Φ ops (bT e x u σ) oj some=some τ):∃ aj,c7 P N Φ ops σ oj some=some aj/\τ=bT e x u aj/\eC e aj:=by
 have oP:bT e x u σ=(σ.root e x).set e u:=by
  unfold bT
  rw[show σ.drop e=σ from h]
 have bQ:∀ y∈oj.op.operands,aA (bT e x u σ) y=aA (σ.root e x) y:=fun y hy=>by
  rw[oP];exact D2 hl u hy
 have hw:eP (bT e x u σ) ops oj=eP σ ops oj:=by
  rw[oP]
  exact(uk (IA (σ:=σ.root e x) hl u)).trans rfl
 unfold c7 at dM ⊢
 rw[hw]at dM
 split at dM
 ·unfold O3 at hb
  rw[Bool.or_eq_true]at hb
  rcases hb with hb | hb
  ·have eW:∀ (k:A->Option S),cA P (bT e x u σ) oj.op k=cA P σ oj.op k:=fun k=>
    (A7 (σ:=σ.root e x) (σ2:=bT e x u σ) oj.op (by rw[oP];rfl) bQ k).trans (h.val hb k)
   have aW:∀ σ2:S,cM P N Φ σ2 oj some=cA P σ2 oj.op fun v=>ig N σ2 oj.dst v some:=by
    intro σ2
    unfold cM
    rw[akQ hb,cond_true]
   rw[aW,eW]at dM
   obtain⟨v,h1,D9,_⟩:=A5 (w0:=default) (N:=N) dM
   obtain⟨h2,h3⟩:=ju h1
   injection h2 with h2
   have hv:=h.res hb (D9.at_ (X:=A) some)
   refine⟨eR σ oj.dst v,?_,?_,h.put hv _⟩
   ·rw[aW]
    exact(D9.at_ _).trans ((h3 σ).at_ _)
   ·rw[<-h2,Pp hd hv]
  ·split at hb
   ·rename_i f args cO ho
    split at hb
    ·rename_i c hc
     have aW:∀ σ2,cM P N Φ σ2 oj some=dQ oj fun d=>tL N σ2 d c args.toList some:=by
      intro σ2
      unfold cM
      rw[show eO oj.op=false by rw[ho];rfl,cond_false]
      simp only[gH,ho,hc]
     rw[aW]at dM
     obtain⟨d,gu,dM⟩:=fo dM
     have qW:d≠e:=by rintro rfl;exact hd gu
     obtain⟨res,fL,h1,h2,h3⟩:=AZ (bI f _ hc).2 dM
     injection h2 with h2
     subst h2
     have gW:∀ y∈args.toList,(aA σ y).nr (mm e)=true/\y ≠ .tmp e:=by
      intro y hy
      have fm:y∈oj.op.operands:=by
       rw[ho]
       simp only[Op.operands,Call.operands]
       simp only[Array.mem_append]
       first
        | exact .inr (by simpa using hy)
        | exact .inl (by simpa using hy)
      refine⟨A.Bk (h.n6 y),?_⟩
      rintro rfl
      exact hl (List.mem_append_left _ (List.mem_filterMap.2 ⟨.tmp e,by simpa using fm,rfl⟩))
     have W3:∀ (X:Type) (k:List Pt->Option X),jb σ args.toList k=jb (bT e x u σ) args.toList k:=fun X k=>(Pv (IY e) _ k gW).symm
     unfold sq at h1 h3
     cases res with
     | one q=>
      simp only at h1 h3
      split at h1
      ·rename_i y hy
       injection h1 with h1
       refine⟨(fN (1000000000100000+1000*d) σ q.2).set d y,?_,?_,?_⟩
       ·rw[aW]
        unfold dQ
        rw[gu]
        exact(h3 σ _ W3 (by rw[hy])).at_ _
       ·rw[<-h1,Bd hx hu _ _ _ (by omega),wz qW (IS hy (Be _ _ (by omega)))]
       ·exact(eC.fN (d:=20000) he _ _ _ (by omega) h).set (IS hy (Be _ _ (by omega))) d
      ·cases h1
     | cq ps=>
      simp only at h1 h3
      injection h1 with h1
      refine⟨(ir (1000000000100000+1000*d) σ ps).set d (.cq (jL (1000000000100000+1000*d) ps)),?_,?_,?_⟩
      ·rw[aW]
       unfold dQ
       rw[gu]
       exact(h3 σ _ W3 rfl).at_ _
      ·rw[<-h1,IN hx hu _ _ _ (by omega),wz qW (IT _ _ (by omega))]
      ·exact(eC.ir (d:=20000) he _ _ _ (by omega) h).set (IT _ _ (by omega)) d
    ·cases hb
   ·cases hb
 ·obtain⟨h2,h3⟩:=ju dM
  injection h2 with h2
  refine⟨eR σ oj.dst .skip,(h3 σ).at_ _,?_,h.put rfl _⟩
  rw[<-h2,Pp hd rfl]
 ·cases dM
theorem Rl.PO(h:Rl w0 N af ρ σ a w)(d:Nat):Rl w0 N af ρ (σ.drop d) a w:=by
 refine⟨h.below,h.cH,fun r y hy=>?_,fun k=>(h.tmp k).dF fun _ _=>rfl,h.size,h.defers,h.fix,h.eg⟩
 have hy:(bif Nat.beq r d then none else (σ.m r).map (aP.drop d))=some y:=hy
 cases hb:Nat.beq r d with
 | true=>rw[hb]at hy;cases hy
 | false=>
  rw[hb,cond_false]at hy
  obtain⟨z,hz,rfl⟩:=Option.map_eq_some_iff.1 hy
  exact(h.root r z hz).dF (fun _ _=>rfl) (by rintro rfl;simp at hb)
theorem R.PO(h:R w0 N σ a w)(d:Nat):R w0 N (σ.drop d) a w:=by
 obtain⟨af,ρ,h⟩:=h
 exact⟨af,ρ,h.PO d⟩
theorem akS[Inhabited Wd](bI:fO P Φ){ops:Array Oper}{k:S->Option X}(h:ug P N Φ ops σ k=some r):∃ PR,(∀ w0 a w,R w0 N σ a w->R w0 N PR a w)/\Any P N Φ ops (fun τ=>k τ=some r) ops.size 0 PR:=by
 unfold ug at h
 split at h
 ·rename_i i hf
  have hc:=List.find?_some hf
  have hi:=List.mem_range.1 (List.mem_of_find?_eq_some hf)
  split at h
  ·rename_i o ho
   split at h
   ·rename_i e he
    unfold early at hc
    rw[ho]at hc
    simp only[Bool.and_eq_true]at hc
    obtain⟨⟨⟨⟨⟨⟨_,c1⟩,c2⟩,c3⟩,c4⟩,c5⟩,c6⟩:=hc
    have mW:=IW _ _ c6
    have c5:=Nat.eq_of_beq_eq_true c5
    have yL:∀ j,(waits ops i ops.size 0 0).testBit j=true->(0 ||| 2 ^ i).testBit j=false:=by
     intro j hj
     have:((0 ||| 2 ^ i) &&& waits ops i ops.size 0 0).testBit j=false:=by rw[c5];exact Nat.zero_testBit j
     rw[Nat.testBit_and,hj,Bool.and_true]at this
     exact this
    have hg:o.guard=none:=Option.isNone_iff_eq_none.1 c2
    have ur:∀ σ2,eP σ2 ops o=some true:=fun σ2=>by unfold eP;rw[hg]
    obtain⟨τ,h1,h2⟩:=O7 bI h
    obtain⟨e',x,u,hd,PG,hx,hu,dM,iN⟩:=D5 c1 (ur _) h2
    rw[he]at hd
    injection hd with hd
    subst hd
    obtain⟨n,hn⟩:∃ n,ops.size=n+1:=⟨ops.size-1,by omega⟩
    have hconst:∀ σ2 y,y∈o.op.operands->aA σ2 y=aA (σ.drop e) y:=by
     intro σ2 y hy
     have:=List.all_eq_true.1 c4 y (by simpa using hy)
     cases y with
     | const v=>rfl
     | _=>cases this
    refine⟨σ.drop e,fun w0 a w hR=>hR.PO e,?_⟩
    have hA:=Ed bI _ _ _ k h1
    rw[dM]at hA
    have cT:ops.size-1=n:=by omega
    rw[cT]at hA
    rw[hn]
    refine Pm (W:=waits ops i ops.size 0 0) ho (fun j oj cU hj=>?_) (fun σ=>bT e x u σ) (fun _ σ=>eC e σ) (fun L aj _=>iN aj (ur _) (hconst aj)) (fun L aj j oj fL hF cU ef eX eB yJ=>?_) n 0 (σ.drop e) (fun j _=>Nat.zero_testBit j) c3 (eC.drop σ) hA
    ·have bw:=(Array.getElem?_eq_some_iff.1 cU).1
     rcases mW j (by omega) (by omega)with e1 | e1 | e1 | e1
     ·subst e1
      have:=yL j hj
      rw[qc]at this
      simp at this
     ·rw[Nat.zero_testBit]at e1;cases e1
     ·exact PI cU e1.2
     ·rw[hj]at e1;cases e1.1
    ·have bw:=(Array.getElem?_eq_some_iff.1 cU).1
     rcases mW j (by omega) (by omega)with e1 | e1 | e1 | e1
     ·exact absurd e1 ef
     ·rw[Nat.zero_testBit]at e1;cases e1
     ·rw[eB]at e1;cases e1.1
     ·obtain⟨b1,b2⟩:=e1.2 oj cU
      obtain⟨a1,a2,a3⟩:=Oper.apart_spec b2
      exact akR bI hx hu PG b1 (a1 e he) (fun hd=>a2 e he hd) hF yJ
   ·cases h
  ·cases h
 ·exact⟨σ,fun _ _ _ h=>h,Ed bI _ _ _ _ h⟩
theorem akT[Inhabited Wd](bI:fO P Φ){ops:Array Oper}{id:Nat}{k:S->Option X}(hm:P.follows .mixedOrders=true)(h:ug P N Φ ops σ k=some r){Q:Exit->Act->World->Prop}(hQ:∀ τ,k τ=some r->∀ a w,R w0 N τ a w->Q .normal a w)(hR:R w0 N σ a w):
  (Code.region id ops true).wp P Q a w:=by
 obtain⟨PR,h1,h2⟩:=akS bI h
 exact wp_region_any hm (WZ bI hQ _ _ _ _ h2 qY.start a _ (h1 _ _ _ hR).drawn)
end
end Go.Proofs.YtinbifpbkcbnkaaGreat
namespace Go.Proofs.YtinbifpbkcbnkaaGreat
open Go.RowKit
set_option linter.unusedVariables false
section
variable {P:Program} {w w':World} {w0:Wd} {B N:Nat} {af ax:bq} {ρ ρ':Nat->Loc} {σ:S} {a:Act} {X:Type} {d:Nat} {r:X} {o:Oper} {Φ:dG} {Λ:me}
theorem akU{dst:Option Tmp}{g:Bool}{k:S->Option X}(h:mU σ dst g k=some r):∃ aj,k aj=some r/\∀ a w,R w0 N σ a w->R w0 N aj a w:=by
 unfold mU at h
 cases g with
 | false=>exact⟨σ,h,fun _ _ h=>h⟩
 | true=>
  rw[cond_true]at h
  split at h
  ·rename_i d
   split at h
   ·rename_i b hb
    have key:∀ c:Bool,b=c->∀ a w,R w0 N σ a w->R w0 N (σ.set d (.lf (.v (.bool c)))) a w:=by
     rintro c rfl a w ⟨af,ρ,hR⟩
     refine⟨af,ρ,hR.below,hR.cH,hR.root,fun k=>?_,hR.size,hR.defers,hR.fix,hR.eg⟩
     show RA w w0.heap.size af ρ (bG σ.t d (.lf (.v (.bool b))) k) _
     by_cases hk:k=d
     ·subst hk
      rw[bK,<-hb]
      exact hR.tmp k
     ·rw[cm _ _ _ hk]
      exact hR.tmp k
    cases b with
    | true=>exact⟨_,h,key true rfl⟩
    | false=>exact⟨_,h,key false rfl⟩
   ·exact⟨σ,h,fun _ _ h=>h⟩
  ·exact⟨σ,h,fun _ _ h=>h⟩
theorem IZ(bI:fO P Φ)(ops:Array Oper):∀ (rest:List Oper) (j:Nat) (σ:S) (k:S->Option X),sv P N Φ ops j rest σ k=some r->∃ aj,k aj=some r/\∀ a w,R w0 N σ a w->∀ Q,(∀ a' w',R w0 N aj a' w'->Q Exit.normal a' w')->wpList P ops Q rest a w
 | [],j,σ,k,h=>⟨σ,h,fun a w hR Q hQ=>hQ a w hR⟩
 | o :: rest,j,σ,k,h=>by
  unfold sv at h
  split at h
  ·rename_i ur
   obtain⟨mb,h1,eN⟩:=ajO (w0:=w0) bI h
   obtain⟨σ2,h2,td⟩:=akU (w0:=w0) (N:=N) h1
   obtain⟨Ef,h3,iK⟩:=IZ bI ops rest (j+1) σ2 k h2
   refine⟨Ef,h3,fun a w hR Q hQ=>?_⟩
   obtain⟨af,ρ,aT⟩:=hR
   simp only[wpList,Bi ur aT,if_true]
   exact .inl (eN a w _ Q ⟨af,ρ,aT⟩ fun a' w' nY=>iK a' w' (td a' w' nY) Q hQ)
  ·rename_i ur
   unfold ig at h
   split at h
   ·rename_i hd
    obtain⟨Ef,h3,iK⟩:=IZ bI ops rest (j+1) σ k h
    refine⟨Ef,h3,fun a w hR Q hQ=>?_⟩
    obtain⟨af,ρ,aT⟩:=hR
    simp only[wpList,Bi ur aT,hd]
    exact iK a w ⟨af,ρ,aT⟩ Q hQ
   ·rename_i d hd
    cases hN:Nat.blt d N with
    | false=>rw[hN]at h;cases h
    | true=>
     rw[hN,cond_true]at h
     obtain⟨Ef,h3,iK⟩:=IZ bI ops rest (j+1) _ k h
     refine⟨Ef,h3,fun a w hR Q hQ=>?_⟩
     obtain⟨af,ρ,aT⟩:=hR
     simp only[wpList,Bi ur aT,hd]
     exact iK _ w ⟨af,ρ,aT.set rfl (by have:=Nat.le_of_ble_eq_true hN;omega)⟩ Q hQ
  ·cases h
theorem I0(bI:fO P Φ):∀ (c:Code) (σ:S) (k:Exit->S->Option X),fZ P N Φ Λ c σ k=some r->uh P N Λ (occs c)->AW P w0 N c σ fun e aj=>k e aj=some r:=by
 intro c
 induction c with
 | skip=>exact fun σ k h _ a w hR=>wp_skip ⟨σ,h,hR⟩
 | label l=>exact fun σ k h _ a w hR=>wp_label ⟨σ,h,hR⟩
 | ret=>exact fun σ k h _ a w hR=>wp_ret ⟨σ,h,hR⟩
 | exit id=>exact fun σ k h _ a w hR=>wp_exit ⟨σ,h,hR⟩
 | region id ops draw=>
  intro σ k h _ a w hR
  cases draw with
  | true=>
   simp only[fZ]at h
   cases hm:P.follows .mixedOrders with
   | false=>rw[hm]at h;cases h
   | true=>
    rw[hm,cond_true]at h
    haveI:Inhabited Wd:=⟨w0⟩
    exact akT bI hm h (fun τ dM a w hR=>⟨τ,dM,hR⟩) hR
  | false=>
   simp only[fZ]at h
   obtain⟨aj,h',hw⟩:=IZ (w0:=w0) bI ops _ _ _ _ h
   exact wp_region_list (hw a w hR _ fun a' w' aT=>⟨aj,h',aT⟩)
 | seq x y yN yO=>
  intro σ k h jP a w hR
  simp only[fZ]at h
  have h1:=yN σ _ h (fun p hp=>jP p (List.mem_append_left _ hp))
  refine wp_seq (wp_mono (h1 a w hR) fun e a' w' he=>?_)
  obtain⟨aj,hk,aT⟩:=he
  cases e with
  | normal=>exact yO aj k hk (fun p hp=>jP p (List.mem_append_right _ hp)) a' w' aT
  | _=>exact⟨aj,hk,aT⟩
 | cond c x y yN yO=>
  intro σ k h jP a w hR
  simp only[fZ]at h
  split at h
  ·rename_i b hb
   obtain⟨af,ρ,aT⟩:=hR
   have hc:=aT.aA c
   rw[hb]at hc
   have W4:=hc.2.vC
   cases b with
   | true=>exact wp_cond_true W4 (yN σ k h (fun p hp=>jP p (List.mem_append_left _ hp)) a w ⟨af,ρ,aT⟩)
   | false=>exact wp_cond_false W4 (yO σ k h (fun p hp=>jP p (List.mem_append_right _ hp)) a w ⟨af,ρ,aT⟩)
  ·cases h
 | block id c ih=>
  intro σ k h jP a w hR
  simp only[fZ]at h
  split at h
  ·rename_i b hb
   exact jP (id,c) (.head _) b hb X σ k r w0 h a w hR
  ·have h1:=ih σ _ h (fun p hp=>jP p (.tail _ hp))
   refine wp_block (wp_mono (h1 a w hR) fun e a' w' he=>?_)
   obtain⟨aj,hk,aT⟩:=he
   cases e with
   | exit oV=>
    simp only[Exit.inBlock]
    by_cases hid:oV=id
    ·simp only[hid,if_true]at hk ⊢
     exact⟨aj,hk,aT⟩
    ·simp only[hid,if_false]at hk ⊢
     exact⟨aj,hk,aT⟩
   | _=>exact⟨aj,hk,aT⟩
 | _=>exact fun σ k h=>by simp[fZ]at h
end
/-! What a loop carries. -/
inductive Lm where
 | int (k:IntKind)
 | bool
 | str
 | own (r:Nat)
 | ah (t:TC) (o:Nat)
def Lm.T:Lm->Type
 | .int _=>Int
 | .bool=>Bool
 | .str=>ByteArray
 | .own _=>Unit
 | .ah t _=>List (Proofs.YtinbifpbkcbnkaaGreat.T t)
def Lm.mk:(m:Lm)->m.T->Lf
 | .int k,n=>.v (.int k n)
 | .bool,b=>.v (.bool b)
 | .str,s=>.v (.str s)
 | .own r,_=>.own [r]
 | .ah t o,l=>.v (.sl t o false l)
def Lm.rd:(m:Lm)->Lf->Option m.T
 | .int k,.v (.int k' n)=>if k'=k then some n else none
 | .bool,.v (.bool b)=>some b
 | .str,.v (.str s)=>some s
 | .own r,.own [r']=>bif Nat.beq r' r then some ()else none
 | .ah t o,.v x=>bif Nat.blt o 2 then x.dh t o else none
 | _,_=>none
inductive Tm where
 | lf (m:Lm)
 | aC (r j:Nat)
 | fp (t:TC) (o:Nat)
 | fc (f:Nat) (t:TC)
 | ag (t:TC)
 | pk (r n:Nat)
def Tm.T:Tm->Type
 | .lf m=>m.T
 | .aC _ _=>Unit
 | .fp t _=>Proofs.YtinbifpbkcbnkaaGreat.T t
 | .fc _ t=>Proofs.YtinbifpbkcbnkaaGreat.T t
 | .ag t=>Proofs.YtinbifpbkcbnkaaGreat.T t
 | .pk _ _=>Unit
def Tm.mk:(m:Tm)->m.T->A
 | .lf m,x=>.lf (m.mk x)
 | .aC r j,_=>.aC r j
 | .fp t o,x=>.gz (enc t o x)
 | .fc f t,x=>.kN f (enc t 0 x)
 | .ag t,x=>.agg ((enc t 0 x).map .v)
 | .pk r n,_=>.pk r n
def Tm.rd:(m:Tm)->A->Option m.T
 | .lf m,.lf x=>m.rd x
 | .aC r j,.aC r' j'=>bif Nat.beq r' r&&Nat.beq j' j then some ()else none
 | .fp t o,.gz cs=>bif Nat.blt o 2 then dec t o cs else none
 | .fc f t,.kN f' cs=>bif Nat.beq f' f then dec t 0 cs else none
 | .ag t,.agg cs=>(match rU cs with
  | some vs=>dec t 0 vs
  | none=>none)
 | .pk r n,.pk r' n'=>bif Nat.beq r' r&&Nat.beq n' n then some ()else none
 | _,_=>none
def Eg:List Lm->Type
 | []=>Unit
 | m :: ms=>m.T×Eg ms
def uv:(ms:List Lm)->Eg ms->List Lf
 | [],_=>[]
 | m :: ms,x=>m.mk x.1 :: uv ms x.2
def Bl:(ms:List Lm)->List Lf->Option (Eg ms)
 | [],[]=>some ()
 | m :: ms,x :: xs=>match m.rd x,Bl ms xs with
  | some y,some ys=>some (y,ys)
  | _,_=>none
 | _,_=>none
inductive Rm where
 | sl (t:TC) (o:Nat)
 | st (t:TC)
 | ak (ms:List Lm)
 | mp
def Rm.T:Rm->Type
 | .sl t _=>List (Proofs.YtinbifpbkcbnkaaGreat.T t)
 | .st t=>Proofs.YtinbifpbkcbnkaaGreat.T t
 | .ak ms=>Eg ms
 | .mp=>List (Int×Bool)
def Rm.mk:(m:Rm)->m.T->aP
 | .sl t o,l=>.sl (.sl t o false l)
 | .st t,x=>.ak ((enc t 0 x).map .v)
 | .ak ms,x=>.ak (uv ms x)
 | .mp,l=>.mp l
def Rm.rd:(m:Rm)->aP->Option m.T
 | .sl t o,.sl y=>y.dh t o
 | .st t,.ak cs=>(match rU cs with
  | some vs=>dec t 0 vs
  | none=>none)
 | .ak ms,.ak cs=>Bl ms cs
 | .mp,.mp l=>some l
 | _,_=>none
def Bm:List (Nat×Tm)->Type
 | []=>Unit
 | (_,m) :: ms=>m.T×Bm ms
def uw:(ms:List (Nat×Tm))->Bm ms->Nat->A
 | [],_,_=>.undef
 | (n,m) :: ms,x,k=>bif Nat.beq k n then m.mk x.1 else uw ms x.2 k
def Eh:(ms:List (Nat×Tm))->(Nat->A)->Option (Bm ms)
 | [],_=>some ()
 | (n,m) :: ms,t=>match m.rd (t n),Eh ms t with
  | some x,some xs=>some (x,xs)
  | _,_=>none
def ux:List (Nat×Rm)->Type
 | []=>Unit
 | (_,m) :: ms=>m.T×ux ms
def uy:(ms:List (Nat×Rm))->ux ms->Nat->Option aP
 | [],_,_=>none
 | (n,m) :: ms,x,k=>bif Nat.beq k n then some (m.mk x.1)else uy ms x.2 k
def Bn:(ms:List (Nat×Rm))->(Nat->Option aP)->Option (ux ms)
 | [],_=>some ()
 | (n,m) :: ms,t=>match (t n).bind m.rd,Bn ms t with
  | some x,some xs=>some (x,xs)
  | _,_=>none
structure iO where
 ts:List (Nat×Tm)
 rs:List (Nat×Rm)
def iO.St(τ:iO):Type:=Bm τ.ts×ux τ.rs
def iO.mk'(τ:iO)(x:τ.St):S:=⟨uw τ.ts x.1,uy τ.rs x.2⟩
def iO.I1(τ:iO)(σ:S):Option τ.St:=match Eh τ.ts σ.t,Bn τ.rs σ.m with
 | some x,some y=>some (x,y)
 | _,_=>none
/-! Roots by other names. -/
abbrev Rn:=List (Nat×Nat)
def Rn.inv(rs:Rn)(n:Nat):Option Nat:=(rs.find? fun p=>Nat.beq p.2 n).map (·.1)
def Rn.add(rs:Rn)(r n:Nat):Rn:=bif rs.any (fun p=>Nat.beq p.1 r&&Nat.beq p.2 n)then rs else (r,n) :: rs
def PS(n:Nat):Option Nat->Bool
 | some m=>Nat.beq m n
 | none=>false
def Rn.ok(rs:Rn):Bool:=rs.all fun p=>(Nat.beq p.1 p.2 || Nat.ble 60000 p.2)&&PS p.2 (rs.lookup p.1)&&PS p.1 (rs.inv p.2)
def Lf.dL(rs:Rn):Lf->Lf
 | .v x=>.v x
 | .own [r]=>(match rs.lookup r with
  | some n=>.own [n]
  | none=>.dead)
 | _=>.dead
def A.dL(rs:Rn):A->A
 | .lf x=>.lf (x.dL rs)
 | .aC r j=>(match rs.lookup r with
  | some n=>.aC n j
  | none=>.undef)
 | .gz cs=>.gz cs
 | .kN f cs=>.kN f cs
 | .agg cs=>.agg (cs.map (Lf.dL rs))
 | _=>.undef
def aP.dL(rs:Rn):aP->aP
 | .ak cs=>.ak (cs.map (Lf.dL rs))
 | .sl y=>.sl y
 | .mp l=>.mp l
 | .gh _=>.gh []
def S.dL(rs:Rn)(σ:S):S:=⟨fun k=>(σ.t k).dL rs,fun n=>match rs.inv n with
 | some r=>(σ.m r).map (aP.dL rs)
 | none=>none⟩
def W5:Lm->Lf->Rn->Rn
 | .own n,.own [r],rs=>rs.add r n
 | _,_,rs=>rs
def PT:List Lm->List Lf->Rn->Rn
 | m :: ms,x :: xs,rs=>PT ms xs (W5 m x rs)
 | _,_,rs=>rs
def rnT:Tm->A->Rn->Rn
 | .lf m,.lf x,rs=>W5 m x rs
 | .aC n j,.aC r j',rs=>rs.add r n
 | _,_,rs=>rs
def W6(t:Nat->A):List (Nat×Tm)->Rn->Rn
 | [],rs=>rs
 | (k,m) :: ms,rs=>W6 t ms (rnT m (t k) rs)
def W7(m:Nat->Option aP):List (Nat×Rm)->Rn->Rn
 | [],rs=>rs
 | (n,x) :: xs,rs=>W7 m xs (match x,rs.inv n with
  | .ak ms,some r=>(match m r with
   | some (.ak cs)=>PT ms cs rs
   | _=>rs)
  | .ak ms,none=>(match m n with
   | some (.ak cs)=>PT ms cs (rs.add n n)
   | _=>rs)
  | _,some _=>rs
  | _,none=>rs.add n n)
def iO.rn(τ:iO)(σ:S):Rn:=W7 σ.m τ.rs (W6 σ.t τ.ts [])
def PU(rs:List (Nat×Rm))(p:Nat×Tm)(σ:S):S:=match p.2,σ.t p.1 with
 | .lf (.own n),.lf (.v .nil)=>(match rs.lookup n with
  | some (.sl t o)=>bif Nat.ble 60000 n then ⟨bG ((σ.drop n).root n (.sl (.sl t o false []))).t p.1 (.lf (.own [n])),((σ.drop n).root n (.sl (.sl t o false []))).m⟩else σ
  | _=>σ)
 | _,_=>σ
def I2(rs:List (Nat×Rm)):List (Nat×Tm)->S->S
 | [],σ=>σ
 | p :: ps,σ=>I2 rs ps (PU rs p σ)
def PW(n j r:Nat)(σ:S):S:=match σ.m r with
 | some (.ak cs)=>(match cs[j]? with
  | some (.v .nil)=>⟨σ.t,bG σ.m r (some (.ak (cs.set j (.own [n]))))⟩
  | _=>σ)
 | _=>σ
def PX(rs:List (Nat×Rm))(n j r:Nat)(σ:S):S:=match rs.lookup n with
 | some (.sl t o)=>bif Nat.ble 60000 n then PW n j r ((σ.drop n).root n (.sl (.sl t o false [])))else σ
 | _=>σ
def yP(rs:List (Nat×Rm))(r:Nat):Nat->List Lm->List Lf->S->S
 | j,.own n :: ms,.v .nil :: cs,σ=>yP rs r (j+1) ms cs (PX rs n j r σ)
 | j,_ :: ms,_ :: cs,σ=>yP rs r (j+1) ms cs σ
 | _,_,_,σ=>σ
def Ei(rs:List (Nat×Rm)):List (Nat×Rm)->S->S
 | [],σ=>σ
 | (r,.ak ms) :: ps,σ=>Ei rs ps (match σ.m r with
  | some (.ak cs)=>yP rs r 0 ms cs σ
  | _=>σ)
 | _ :: ps,σ=>Ei rs ps σ
def iO.W8(τ:iO)(σ:S):Option τ.St:=bif (τ.rn σ).ok then τ.I1 (Ei τ.rs τ.rs (σ.dL (τ.rn σ)))else none
def iO.rd(τ:iO)(σ:S):Option τ.St:=match τ.I1 σ with
 | some x=>some x
 | none=>τ.W8 (I2 τ.rs τ.ts σ)
section
variable {P:Program} {w w':World} {w0:Wd} {B N:Nat} {af ax:bq} {ρ ρ':Nat->Loc} {σ:S} {a:Act} {X:Type} {d:Nat} {r:X} {o:Oper} {Φ:dG} {Λ:me}
theorem Lm.n9{m:Lm}{x:Lf}{y:m.T}(h:m.rd x=some y){u:Value}(hu:cL w B af ρ x u):cL w B af ρ (m.mk y) u:=by
 unfold Lm.rd at h
 split at h
 ·split at h
  ·rename_i hk;subst hk;injection h with h;subst h;exact hu
  ·cases h
 ·injection h with h;subst h;exact hu
 ·injection h with h;subst h;exact hu
 ·rename_i r' r''
  cases hb:Nat.beq r'' r' with
  | false=>rw[hb]at h;cases h
  | true=>obtain rfl:=Nat.eq_of_beq_eq_true hb;exact hu
 ·rename_i t o x
  cases hb:Nat.blt o 2 with
  | false=>rw[hb]at h;cases h
  | true=>
   rw[hb]at h
   have h:V.dh t o x=some y:=h
   have:=Nat.le_of_ble_eq_true hb
   exact⟨by simp[V.ah];omega,hu.2.wk (V.dD h)⟩
 ·cases h
theorem Tm.n9{m:Tm}{x:A}{y:m.T}(h:m.rd x=some y){u:Value}(hu:RA w B af ρ x u):RA w B af ρ (m.mk y) u:=by
 cases m with
 | lf m=>
  cases x with
  | lf x=>exact Lm.n9 (m:=m) h hu
  | _=>cases h
 | aC r j=>
  cases x with
  | aC r' j'=>
   have h:(bif Nat.beq r' r&&Nat.beq j' j then some ()else none)=some y:=h
   cases hb:(Nat.beq r' r&&Nat.beq j' j)with
   | false=>rw[hb]at h;cases h
   | true=>
    rw[Bool.and_eq_true]at hb
    obtain rfl:=Nat.eq_of_beq_eq_true hb.1
    obtain rfl:=Nat.eq_of_beq_eq_true hb.2
    exact hu
  | _=>cases h
 | fp t o=>
  cases x with
  | gz cs=>
   have h:(bif Nat.blt o 2 then dec t o cs else none)=some y:=h
   cases hb:Nat.blt o 2 with
   | false=>rw[hb]at h;cases h
   | true=>
    rw[hb,cond_true]at h
    have ho:=Nat.le_of_ble_eq_true hb
    have hk:=mK t o cs y h
    obtain⟨b,off,h1,h2,h3,h4⟩:=hu
    refine⟨b,off,h1,h2,h3,fun j z hz=>?_⟩
    have hj:j<cs.length:=by rw[hk.1];exact(List.getElem?_eq_some_iff.1 hz).1
    have hv:=List.getElem?_eq_getElem hj
    obtain⟨g1,v,g2,g3⟩:=h4 j _ hv
    exact⟨jl t o y (by omega) j z hz,v,g2,g3.wk (hk.2 j _ z hv hz)⟩
  | _=>cases h
 | fc f t=>
  cases x with
  | kN f' cs=>
   have h:(bif Nat.beq f' f then dec t 0 cs else none)=some y:=h
   cases hb:Nat.beq f' f with
   | false=>rw[hb]at h;cases h
   | true=>
    rw[hb,cond_true]at h
    obtain rfl:=Nat.eq_of_beq_eq_true hb
    have hk:=mK t 0 cs y h
    obtain⟨pv,e0,b,off,h1,h2,h3,h4⟩:=hu
    refine⟨pv,e0,b,off,h1,h2,h3,fun j z hz=>?_⟩
    have hj:j<cs.length:=by rw[hk.1];exact(List.getElem?_eq_some_iff.1 hz).1
    have hv:=List.getElem?_eq_getElem hj
    obtain⟨g1,v,g2,g3⟩:=h4 j _ hv
    exact⟨jl t 0 y (by omega) j z hz,v,g2,g3.wk (hk.2 j _ z hv hz)⟩
  | _=>cases h
 | ag t=>
  cases x with
  | agg cs=>
   have h:(match rU cs with | some vs=>dec t 0 vs | none=>none)=some y:=h
   cases fK:rU cs with
   | none=>rw[fK]at h;cases h
   | some vs=>
    rw[fK]at h
    have h:dec t 0 vs=some y:=h
    have dn:=HH _ _ fK
    have hk:=mK t 0 vs y h
    obtain⟨us,h1,h2,h3⟩:=hu
    refine⟨us,h1,?_,fun j x hx=>?_⟩
    ·rw[h2,dn,List.length_map,List.length_map,hk.1]
    ·rw[List.getElem?_map]at hx
     cases hz:(enc t 0 y)[j]? with
     | none=>rw[hz]at hx;cases hx
     | some z=>
      rw[hz]at hx
      injection hx with hx
      subst hx
      have hj:j<vs.length:=by rw[hk.1];exact(List.getElem?_eq_some_iff.1 hz).1
      have hv:=List.getElem?_eq_getElem hj
      obtain⟨v,g1,g2⟩:=h3 j (.v vs[j]) (by rw[dn,List.getElem?_map,hv];rfl)
      exact⟨v,g1,jl t 0 y (by omega) j z hz,g2.2.wk (hk.2 j _ z hv hz)⟩
  | _=>cases h
 | pk r n=>
  cases x with
  | pk r' n'=>
   have h:(bif Nat.beq r' r&&Nat.beq n' n then some ()else none)=some y:=h
   cases hb:(Nat.beq r' r&&Nat.beq n' n)with
   | false=>rw[hb]at h;cases h
   | true=>
    rw[Bool.and_eq_true]at hb
    obtain rfl:=Nat.eq_of_beq_eq_true hb.1
    obtain rfl:=Nat.eq_of_beq_eq_true hb.2
    exact hu
  | _=>cases h
theorem W9:∀ (ms:List Lm) (cs:List Lf) (y:Eg ms),Bl ms cs=some y->(uv ms y).length=cs.length/\∀ (j:Nat) x,(uv ms y)[j]?=some x->∃ z,cs[j]?=some z/\(∀ (w:World) (B:Nat) (af:bq) (ρ:Nat->Loc) (u:Value),cL w B af ρ z u->cL w B af ρ x u)
 | [],[],y,h=>⟨rfl,fun j x hx=>by simp[uv]at hx⟩
 | m :: ms,c :: cs,y,h=>by
  unfold Bl at h
  split at h
  ·rename_i y1 ys h1 h2
   injection h with h
   subst h
   obtain⟨k1,k2⟩:=W9 ms cs ys h2
   refine⟨by simp[uv,k1],fun j x hx=>?_⟩
   cases j with
   | zero=>simp[uv]at hx;subst hx;exact⟨c,rfl,fun w B af ρ u hu=>Lm.n9 h1 hu⟩
   | succ j=>exact k2 j x (by simpa [uv]using hx)
  ·cases h
 | [],_ :: _,y,h=>by simp[Bl]at h
 | _ :: _,[],y,h=>by simp[Bl]at h
theorem Rm.n9{m:Rm}{x:aP}{y:m.T}(h:m.rd x=some y){n:Nat}(hx:dK w B af ρ n x):dK w B af ρ n (m.mk y):=by
 cases m with
 | sl t o=>
  cases hx with
  | sl v y' aK hr=>exact .sl v _ aK (hr.wk (V.dD h))
  | ak=>cases h
  | mp=>cases h
  | gh=>cases h
 | mp=>
  cases hx with
  | gh=>cases h
  | sl=>cases h
  | ak=>cases h
  | mp b c es l aK hl hh he=>injection h with h;subst h;exact .mp b c es _ aK hl hh he
 | st t=>
  cases hx with
  | sl=>cases h
  | mp=>cases h
  | gh=>cases h
  | ak b off cells e cs us aK hl hh hs hc=>
   have h:(match rU cs with | some vs=>dec t 0 vs | none=>none)=some y:=h
   cases fK:rU cs with
   | none=>rw[fK]at h;cases h
   | some vs=>
    rw[fK]at h
    have h:dec t 0 vs=some y:=h
    have dn:=HH _ _ fK
    have hk:=mK t 0 vs y h
    refine .ak b off cells e _ us aK hl hh (by rw[List.length_map,<-hk.1];rw[dn,List.length_map]at hs;exact hs) fun j x hx=>?_
    rw[List.getElem?_map]at hx
    cases hz:(enc t 0 y)[j]? with
    | none=>rw[hz]at hx;cases hx
    | some z=>
     rw[hz]at hx
     injection hx with hx
     subst hx
     have hj:j<vs.length:=by rw[hk.1];exact(List.getElem?_eq_some_iff.1 hz).1
     have hv:=List.getElem?_eq_getElem hj
     obtain⟨h1,h2⟩:=hc j (.v vs[j]) (by rw[dn,List.getElem?_map,hv];rfl)
     exact⟨h1,jl t 0 y (by omega) j z hz,h2.2.wk (hk.2 j _ z hv hz)⟩
 | ak ms=>
  cases hx with
  | sl=>cases h
  | mp=>cases h
  | gh=>cases h
  | ak b off cells e cs us aK hl hh hs hc=>
   obtain⟨k1,k2⟩:=W9 ms cs y h
   refine .ak b off cells e _ us aK hl hh (by show off+(uv ms y).length<=_;rw[k1];exact hs) fun j x hx=>?_
   obtain⟨z,hz,hm⟩:=k2 j x hx
   exact⟨(hc j z hz).1,hm _ _ _ _ _ (hc j z hz).2⟩
theorem PY:∀ (ms:List (Nat×Tm)) (t:Nat->A) (y:Bm ms),Eh ms t=some y->∀ k,uw ms y k = .undef\/∃ m z,(Tm.rd m (t k)=some z/\uw ms y k=m.mk z)
 | [],t,y,h,k=>.inl rfl
 | (n,m) :: ms,t,y,h,k=>by
  unfold Eh at h
  split at h
  ·rename_i x xs h1 h2
   injection h with h
   subst h
   by_cases hk:k=n
   ·subst hk
    exact .inr ⟨m,x,h1,by simp[uw]⟩
   ·have hb:Nat.beq k n=false:=by
     cases hb:Nat.beq k n with
     | false=>rfl
     | true=>exact absurd (Nat.eq_of_beq_eq_true hb) hk
    simp only[uw,hb,cond_false]
    exact PY ms t xs h2 k
  ·cases h
theorem PZ:∀ (ms:List (Nat×Rm)) (t:Nat->Option aP) (y:ux ms),Bn ms t=some y->∀ k,uy ms y k=none\/∃ m x z,t k=some x/\Rm.rd m x=some z/\uy ms y k=some (m.mk z)
 | [],t,y,h,k=>.inl rfl
 | (n,m) :: ms,t,y,h,k=>by
  unfold Bn at h
  split at h
  ·rename_i x xs h1 h2
   injection h with h
   subst h
   by_cases hk:k=n
   ·subst hk
    cases ht:t k with
    | none=>rw[ht]at h1;cases h1
    | some z=>rw[ht]at h1;exact .inr ⟨m,z,x,rfl,h1,by simp[uy]⟩
   ·have hb:Nat.beq k n=false:=by
     cases hb:Nat.beq k n with
     | false=>rfl
     | true=>exact absurd (Nat.eq_of_beq_eq_true hb) hk
    simp only[uy,hb,cond_false]
    exact PZ ms t xs h2 k
  ·cases h
theorem iO.Xa{τ:iO}{x:τ.St}(h:τ.I1 σ=some x)(hR:R w0 N σ a w):R w0 N (τ.mk' x) a w:=by
 unfold iO.I1 at h
 split at h
 ·rename_i u v h1 h2
  injection h with h
  subst h
  obtain⟨af,ρ,hR⟩:=hR
  refine⟨af,ρ,hR.below,hR.cH,fun n y hy=>?_,fun k=>?_,hR.size,hR.defers,hR.fix,hR.eg⟩
  ·have hy:uy τ.rs v n=some y:=hy
   rcases PZ τ.rs σ.m v h2 n with e | ⟨m,x,z,e1,e2,e3⟩
   ·rw[e]at hy;cases hy
   ·rw[e3]at hy
    injection hy with hy
    subst hy
    exact Rm.n9 e2 (hR.root n x e1)
  ·show RA _ _ _ _ (uw τ.ts u k) _
   rcases PY τ.ts σ.t u h1 k with e | ⟨m,z,e1,e2⟩
   ·rw[e];trivial
   ·rw[e2];exact Tm.n9 e1 (hR.tmp k)
 ·cases h
theorem Xb{n:Nat}{o:Option Nat}(h:PS n o=true):o=some n:=by
 cases o with
 | none=>cases h
 | some m=>rw[Nat.eq_of_beq_eq_true h]
theorem Xc{rs:Rn}{r n:Nat}(h:rs.lookup r=some n):(r,n)∈rs:=by
 induction rs with
 | nil=>cases h
 | cons p rs ih=>
  obtain⟨x,y⟩:=p
  rw[List.lookup_cons]at h
  split at h
  ·rename_i hb
   injection h with h
   subst h
   rw[eq_of_beq hb]
   exact .head _
  ·exact .tail _ (ih h)
theorem Xd{rs:Rn}{r n:Nat}(h:rs.inv n=some r):(r,n)∈rs:=by
 unfold Rn.inv at h
 cases hf:rs.find? (fun p=>Nat.beq p.2 n)with
 | none=>rw[hf]at h;cases h
 | some p=>
  rw[hf]at h
  injection h with h
  subst h
  have h1:=List.find?_some hf
  have h2:=List.mem_of_find?_eq_some hf
  rw[<-Nat.eq_of_beq_eq_true h1]
  exact h2
def Rn.dF(rs:Rn)(ρ:Nat->Loc):Nat->Loc:=fun n=>match rs.inv n with
 | some r=>ρ r
 | none=>ρ n
theorem Rn.I3{rs:Rn}(h:rs.ok=true){r n:Nat}(hm:(r,n)∈rs):(r=n\/60000<=n)/\rs.lookup r=some n/\rs.inv n=some r:=by
 have:=List.all_eq_true.1 h _ hm
 rw[Bool.and_eq_true,Bool.and_eq_true,Bool.or_eq_true]at this
 refine⟨?_,Xb this.1.2,Xb this.2⟩
 rcases this.1.1 with h | h
 ·exact .inl (Nat.eq_of_beq_eq_true h)
 ·exact .inr (Nat.le_of_ble_eq_true h)
theorem cL.dL{rs:Rn}(gG:rs.ok=true){x:Lf}{u:Value}(h:cL w B af ρ x u):cL w B (eI af rs id) (rs.dF ρ) (x.dL rs) u:=by
 unfold Lf.dL
 split
 ·exact⟨h.1,h.2.Du h.1 fun b=>tQ⟩
 ·rename_i r
  split
  ·rename_i n hn
   have hi:=(Rn.I3 gG (Xc hn)).2.2
   refine⟨h.1,?_⟩
   have h2:=h.2
   simp only[cc]at h2 ⊢
   unfold Rn.dF
   rw[hi]
   exact h2
  ·trivial
 ·trivial
theorem Rl.dL{rs:Rn}(gG:rs.ok=true)(h:Rl w0 N af ρ σ a w):Rl w0 N (eI af rs id) (rs.dF ρ) (σ.dL rs) a w:=by
 have hl:∀ b r n,af b=some [r]->rs.lookup r=some n->eI af rs id b=some [n]:=by
  intro b r n h1 h2
  simp[eI,h1,h2]
 refine⟨h.below,fun b k hk=>?_,fun n x hx=>?_,fun k=>?_,h.size,h.defers,fun r l hr=>?_,h.eg⟩
 ·unfold eI at hk
  split at hk
  ·cases hk
  ·rename_i k0 DF
   split at hk
   ·cases hk
   ·rename_i r hr
    cases hn:rs.lookup r with
    | none=>rw[hn]at hk;cases hk
    | some n=>
     rw[hn]at hk
     injection hk with hk
     subst hk
     obtain⟨h1,h2,_⟩:=h.cH b k0 DF
     exact⟨h1,h2,by simp⟩
 ·have hx:(match rs.inv n with | some r=>(σ.m r).map (aP.dL rs) | none=>none)=some x:=hx
  cases hi:rs.inv n with
  | none=>rw[hi]at hx;cases hx
  | some r=>
   rw[hi]at hx
   have hx:(σ.m r).map (aP.dL rs)=some x:=hx
   have vU:=(Rn.I3 gG (Xd hi)).2.1
   have aK:rs.dF ρ n=ρ r:=by unfold Rn.dF;rw[hi]
   cases hm:σ.m r with
   | none=>rw[hm]at hx;cases hx
   | some y=>
    rw[hm]at hx
    injection hx with hx
    subst hx
    cases h.root r y hm with
    | ak b off cells e cs us h1 h2 hh hs hc=>
     refine .ak b off cells e _ us (aK.trans h1) (hl b r n h2 vU) hh (by rw[List.length_map];exact hs) fun j x hx=>?_
     rw[List.getElem?_map]at hx
     cases hz:cs[j]? with
     | none=>rw[hz]at hx;cases hx
     | some z=>
      rw[hz]at hx
      injection hx with hx
      subst hx
      exact⟨(hc j z hz).1,(hc j z hz).2.dL gG⟩
    | sl v y h1 h2=>
     exact .sl v y (aK.trans h1) (RV.eI (p:=[]) (nm:=id) h2 vU)
    | mp b c es l h1 h2 hh he=>exact .mp b c es l (aK.trans h1) (hl b r n h2 vU) hh he
    | gh us xs h1 hx=>exact .gh us _ (aK.trans h1) fun j x hj=>by simp at hj
 ·show RA _ _ _ _ ((σ.t k).dL rs) _
  have hk:=h.tmp k
  generalize σ.t k=x at hk
  unfold A.dL
  split
  ·exact hk.dL gG
  ·rename_i r j
   split
   ·rename_i n hn
    have hi:=(Rn.I3 gG (Xc hn)).2.2
    obtain⟨b,off,h1,h2⟩:=hk
    exact⟨b,off,by unfold Rn.dF;rw[hi];exact h1,h2⟩
   ·trivial
  ·obtain⟨b,off,g1,g2,g3,g4⟩:=hk
   refine⟨b,off,g1,g2,tQ g3,fun j x hx=>?_⟩
   obtain⟨f1,v,f2,f3⟩:=g4 j x hx
   exact⟨f1,v,f2,f3.Du f1 fun b=>tQ⟩
  ·obtain⟨pv,e0,b,off,g1,g2,g3,g4⟩:=hk
   refine⟨pv,e0,b,off,g1,g2,tQ g3,fun j x hx=>?_⟩
   obtain⟨f1,v,f2,f3⟩:=g4 j x hx
   exact⟨f1,v,f2,f3.Du f1 fun b=>tQ⟩
  ·obtain⟨us,g1,g2,g3⟩:=hk
   refine⟨us,g1,by rw[List.length_map];exact g2,fun j x hx=>?_⟩
   rw[List.getElem?_map]at hx
   rename_i cs
   cases hz:cs[j]? with
   | none=>rw[hz]at hx;cases hx
   | some z=>
    rw[hz]at hx
    injection hx with hx
    subst hx
    obtain⟨v,f1,f2⟩:=g3 j z hz
    exact⟨v,f1,f2.dL gG⟩
  ·trivial
 ·show rs.dF ρ r=l
  unfold Rn.dF
  split
  ·rename_i r0 hi
   rcases(Rn.I3 gG (Xd hi)).1 with e | e
   ·rw[e];exact h.fix r l hr
   ·rw[h.eg r (.inr e)]at hr;cases hr
  ·exact h.fix r l hr
theorem akV{rs:List (Nat×Rm)}{p:Nat×Tm}(hR:R w0 N σ a w):R w0 N (PU rs p σ) a w:=by
 unfold PU
 split
 ·rename_i n hp hk
  split
  ·rename_i t o hl
   cases hb:Nat.ble 60000 n with
   | false=>exact hR
   | true=>
    have hn:=Nat.le_of_ble_eq_true hb
    obtain⟨af,ρ,hR⟩:=hR
    have hu:=hR.tmp p.1
    rw[hk]at hu
    have oO:a.tmps.getD p.1 undef = .slice none 0 0:=by
     have h2:=hu.2
     generalize a.tmps.getD p.1 undef=u at h2
     cases h2
     rfl
    have h1:=hR.new (d:=n) (x:=.sl (.sl t o false [])) (.dJ (.slice none 0 0)) (.sl _ _ (bK _ _ _) (.cD _ _ _)) (hR.eg n (.inr hn))
    refine⟨af,_,h1.below,h1.cH,h1.root,fun k=>?_,h1.size,h1.defers,h1.fix,h1.eg⟩
    show RA _ _ _ _ (bG ((σ.drop n).root n (.sl (.sl t o false []))).t p.1 (.lf (.own [n])) k) _
    by_cases Ik:k=p.1
    ·subst Ik
     rw[bK,oO]
     exact⟨rfl,by simp only[cc,bK]⟩
    ·rw[cm _ _ _ Ik]
     exact h1.tmp k
  ·exact hR
 ·exact hR
theorem akW{n j r:Nat}{y:V}(hR:Rl w0 N af ρ σ a w)(hn:ρ n = .dJ (.slice none 0 0)):Rl w0 N af ρ (PW n j r σ) a w:=by
 unfold PW
 split
 ·rename_i cs hm
  split
  ·rename_i hj
   refine⟨hR.below,hR.cH,fun r' x hx=>?_,hR.tmp,hR.size,hR.defers,hR.fix,hR.eg⟩
   have hx:bG σ.m r (some (.ak (cs.set j (.own [n])))) r'=some x:=hx
   by_cases hr:r'=r
   ·subst hr
    rw[bK]at hx
    injection hx with hx
    subst hx
    cases hR.root r' _ hm with
    | ak b off cells e cs us h1 h2 hh hs hc=>
     refine .ak b off cells e _ us h1 h2 hh (by rw[List.length_set];exact hs) fun i z hz=>?_
     rw[List.getElem?_set]at hz
     by_cases hi:j=i
     ·subst hi
      have bw:j<cs.length:=(List.getElem?_eq_some_iff.1 hj).1
      rw[if_pos rfl,if_pos bw]at hz
      injection hz with hz
      subst hz
      obtain⟨k1,k2⟩:=hc j _ hj
      refine⟨k1,?_⟩
      have hu:us j = .slice none 0 0:=by
       have h2:=k2.2
       generalize us j=u at h2
       cases h2
       rfl
      rw[hu]
      exact⟨rfl,by simp only[cc,hn]⟩
     ·rw[if_neg hi]at hz
      exact hc i z hz
   ·rw[cm _ _ _ hr]at hx
    exact hR.root r' x hx
  ·exact hR
 ·exact hR
theorem akX{rs:List (Nat×Rm)}{n j r:Nat}(hR:R w0 N σ a w):R w0 N (PX rs n j r σ) a w:=by
 unfold PX
 split
 ·rename_i t o hl
  cases hb:Nat.ble 60000 n with
  | false=>exact hR
  | true=>
   have hn:=Nat.le_of_ble_eq_true hb
   obtain⟨af,ρ,hR⟩:=hR
   exact⟨af,_,akW (y:=.nil) (hR.new (d:=n) (x:=.sl (.sl t o false [])) (.dJ (.slice none 0 0)) (.sl _ _ (bK _ _ _) (.cD _ _ _)) (hR.eg n (.inr hn))) (bK _ _ _)⟩
 ·exact hR
theorem P0{rs:List (Nat×Rm)}{r:Nat}:∀ (ms:List Lm) (cs:List Lf) (j:Nat) (σ:S),R w0 N σ a w->R w0 N (yP rs r j ms cs σ) a w
 | [],cs,j,σ,h=>by unfold yP;exact h
 | m :: ms,[],j,σ,h=>by
  unfold yP
  split <;>first | exact h | contradiction
 | m :: ms,c :: cs,j,σ,h=>by
  unfold yP
  split
  ·rename_i e1 e2;cases e1;cases e2;exact P0 ms cs _ _ (akX h)
  ·rename_i e1 e2;cases e1;cases e2;exact P0 ms cs _ _ h
  ·exact h
theorem Ej{rs:List (Nat×Rm)}:∀ (ps:List (Nat×Rm)) (σ:S),R w0 N σ a w->R w0 N (Ei rs ps σ) a w
 | [],σ,h=>h
 | (r,.sl t o) :: ps,σ,h=>Ej ps σ h
 | (r,.st t) :: ps,σ,h=>Ej ps σ h
 | (r,.mp) :: ps,σ,h=>Ej ps σ h
 | (r,.ak ms) :: ps,σ,h=>by
  unfold Ei
  refine Ej ps _ ?_
  split
  ·exact P0 ms _ 0 σ h
  ·exact h
theorem Xe{rs:List (Nat×Rm)}:∀ (ps:List (Nat×Tm)) (σ:S),R w0 N σ a w->R w0 N (I2 rs ps σ) a w
 | [],σ,h=>h
 | p :: ps,σ,h=>Xe ps _ (akV h)
theorem iO.n9{τ:iO}{x:τ.St}(h:τ.rd σ=some x)(hR:R w0 N σ a w):R w0 N (τ.mk' x) a w:=by
 unfold iO.rd at h
 split at h
 ·rename_i y hy
  injection h with h
  subst h
  exact iO.Xa hy hR
 ·have hR:=Xe (rs:=τ.rs) τ.ts σ hR
  revert h hR
  generalize I2 τ.rs τ.ts σ=aj
  intro h hR
  unfold iO.W8 at h
  cases hb:(τ.rn aj).ok with
  | false=>rw[hb]at h;cases h
  | true=>
   rw[hb,cond_true]at h
   obtain⟨af,ρ,hR⟩:=hR
   exact iO.Xa h (Ej τ.rs _ ⟨_,_,hR.dL hb⟩)
end
end Go.Proofs.YtinbifpbkcbnkaaGreat
namespace Go.Proofs.YtinbifpbkcbnkaaGreat
open Go.RowKit
set_option linter.unusedVariables false
def uz:List V->List Nat->List Lf
 | [],_=>[]
 | x :: xs,ns=>bif x.plain then .v x :: uz xs ns else (match ns with
  | n :: ns=>.own [n] :: uz xs ns
  | []=>.dead :: uz xs [])
def yQ:List V->List Nat->(Nat->Option aP)->Nat->Option aP
 | [],_,m,k=>m k
 | x :: xs,ns,m,k=>bif x.plain then yQ xs ns m k else (match ns with
  | n :: ns=>bif Nat.beq k n then some (.sl x)else yQ xs ns m k
  | []=>yQ xs [] m k)
def jE(m:Nat->Option aP):List Lf->List Nat->Option (List V)
 | [],[]=>some []
 | .v x :: cs,ns=>bif x.plain then (match jE m cs ns with
  | some vs=>some (x :: vs)
  | none=>none)else none
 | .own [r] :: cs,n :: ns=>bif Nat.beq r n then (match m n with
  | some (.sl y)=>bif y.plain then none else (match jE m cs ns with
   | some vs=>some (y :: vs)
   | none=>none)
  | _=>none)else none
 | _,_=>none
abbrev Gp:=Nat×TC×Nat×List Nat
def Ek:List Gp->Type->Type
 | [],X=>X
 | g :: gs,X=>T g.2.1×Ek gs X
def I4:(gs:List Gp)->(rs:List (Nat×Rm))->Ek gs (ux rs)->Nat->Option aP
 | [],rs,x,k=>uy rs x k
 | (n,t,o,ns) :: gs,rs,x,k=>bif Nat.beq k n then some (.ak (uz (enc t o x.1) ns))else yQ (enc t o x.1) ns (I4 gs rs x.2) k
def I5:(gs:List Gp)->(rs:List (Nat×Rm))->(Nat->Option aP)->Option (Ek gs (ux rs))
 | [],rs,m=>Bn rs m
 | (n,t,o,ns) :: gs,rs,m=>match m n with
  | some (.ak cs)=>(match jE m cs ns with
   | some vs=>(match dec t o vs,I5 gs rs m with
    | some x,some y=>some (x,y)
    | _,_=>none)
   | none=>none)
  | _=>none
def Bo:List V->List Nat->List Lm
 | [],_=>[]
 | .int k _ :: xs,ns=>.int k :: Bo xs ns
 | .bool _ :: xs,ns=>.bool :: Bo xs ns
 | .str _ :: xs,ns=>.str :: Bo xs ns
 | _ :: xs,n :: ns=>.own n :: Bo xs ns
 | _ :: xs,[]=>.bool :: Bo xs []
def P1:List V->List Nat->List (Nat×Rm)
 | .sl t o _ _ :: xs,n :: ns=>(n,.sl t o) :: P1 xs ns
 | _ :: xs,ns=>P1 xs ns
 | [],_=>[]
def P2:List Gp->List (Nat×Rm)->List (Nat×Rm)
 | [],rs=>rs
 | (n,t,o,ns) :: gs,rs=>(n,.ak (Bo (Ui t o) ns)) :: (P1 (Ui t o) ns++P2 gs rs)
structure aI where
 ts:List (Nat×Tm)
 rs:List (Nat×Rm)
 gs:List Gp
def aI.St(τ:aI):Type:=Bm τ.ts×Ek τ.gs (ux τ.rs)
def aI.mk'(τ:aI)(x:τ.St):S:=⟨uw τ.ts x.1,I4 τ.gs τ.rs x.2⟩
def aI.I6(τ:aI)(σ:S):Option τ.St:=match Eh τ.ts σ.t,I5 τ.gs τ.rs σ.m with
 | some x,some y=>some (x,y)
 | _,_=>none
def aI.rd(τ:aI)(σ:S):Option τ.St:=match τ.I6 σ with
 | some x=>some x
 | none=>match iO.rd ⟨τ.ts,P2 τ.gs τ.rs⟩ σ with
  | some z=>τ.I6 (iO.mk' ⟨τ.ts,P2 τ.gs τ.rs⟩ z)
  | none=>none
section
variable {P:Program} {w w':World} {w0:Wd} {B N:Nat} {af ax:bq} {ρ ρ':Nat->Loc} {σ:S} {a:Act} {m:Nat->Option aP}
theorem bJ.inv{x:V}{xs ys:List V}(k:bJ (x :: xs) ys):∃ y zs,ys=y :: zs/\Wk x y/\bJ xs zs:=by
 obtain⟨k1,k2⟩:=k
 cases ys with
 | nil=>simp at k1
 | cons y zs=>exact⟨y,zs,rfl,k2 0 x y rfl rfl,by simpa using k1,fun j a b ha hb=>k2 (j+1) a b (by simpa using ha) (by simpa using hb)⟩
theorem Wk.Xf{x y:V}(h:Wk x y)(hp:x.plain=true):y=x:=by
 cases h <;>first | rfl | cases hp
theorem Wk.Xg{x y:V}(h:Wk x y)(hp:x.plain=false):y.plain=false:=by
 cases h <;>first | exact hp | rfl
theorem P3:∀ (cs:List Lf) (ns:List Nat) (vs ys:List V),jE m cs ns=some vs->bJ vs ys->(uz ys ns).length=cs.length/\∀ (j:Nat) z,(uz ys ns)[j]?=some z->cs[j]?=some z
 | [],[],vs,ys,h,hw=>by
  simp only[jE,Option.some.injEq]at h
  subst h
  have:ys=[]:=List.eq_nil_of_length_eq_zero hw.1.symm
  subst this
  exact⟨rfl,fun j z hz=>by simp[uz]at hz⟩
 | .v x :: cs,ns,vs,ys,h,hw=>by
  unfold jE at h
  cases hp:x.plain with
  | false=>rw[hp]at h;cases h
  | true=>
   rw[hp,cond_true]at h
   split at h
   ·rename_i us eo
    injection h with h
    subst h
    obtain⟨y,zs,rfl,k1,k2⟩:=hw.inv
    obtain rfl:=k1.Xf hp
    obtain⟨e1,e2⟩:=P3 cs ns us zs eo k2
    simp only[uz,hp,cond_true]
    refine⟨by simp[e1],fun j z hz=>?_⟩
    cases j with
    | zero=>simpa using hz
    | succ j=>exact e2 j z (by simpa using hz)
   ·cases h
 | .own [r] :: cs,n :: ns,vs,ys,h,hw=>by
  unfold jE at h
  cases hb:Nat.beq r n with
  | false=>rw[hb]at h;cases h
  | true=>
   rw[hb,cond_true]at h
   obtain rfl:=Nat.eq_of_beq_eq_true hb
   split at h
   ·rename_i y hy
    cases hp:y.plain with
    | true=>rw[hp]at h;cases h
    | false=>
     rw[hp,cond_false]at h
     split at h
     ·rename_i us eo
      injection h with h
      subst h
      obtain⟨y',zs,rfl,k1,k2⟩:=hw.inv
      have hq:=k1.Xg hp
      obtain⟨e1,e2⟩:=P3 cs ns us zs eo k2
      simp only[uz,hq,cond_false]
      refine⟨by simp[e1],fun j z hz=>?_⟩
      cases j with
      | zero=>simpa using hz
      | succ j=>exact e2 j z (by simpa using hz)
     ·cases h
   ·cases h
 | [],_ :: _,vs,ys,h,_=>by simp[jE]at h
 | .dead :: _,_,vs,ys,h,_=>by simp[jE]at h
 | .own [] :: _,_,vs,ys,h,_=>by simp[jE]at h
 | .own (_ :: _ :: _) :: _,_,vs,ys,h,_=>by simp[jE]at h
 | .own [_] :: _,[],vs,ys,h,_=>by simp[jE]at h
theorem P4{f:Nat->Option aP}{k:Nat}{x:aP}:∀ (cs:List Lf) (ns:List Nat) (vs ys:List V),jE m cs ns=some vs->bJ vs ys->yQ ys ns f k=some x->f k=some x\/∃ v y,m k=some (.sl v)/\x = .sl y/\Wk v y
 | [],[],vs,ys,h,hw,hx=>by
  simp only[jE,Option.some.injEq]at h
  subst h
  have:ys=[]:=List.eq_nil_of_length_eq_zero hw.1.symm
  subst this
  exact .inl hx
 | .v x' :: cs,ns,vs,ys,h,hw,hx=>by
  unfold jE at h
  cases hp:x'.plain with
  | false=>rw[hp]at h;cases h
  | true=>
   rw[hp,cond_true]at h
   split at h
   ·rename_i us eo
    injection h with h
    subst h
    obtain⟨y,zs,rfl,k1,k2⟩:=hw.inv
    obtain rfl:=k1.Xf hp
    simp only[yQ,hp,cond_true]at hx
    exact P4 cs ns us zs eo k2 hx
   ·cases h
 | .own [r] :: cs,n :: ns,vs,ys,h,hw,hx=>by
  unfold jE at h
  cases hb:Nat.beq r n with
  | false=>rw[hb]at h;cases h
  | true=>
   rw[hb,cond_true]at h
   obtain rfl:=Nat.eq_of_beq_eq_true hb
   split at h
   ·rename_i y hy
    cases hp:y.plain with
    | true=>rw[hp]at h;cases h
    | false=>
     rw[hp,cond_false]at h
     split at h
     ·rename_i us eo
      injection h with h
      subst h
      obtain⟨y',zs,rfl,k1,k2⟩:=hw.inv
      have hq:=k1.Xg hp
      simp only[yQ,hq,cond_false]at hx
      cases hk:Nat.beq k r with
      | true=>
       rw[hk,cond_true]at hx
       injection hx with hx
       obtain rfl:=Nat.eq_of_beq_eq_true hk
       exact .inr ⟨y,y',hy,hx.symm,k1⟩
      | false=>
       rw[hk,cond_false]at hx
       exact P4 cs ns us zs eo k2 hx
     ·cases h
   ·cases h
 | [],_ :: _,vs,ys,h,_,_=>by simp[jE]at h
 | .dead :: _,_,vs,ys,h,_,_=>by simp[jE]at h
 | .own [] :: _,_,vs,ys,h,_,_=>by simp[jE]at h
 | .own (_ :: _ :: _) :: _,_,vs,ys,h,_,_=>by simp[jE]at h
 | .own [_] :: _,[],vs,ys,h,_,_=>by simp[jE]at h
theorem Xh:∀ (gs:List Gp) (rs:List (Nat×Rm)) (y:Ek gs (ux rs)),I5 gs rs m=some y->∀ k x,I4 gs rs y k=some x->∃ x0,m k=some x0/\∀ (w:World) (B:Nat) (af:bq) (ρ:Nat->Loc),dK w B af ρ k x0->dK w B af ρ k x
 | [],rs,y,h,k,x,hx=>by
  have h:Bn rs m=some y:=h
  have hx:uy rs y k=some x:=hx
  rcases PZ rs m y h k with e | ⟨m',x0,z,e1,e2,e3⟩
  ·rw[e]at hx;cases hx
  ·rw[e3]at hx
   injection hx with hx
   subst hx
   exact⟨x0,e1,fun w B af ρ hr=>Rm.n9 e2 hr⟩
 | (n,t,o,ns) :: gs,rs,y,h,k,x,hx=>by
  unfold I5 at h
  split at h
  ·rename_i cs hm
   split at h
   ·rename_i vs fK
    split at h
    ·rename_i x1 y1 h1 h2
     injection h with h
     subst h
     have hw:=mK t o vs x1 h1
     simp only[I4]at hx
     cases hk:Nat.beq k n with
     | true=>
      rw[hk,cond_true]at hx
      injection hx with hx
      subst hx
      obtain rfl:=Nat.eq_of_beq_eq_true hk
      obtain⟨e1,e2⟩:=P3 cs ns vs _ fK hw
      refine⟨_,hm,fun w B af ρ hr=>?_⟩
      cases hr with
      | ak b off cells e _ us aK hl hh hs hc=>exact .ak b off cells e _ us aK hl hh (by rw[e1];exact hs) fun j z hz=>hc j z (e2 j z hz)
     | false=>
      rw[hk,cond_false]at hx
      rcases P4 cs ns vs _ fK hw hx with e | ⟨v,y',e1,rfl,e2⟩
      ·exact Xh gs rs y1 h2 k x e
      ·refine⟨_,e1,fun w B af ρ hr=>?_⟩
       cases hr with
       | sl u _ aK hr=>exact .sl u _ aK (hr.wk e2)
    ·cases h
   ·cases h
  ·cases h
theorem aI.Xi{τ:aI}{x:τ.St}(h:τ.I6 σ=some x)(hR:R w0 N σ a w):R w0 N (τ.mk' x) a w:=by
 unfold aI.I6 at h
 split at h
 ·rename_i u v h1 h2
  injection h with h
  subst h
  obtain⟨af,ρ,hR⟩:=hR
  refine⟨af,ρ,hR.below,hR.cH,fun n y hy=>?_,fun k=>?_,hR.size,hR.defers,hR.fix,hR.eg⟩
  ·obtain⟨x0,e1,e2⟩:=Xh τ.gs τ.rs v h2 n y hy
   exact e2 _ _ _ _ (hR.root n x0 e1)
  ·show RA _ _ _ _ (uw τ.ts u k) _
   rcases PY τ.ts σ.t u h1 k with e | ⟨m,z,e1,e2⟩
   ·rw[e];trivial
   ·rw[e2];exact Tm.n9 e1 (hR.tmp k)
 ·cases h
theorem aI.n9{τ:aI}{x:τ.St}(h:τ.rd σ=some x)(hR:R w0 N σ a w):R w0 N (τ.mk' x) a w:=by
 unfold aI.rd at h
 split at h
 ·rename_i y hy
  injection h with h
  subst h
  exact aI.Xi hy hR
 ·split at h
  ·rename_i z hz
   exact aI.Xi h (iO.n9 hz hR)
  ·cases h
end
end Go.Proofs.YtinbifpbkcbnkaaGreat
namespace Go.Proofs.YtinbifpbkcbnkaaGreat
open Go.RowKit
set_option linter.unusedVariables false
def Bp:Exit->Option Nat
 | .normal=>some 0
 | .ret=>some 1
 | .exit n=>some (n+2)
 | _=>none
def P5:Nat->Exit
 | 0=>.normal
 | 1=>.ret
 | n+2=>.exit n
theorem wA{e:Exit}{n:Nat}(h:Bp e=some n):e=P5 n:=by
 cases e <;>simp[Bp]at h <;>subst h <;>rfl
def wB:List (Nat×aI)->Type
 | []=>Empty
 | (_,τ) :: r=>τ.St⊕wB r
def I7:(l:List (Nat×aI))->Nat->S->Option (wB l)
 | [],_,_=>none
 | (n,τ) :: r,e,σ=>bif Nat.beq n e then (match τ.rd σ with
  | some x=>some (.inl x)
  | none=>none)else (match I7 r e σ with
  | some x=>some (.inr x)
  | none=>none)
def P6{X:Type}:(l:List (Nat×aI))->wB l->(Exit->S->Option X)->Option X
 | [],z,_=>nomatch z
 | (n,τ) :: r,z,k=>match z with
  | .inl x=>k (P5 n) (τ.mk' x)
  | .inr z=>P6 r z k
def iter{α β:Type}(step:α->Option (α⊕β)):Nat->α->Option β
 | 0,_=>none
 | n+1,x=>match step x with
  | some (.inl y)=>iter step n y
  | some (.inr z)=>some z
  | none=>none
def I8(P:Program)(N:Nat)(Φ:dG)(Λ:me)(body:Code)(τ:aI)(mZ:List (Nat×aI))(x:τ.St):Option (τ.St⊕wB mZ):=
 fZ P N Φ Λ body (τ.mk' x) fun e σ=>match Bp e with
  | some 0=>(match τ.rd σ with
   | some x=>some (.inl x)
   | none=>none)
  | some n=>(match I7 mZ n σ with
   | some x=>some (.inr x)
   | none=>none)
  | none=>none
def P7{X:Type}(id:Nat)(k:Exit->S->Option X)(e:Exit)(σ:S):Option X:=
 match e with
 | .exit oV=>if oV=id then k .normal σ else k (.exit oV) σ
 | e=>k e σ
def bF(id:Nat)(τ:aI)(mZ:List (Nat×aI))(F:τ.St->Option (τ.St⊕wB mZ))(fuel:τ.St->Nat):bB:=
 ⟨fun X σ k=>match τ.rd σ with
  | some x=>(match iter F (fuel x) x with
   | some z=>P6 mZ z (P7 id k)
   | none=>none)
  | none=>none⟩
def m5:List (Bool×TC)->Type
 | []=>Unit
 | (_,t) :: r=>T t×m5 r
def gR:(l:List (Bool×TC))->m5 l->List Pt
 | [],_=>[]
 | (b,t) :: r,x=>(b,enc t 0 x.1) :: gR r x.2
def wC:(l:List (Bool×TC))->List Pt->Option (m5 l)
 | [],[]=>some ()
 | (b,t) :: r,(b',vs) :: ps=>bif b==b' then (match dec t 0 vs,wC r ps with
  | some x,some xs=>some (x,xs)
  | _,_=>none)else none
 | _,_=>none
def aG(ai:List (Bool×TC))(ro:List (Bool×TC×Nat))(F:m5 ai->Option (nT ro)):aE:=
 ⟨fun X args k=>match wC ai args with
  | some x=>(match F x with
   | some y=>k (ez ro y)
   | none=>none)
  | none=>none⟩
def P8:Pt->A
 | (false,[x])=>.lf (.v x)
 | (true,xs)=>.agg (xs.map .v)
 | (false,.bool true :: c :: cs)=>.gz (c :: cs)
 | (false,.bool false :: .int .i64 (.ofNat g) :: c :: cs)=>.kN g (c :: cs)
 | _=>.undef
def Xj(args:List Pt):S:=⟨fun k=>match args[k]? with
 | some p=>P8 p
 | none=>.undef,fun _=>none⟩
def I9{X:Type}(P:Program)(N:Nat)(Φ:dG)(Λ:me)(code:Code)(rv:Array ResultVar)(args:List Pt)(k:iL->Option X):Option X:=
 fZ P N Φ Λ code (Xj args) fun e σ=>match Bp e with
  | some 0=>Dq P σ rv k
  | some 1=>Dq P σ rv k
  | _=>none
section
variable {P:Program} {w w':World} {w0:Wd} {B N:Nat} {af ax:bq} {ρ ρ':Nat->Loc} {σ:S} {a:Act} {X:Type} {d:Nat} {r:X} {o:Oper} {Φ:dG} {Λ:me}
theorem Xk:∀ (l:List (Nat×aI)) (e:Nat) (z:wB l),I7 l e σ=some z->∀ (X:Type) (k:Exit->S->Option X),∃ aj,P6 l z k=k (P5 e) aj/\∀ a w,R w0 N σ a w->R w0 N aj a w
 | [],e,z,h=>by cases h
 | (n,τ) :: l,e,z,h=>by
  intro X k
  unfold I7 at h
  cases hb:Nat.beq n e with
  | true=>
   obtain rfl:=Nat.eq_of_beq_eq_true hb
   rw[hb,cond_true]at h
   split at h
   ·rename_i x hx
    injection h with h
    subst h
    exact⟨τ.mk' x,rfl,fun a w hR=>aI.n9 hx hR⟩
   ·cases h
  | false=>
   rw[hb,cond_false]at h
   split at h
   ·rename_i x hx
    injection h with h
    subst h
    exact Xk l e x hx X k
   ·cases h
theorem akY{id:Nat}{body:Code}{τ:aI}{mZ:List (Nat×aI)}{F:τ.St->Option (τ.St⊕wB mZ)}{fuel:τ.St->Nat}(bI:fO P Φ)(jP:uh P N Λ (occs body))(hF:∀ x,I8 P N Φ Λ body τ mZ x=F x):bE P N (.block id (.loop body)) (bF id τ mZ F fuel):=by
 intro X σ k r w0 h a w hR
 simp only[bF]at h
 split at h
 ·rename_i x hx
  split at h
  ·rename_i z hz
   refine wp_block ?_
   have key:∀ (n:Nat) (x:τ.St),iter F n x=some z->∀ (a:Act) (w:World),R w0 N (τ.mk' x) a w->∀ (b:Frame) (kk:List Item) (cs:List Frame),
     ∃ e a' w',Exit.inBlock id (fun e a' w'=>∃ aj,k e aj=some r/\R w0 N aj a' w') e a' w'/\Arrives P (lone (b.at a (.code body :: .inLoop body :: kk)) cs w) b kk cs e a' w':=by
    intro n
    induction n with
    | zero=>intro x hx;simp[iter]at hx
    | succ n ih=>
     intro x hx a w hR b kk cs
     simp only[iter]at hx
     have iq:∃ y,I8 P N Φ Λ body τ mZ x=some y/\(match y with | .inl y=>iter F n y=some z | .inr z'=>z'=z):=by
      rw[hF]
      split at hx
      ·rename_i y hy;exact⟨_,hy,hx⟩
      ·rename_i y hy;exact⟨_,hy,by injection hx⟩
      ·cases hx
     obtain⟨y,hy,Ja⟩:=iq
     unfold I8 at hy
     have hwp:=I0 (w0:=w0) bI body _ _ hy jP a w hR
     obtain⟨e,a1,w1,⟨mb,n8,nY⟩,Jb⟩:=hwp b (.inLoop body :: kk) cs
     split at n8
     ·rename_i he
      have he:=wA he
      subst he
      split at n8
      ·rename_i x1 xH
       injection n8 with n8
       subst n8
       obtain⟨e2,a2,w2,v7,akZ⟩:=ih x1 Ja a1 w1 (aI.n9 xH nY) b kk cs
       exact⟨e2,a2,w2,v7,.of_steps (Steps.trans Jb (.one step_inLoop)) akZ⟩
      ·cases n8
     ·rename_i n' aV he
      have he:=wA he
      split at n8
      ·rename_i z1 hz1
       injection n8 with n8
       subst n8
       have Ja:z1=z:=Ja
       subst Ja
       obtain⟨σ2,jY,jA⟩:=Xk (w0:=w0) (N:=N) mZ n' z1 hz1 X (P7 id k)
       rw[jY]at h
       rw[<-he]at h
       refine⟨e,a1,w1,?_,?_⟩
       ·cases e with
        | exit oV=>
         simp only[P7]at h
         simp only[Exit.inBlock]
         split at h
         ·rename_i hid;rw[if_pos hid];exact⟨σ2,h,jA a1 w1 nY⟩
         ·rename_i hid;rw[if_neg hid];exact⟨σ2,h,jA a1 w1 nY⟩
        | _=>exact⟨σ2,h,jA a1 w1 nY⟩
       ·refine .pass (x:=.inLoop body) rfl (fun _ _=>.inl ?_) Jb
        intro e'
        rw[e']at he
        match n',aV,he with
        | 0,aV,_=>exact aV rfl
        | 1,_,he=>cases he
        | n+2,_,he=>cases he
      ·cases n8
     ·cases n8
   intro b kk cs
   obtain⟨e,a',w',hq,Jb⟩:=key (fuel x) x hz a w (aI.n9 hx hR) b kk cs
   exact⟨e,a',w',hq,.of_steps (.one step_loop) Jb⟩
  ·cases h
 ·cases h
theorem PV.uA{key:Nat->List Nat}{b:Bool}{xs ys:List V}{u:Value}(h:PV w B af key (b,xs) u)(k:bJ xs ys):PV w B af key (b,ys) u:=by
 obtain⟨us,hu,hs,hr⟩:=h
 refine⟨us,hu,hs.trans k.1,fun j y hy=>?_⟩
 have hj:j<xs.length:=by rw[k.1];exact(List.getElem?_eq_some_iff.1 hy).1
 obtain⟨v,hv,cN⟩:=hr j _ (List.getElem?_eq_getElem hj)
 exact⟨v,hv,cN.wk (k.2 j _ y (List.getElem?_eq_getElem hj) hy)⟩
theorem vP.uA{cs ds:List V}{u:Value}(h:vP w cs u)(k:bJ cs ds):vP w ds u:=by
 obtain⟨b,off,hu,hb,hr⟩:=h
 refine⟨b,off,hu,hb,fun j y hy=>?_⟩
 have hj:j<cs.length:=by rw[k.1];exact(List.getElem?_eq_some_iff.1 hy).1
 obtain⟨v,hv,cN⟩:=hr j _ (List.getElem?_eq_getElem hj)
 exact⟨v,hv,cN.wk (k.2 j _ y (List.getElem?_eq_getElem hj) hy)⟩
theorem PA.uA{b:Bool}{xs ys:List V}{u:Value}(h:PA w (b,xs) u)(k:bJ xs ys):PA w (b,ys) u:=by
 cases h with
 | v _ _ h=>exact .v _ _ (h.uA k)
 | p c cs _ h=>
  obtain⟨y,zs,rfl,k1,k2⟩:=k.inv
  cases k1
  have h:=h.uA k2
  obtain⟨c',fz,rfl,_,_⟩:=k2.inv
  exact .p _ _ _ h
 | f g c cs u h=>
  obtain⟨y,zs,rfl,k1,k2⟩:=k.inv
  cases k1
  obtain⟨y,zs,rfl,k1,k3⟩:=k2.inv
  cases k1
  have h:=h.uA k3
  obtain⟨c',fz,rfl,_,_⟩:=k3.inv
  exact .f _ _ _ _ h
theorem PA.ra{p:Pt}{u:Value}(h:PA w p u)(hf:∀ y∈p.2,y.ah=true):RA w w.heap.size (fun _=>none) ρ (P8 p) u:=by
 have Xl:∀ {cs:List V} {u:Value},vP w cs u->(∀ y∈cs,y.ah=true)->RF w w.heap.size (fun _=>none) cs u:=by
  rintro cs u ⟨b,off,rfl,hb,hr⟩ hf
  refine⟨b,off,rfl,hb,rfl,fun j x hx=>⟨hf x (List.mem_of_getElem? hx),hr j x hx⟩⟩
 cases h with
 | v _ _ h=>
  obtain⟨us,hu,hs,hr⟩:=h
  obtain⟨b,xs⟩:=p
  cases b with
  | true=>
   refine⟨us,hu,by rw[List.length_map];exact hs,fun i y hy=>?_⟩
   rw[List.getElem?_map]at hy
   cases hz:xs[i]? with
   | none=>rw[hz]at hy;cases hy
   | some z=>
    rw[hz]at hy
    injection hy with hy
    subst hy
    obtain⟨v,hv,cN⟩:=hr i z hz
    exact⟨v,hv,hf z (List.mem_of_getElem? hz),cN⟩
  | false=>
   have hu:us = #[u]:=hu
   subst hu
   have h1:xs.length=1:=hs.symm
   obtain⟨x,rfl⟩:=List.length_eq_one_iff.1 h1
   obtain⟨v,hv,cN⟩:=hr 0 x rfl
   have:u=v:=by simpa using hv
   subst this
   exact⟨hf x (by simp),cN⟩
 | p c cs _ h=>exact Xl h fun y hy=>hf y (.tail _ hy)
 | f g c cs u h=>exact⟨u,rfl,Xl h fun y hy=>hf y (.tail _ (.tail _ hy))⟩
theorem P9:∀ (l:List (Bool×TC)) (ps:List Pt) (x:m5 l),wC l ps=some x->(gR l x).length=ps.length/\∀ (i:Nat) p,(gR l x)[i]?=some p->∃ q,ps[i]?=some q/\q.1=p.1/\bJ q.2 p.2
 | [],[],x,h=>⟨rfl,fun i p hp=>by simp[gR]at hp⟩
 | (b,t) :: r,(b',vs) :: ps,x,h=>by
  unfold wC at h
  cases hb:b==b' with
  | false=>rw[hb]at h;cases h
  | true=>
   rw[hb,cond_true]at h
   have hb:b=b':=by simpa using hb
   subst hb
   split at h
   ·rename_i y ys h1 h2
    injection h with h
    subst h
    obtain⟨k1,k2⟩:=P9 r ps ys h2
    refine⟨by simp[gR,k1],fun i p hp=>?_⟩
    cases i with
    | zero=>simp[gR]at hp;subst hp;exact⟨(b,vs),rfl,rfl,mK t 0 vs y h1⟩
    | succ i=>exact k2 i p (by simpa [gR]using hp)
   ·cases h
 | [],_ :: _,x,h=>by simp[wC]at h
 | _ :: _,[],x,h=>by simp[wC]at h
def wD(l:List (Bool×TC×Nat)):Bool:=l.all fun p=>Nat.ble (full p.2.1) p.2.2
theorem Xm(t:TC)(g:Nat)(x:T t)(h:full t<=g):(enc t g x).all V.loc=true:=by
 rw[List.all_eq_true]
 intro y hy
 have hg:=s8 t g x y hy
 have hl:=Hr t g x y hy
 cases y with
 | sl t' o' q l=>
  have ho:o'=g:=by simpa [V.gr]using hg
  subst ho
  have hl:full t'+2<=full t:=Nat.le_of_ble_eq_true hl
  show vR t' o'=true
  match o',h with
  | 0,h=>omega
  | 1,h=>omega
  | n+2,h=>
   simp only[vR,Bool.or_eq_true]
   left
   exact Nat.ble_eq_true_of_le (by omega)
 | _=>rfl
theorem Qa:∀ (l:List (Bool×TC×Nat)) (ps:List Pt) (x:nT l),wD l=true->rZ l ps=some x->(xU l x).length=ps.length/\∀ (nm:Nat->Nat) (off:Nat) (vs:List Value),ja w B af nm off ps vs->ja w B af nm off (xU l x) vs
 | [],[],x,_,h=>⟨rfl,fun nm off vs hr=>hr⟩
 | [(b,t,g)],[(b',vs)],x,ho,h=>by
  unfold rZ at h
  cases hb:b==b' with
  | false=>rw[hb]at h;cases h
  | true=>
   rw[hb]at h
   have h:dec t g vs=some x:=h
   have hb:b=b':=by simpa using hb
   subst hb
   have hg:full t<=g:=by simpa [wD]using ho
   refine⟨rfl,fun nm off us hr=>?_⟩
   match us,hr with
   | [u],⟨⟨_,h1⟩,_⟩=>exact⟨⟨Xm t g x hg,h1.uA (mK t g vs x h)⟩,trivial⟩
 | (b,t,g) :: q :: r,(b',vs) :: ps,x,ho,h=>by
  unfold rZ at h
  cases hb:b==b' with
  | false=>rw[hb]at h;cases h
  | true=>
   rw[hb,cond_true]at h
   have hb:b=b':=by simpa using hb
   subst hb
   have qX:full t<=g/\wD (q :: r)=true:=by
    simp only[wD,List.all_cons,Bool.and_eq_true]at ho ⊢
    exact⟨Nat.le_of_ble_eq_true ho.1,ho.2⟩
   split at h
   ·rename_i y ys h1 h2
    injection h with h
    subst h
    obtain⟨k1,k2⟩:=Qa (q :: r) ps ys qX.2 h2
    refine⟨by simp[xU,k1],fun nm off us hr=>?_⟩
    match us,hr with
    | u :: us,⟨⟨_,hp⟩,iK⟩=>
     have hlen:vs.length=(enc t g y).length:=(mK t g vs y h1).1
     refine⟨⟨Xm t g y qX.1,hp.uA (mK t g vs y h1)⟩,?_⟩
     have tC:off+vs.length=off+(enc t g y).length:=by rw[hlen]
     have iK:ja w B af nm (off+vs.length) ps us:=iK
     rw[tC]at iK
     exact k2 nm _ us iK
   ·cases h
 | [],_ :: _,x,_,h=>by simp[rZ]at h
 | [_],[],x,_,h=>by simp[rZ]at h
 | [_],_ :: _ :: _,x,_,h=>by simp[rZ]at h
 | _ :: _ :: _,[],x,_,h=>by simp[rZ]at h
theorem ak0{l:List (Bool×TC×Nat)}{res:iL}{x:nT l}(ho:wD l=true)(h:AT l res=some x){nm:Nat->Nat}{v:Value}(hr:rX w B af nm res v):rX w B af nm (ez l x) v:=by
 cases res with
 | one p=>
  obtain⟨k1,k2⟩:=Qa (w:=w) (B:=B) (af:=af) l [p] x ho h
  have hr:ja w B af nm 0 [p] [v]:=hr
  have:=k2 nm 0 [v] hr
  unfold ez
  match hm:xU l x,k1,this with
  | [q],_,this=>exact this
  | [],k1,_=>cases k1
  | _ :: _ :: _,k1,_=>simp at k1
 | cq ps=>
  simp only[AT]at h
  cases hb:Nat.beq ps.length 1 with
  | true=>rw[hb]at h;cases h
  | false=>
   rw[hb,cond_false]at h
   obtain⟨k1,k2⟩:=Qa (w:=w) (B:=B) (af:=af) l ps x ho h
   obtain⟨vs,e,hr⟩:=hr
   have:=k2 nm 0 _ hr
   unfold ez
   match hm:xU l x,k1,this with
   | [q],k1,this=>simp only[List.length_singleton]at k1;rw[<-k1]at hb;cases hb
   | [],_,this=>exact⟨vs,e,this⟩
   | _ :: _ :: _,_,this=>exact⟨vs,e,this⟩
theorem Xn:∀ (l:List (Bool×TC)) (x:m5 l),(gR l x).length=l.length
 | [],x=>rfl
 | (b,t) :: l,x=>by simp[gR,Xn l]
theorem Xo:∀ (l:List (Bool×TC)) (x:m5 l) (j:Nat) (p:Pt),(gR l x)[j]?=some p->∀ y∈p.2,y.ah=true
 | [],x,j,p,hp,_,_=>by simp[gR]at hp
 | (b,t) :: l,x,0,p,hp,y,hy=>by
  simp[gR]at hp
  subst hp
  obtain⟨i,hi⟩:=List.mem_iff_getElem?.1 hy
  exact jl t 0 x.1 (by omega) i y hi
 | (b,t) :: l,x,j+1,p,hp,y,hy=>Xo l x.2 j p (by simpa [gR]using hp) y hy
theorem ak1{f:Nat}{fn:Func}{code:Code}{yR:List Pt}{ro:List (Bool×TC×Nat)}{y:nT ro}(hf:P.funcs[f]?=some fn)(hb:fn.body=some code)(hN:fn.ntmps=N)(hle:yR.length<=N)(dm:wD ro=true)
  (bI:fO P Φ) (jP:uh P N Λ (occs code)) (ak2:∀ (j:Nat) p,yR[j]?=some p->∀ y∈p.2,y.ah=true) (hy:I9 P N Φ Λ code fn.results yR (AT ro)=some y) (nm:Nat->Nat) (w:World) (bZ:Array Value) (gW:vQ w yR bZ) (hQ:Hd w (fun _=>none)):
  Calls P f bZ w fun e w'=>∃ v ax,e = .returned v/\Below w.heap.size w w'/\(∀ b k,ax b=some k->w.heap.size<=b/\b<w'.heap.size/\k≠[])/\rX w' w.heap.size ax nm (ez ro y) v:=by
 have hle:bZ.size<=N:=by rw[gW.1];exact hle
 refine calls_of_wp hf hb ?_
 unfold I9 at hy
 have hR:R (.of w hQ) N (Xj yR) { tmps:=bZ++Array.replicate (fn.ntmps-bZ.size) undef,defers:=[] } w:=by
  refine⟨fun _=>none,fun _=>.ak 0 0,.of (Below.refl w.heap.size w) (Nat.le_refl _),(fun b k hk=>by cases hk),(fun n y hy=>by cases hy),fun j=>?_,by simp[hN];omega,rfl,(fun r l h=>by cases h),(fun _ _=>rfl)⟩
  show RA w w.heap.size _ _ (match yR[j]? with | some p=>P8 p | none=>.undef) _
  cases hp:yR[j]? with
  | none=>trivial
  | some p=>
   obtain⟨u,hu,xY⟩:=gW.2 j p hp
   have hj:j<bZ.size:=(Array.getElem?_eq_some_iff.1 hu).1
   have e:(bZ++Array.replicate (fn.ntmps-bZ.size) undef).getD j undef=u:=by rw[Array.getD_eq_getD_getElem?,Array.getElem?_append_left hj,hu];rfl
   rw[e]
   exact xY.ra (ak2 j p hp)
 refine wp_mono (I0 (w0:=.of w hQ) bI code _ _ hy jP _ w hR) fun e a' w' he=>?_
 obtain⟨aj,hk,af,ρ,aT⟩:=he
 have fin:Dq P aj fn.results (AT ro)=some y->a'.defers=[]/\∃ v,(results fn a'.tmps).run P w' = .ok v w'/\∃ El ax,Ending.returned v=Ending.returned El/\Below w.heap.size w w'/\(∀ b k,ax b=some k->w.heap.size<=b/\b<w'.heap.size/\k≠[])/\rX w' w.heap.size ax nm (ez ro y) El:=by
  intro oZ
  obtain⟨res,g8,aW⟩:=aio (w0:=.of w hQ) (N:=N) (fn:=fn) oZ
  obtain⟨v,ax,h1,h2,h3⟩:=aW af ρ a' w' aT nm
  exact⟨aT.defers,v,h1,v,ax,rfl,⟨aT.below.os,aT.below.tape,aT.below.output,aT.below.size,fun k hk=>aT.below.block k hk rfl⟩,fun b k hb=>⟨(h2 b k hb).1.resolve_right (fun h=>h rfl),(h2 b k hb).2⟩,ak0 dm g8 h3⟩
 split at hk
 ·rename_i he
  have he:=wA he
  subst he
  exact fin hk
 ·rename_i he
  have he:=wA he
  subst he
  exact fin hk
 ·cases hk
theorem ak3{f:Nat}{fn:Func}{code:Code}{ai:List (Bool×TC)}{ro:List (Bool×TC×Nat)}{F:m5 ai->Option (nT ro)}(hf:P.funcs[f]?=some fn)(hb:fn.body=some code)(hN:fn.ntmps=N)(uB:(fn.name == "runtime.NumGoroutine")=false)(Em:Nat.ble ai.length N=true)(dm:wD ro=true)
  (bI:fO P Φ) (jP:uh P N Λ (occs code)) (hF:∀ x,I9 P N Φ Λ code fn.results (gR ai x) (AT ro)=F x):enters P f/\aF P f (aG ai ro F):=by
 refine⟨⟨fn,hf,uB,by rw[hb];rfl⟩,fun X args k r h=>?_⟩
 simp only[aG]at h
 split at h
 ·rename_i x hx
  split at h
  ·rename_i y hy
   refine⟨_,h,fun X' k'=>by simp only[aG,hx,hy],fun nm w bZ gW hQ=>?_⟩
   obtain⟨k1,k2⟩:=P9 ai args x hx
   refine ak1 hf hb hN (by rw[Xn];exact Nat.le_of_ble_eq_true Em) dm bI jP (Xo ai x) ((hF x).trans hy) nm w bZ ⟨gW.1.trans k1.symm,fun j p hp=>?_⟩ hQ
   obtain⟨q,hq,v5,v7⟩:=k2 j p hp
   obtain⟨u,hu,xY⟩:=gW.2 j q hq
   refine⟨u,hu,?_⟩
   obtain⟨b,ys⟩:=p
   obtain⟨b',xs⟩:=q
   simp only at v5
   subst v5
   exact xY.uA v7
  ·cases h
 ·cases h
end
end Go.Proofs.YtinbifpbkcbnkaaGreat
namespace Go.Proofs.YtinbifpbkcbnkaaGreat
open Go.RowKit
set_option linter.unusedVariables false
section
variable {P:Program} {w w':World} {w0:Wd} {B N:Nat} {af ax:bq} {ρ ρ':Nat->Loc} {σ:S} {a:Act} {X:Type} {d:Nat} {r:X} {o:Oper} {Φ:dG} {Λ:me}
end
end Go.Proofs.YtinbifpbkcbnkaaGreat
namespace Go.Proofs.YtinbifpbkcbnkaaGreat
open Go.RowKit
set_option linter.unusedVariables false
section
variable {P:Program} {w w':World} {w0:Wd} {B N:Nat} {af ax:bq} {ρ ρ':Nat->Loc} {σ:S} {a:Act} {X:Type} {d:Nat} {r:X} {o:Oper} {Φ:dG} {Λ:me}
end
end Go.Proofs.YtinbifpbkcbnkaaGreat
namespace Go.Proofs.YtinbifpbkcbnkaaGreat
open Go.RowKit
set_option linter.unusedVariables false
set_option maxRecDepth 100000
def azI(σ:S)(rv:Array ResultVar):Option Int:=
 match rv.toList with
 | [.tmp t]=>(match σ.t t with
  | .aC r 0=>(match σ.m r with
   | some (.ak [.own [n],.v (.int .i64 z),.v (.int .i64 h)])=>bif Nat.beq n 20000&&z==0 then some h else none
   | _=>none)
  | _=>none)
 | _=>none
section
variable {P:Program} {w w':World} {w0:Wd} {B N:Nat} {af ax:bq} {ρ ρ':Nat->Loc} {σ:S} {a:Act} {X:Type} {d:Nat} {r:X} {o:Oper} {Φ:dG} {Λ:me}
end
end Go.Proofs.YtinbifpbkcbnkaaGreat
namespace Go.Proofs.YtinbifpbkcbnkaaGreat
open Go.RowKit
set_option linter.unusedVariables false
set_option maxRecDepth 100000
def nV(i j:Nat):Nat:=20001+1000*i+j
def Bq(i j:Nat)(x:V):Lf:=match x with
 | .sl ..=>.own [nV i j]
 | x=>.v x
def uC(i:Nat):Nat->List V->List Lf
 | _,[]=>[]
 | j,x :: xs=>Bq i j x :: uC i (j+1) xs
def Qb(args:List Pt)(n:Nat):Option aP:=bif Nat.ble 20001 n&&Nat.blt n 60000 then (match args[(n-20001) / 1000]? with
 | some (_,xs)=>(match xs[(n-20001) % 1000]? with
  | some (.sl t g q l)=>some (.sl (.sl t g q l))
  | _=>none)
 | none=>none)else none
def Xp(args:List Pt):S:=⟨fun i=>match args[i]? with
 | some (false,[x])=>.lf (Bq i 0 x)
 | some (true,xs)=>.agg (uC i 0 xs)
 | _=>.undef,Qb args⟩
def Jc(σ:S)(rv:Array ResultVar)(a j:Nat)(t:TC):Option (Nat×Nat):=match rv.toList with
 | [.tmp s]=>(match σ.t s with
  | .view [n] sz i k=>bif Nat.beq n (nV a j)&&Nat.beq sz (aB t)then some (i,k)else none
  | _=>none)
 | _=>none
def Xq(P:Program)(N:Nat)(Φ:dG)(Λ:me)(code:Code)(rv:Array ResultVar)(a j:Nat)(t:TC)(args:List Pt):Option (Nat×Nat):=
 fZ P N Φ Λ code (Xp args) fun e σ=>match Bp e with
  | some 0=>Jc σ rv a j t
  | some 1=>Jc σ rv a j t
  | _=>none
def Qc(ai:List (Bool×TC))(a j:Nat)(t:TC)(F:m5 ai->Option (Nat×Nat)):yw:=⟨a,j,t,fun args=>match wC ai args with
 | some x=>F x
 | none=>none⟩
section
variable {P:Program} {w w':World} {w0:Wd} {B N:Nat} {af ax:bq} {ρ ρ':Nat->Loc} {σ:S} {a:Act} {X:Type} {d:Nat} {r:X} {o:Oper} {Φ:dG} {Λ:me}
theorem Xr(i:Nat):∀ (xs:List V) (j0 j:Nat),(uC i j0 xs)[j]?=(xs[j]?).map fun x=>Bq i (j0+j) x
 | [],j0,j=>by simp[uC]
 | x :: xs,j0,0=>by simp[uC]
 | x :: xs,j0,j+1=>by
  simp only[uC,List.getElem?_cons_succ,Xr i xs (j0+1) j]
  rw[show j0+1+j=j0+(j+1) by omega]
theorem Xs(i:Nat):∀ (xs:List V) (j0:Nat),(uC i j0 xs).length=xs.length
 | [],_=>rfl
 | x :: xs,j0=>by simp[uC,Xs i xs (j0+1)]
theorem Xt{i j:Nat}(h:j<1000):(nV i j-20001) / 1000=i/\(nV i j-20001) % 1000=j:=by
 unfold nV
 omega
def wE(bZ:Array Value)(n:Nat):Loc:=.dJ ((qL bZ ((n-20001) / 1000) ((n-20001) % 1000)).getD undef)
theorem Xu{bZ:Array Value}{i j:Nat}{x:V}{u:Value}(hj:j<1000)(hu:qL bZ i j=some u)(hf:x.ah=true)(hr:RV w B (fun _=>none) [] x u):cL w B (fun _=>none) (wE bZ) (Bq i j x) u:=by
 unfold Bq
 split
 ·refine⟨hr.jV rfl rfl,?_⟩
  obtain⟨e1,e2⟩:=Xt (i:=i) hj
  simp only[cc,wE,e1,e2,hu]
  rfl
 ·exact⟨hf,hr⟩
theorem ak4{f:Nat}{fn:Func}{code:Code}{ai:List (Bool×TC)}{aa jj:Nat}{t:TC}{F:m5 ai->Option (Nat×Nat)}(hf:P.funcs[f]?=some fn)(hb:fn.body=some code)(hN:fn.ntmps=N)(uB:(fn.name == "runtime.NumGoroutine")=false)(Em:Nat.ble ai.length N=true)(Xv:Nat.ble N 20000=true)(cT:(ai.all fun p=>Nat.blt (aB p.2) 1000&&(p.1 || Nat.beq (aB p.2) 1))=true)(Xw:Nat.blt jj 1000=true)(haa:Nat.blt aa 30=true)
  (bI:fO P Φ) (jP:uh P N Λ (occs code)) (hF:∀ x,Xq P N Φ Λ code fn.results aa jj t (gR ai x)=F x):enters P f/\Ig P f (Qc ai aa jj t F):=by
 refine⟨⟨fn,hf,uB,by rw[hb];rfl⟩,fun args p h w bZ gW hQ=>?_⟩
 simp only[Qc]at h
 split at h
 ·rename_i x hx
  obtain⟨k1,k2⟩:=P9 ai args x hx
  have hlen:∀ (l:List (Bool×TC)) (x:m5 l),(gR l x).length=l.length:=by
   intro l
   induction l with
   | nil=>intro x;rfl
   | cons p l ih=>obtain⟨b,t⟩:=p;intro x;simp[gR,ih]
  have eW:bZ.size=ai.length:=by rw[gW.1,<-k1,hlen]
  have hle:bZ.size<=N:=by rw[eW];exact Nat.le_of_ble_eq_true Em
  have Xv:=Nat.le_of_ble_eq_true Xv
  have mW:∀ (l:List (Bool×TC)) (x:m5 l),(l.all fun p=>Nat.blt (aB p.2) 1000&&(p.1 || Nat.beq (aB p.2) 1))=true->∀ (j:Nat) p,(gR l x)[j]?=some p->(∀ y∈p.2,y.ah=true)/\p.2.length<1000/\(p.1=true\/p.2.length=1):=by
   intro l
   induction l with
   | nil=>intro x _ j p hp;simp[gR]at hp
   | cons c l ih=>
    obtain⟨b,t⟩:=c
    intro x hs j p hp
    rw[List.all_cons,Bool.and_eq_true]at hs
    cases j with
    | zero=>
     simp[gR]at hp
     subst hp
     refine⟨fun y hy=>?_,?_⟩
     ·obtain⟨i,hi⟩:=List.mem_iff_getElem?.1 hy
      exact jl t 0 x.1 (by omega) i y hi
     ·show (enc t 0 x.1).length<1000/\(b=true\/(enc t 0 x.1).length=1)
      rw[kM]
      have h8:=hs.1
      rw[Bool.and_eq_true,Bool.or_eq_true]at h8
      have h9:aB t<1000:=Nat.le_of_ble_eq_true h8.1
      exact⟨h9,h8.2.imp id Nat.eq_of_beq_eq_true⟩
    | succ j=>exact ih x.2 hs.2 j p (by simpa [gR]using hp)
  have iG:∀ (i:Nat) (p:Pt),(gR ai x)[i]?=some p->∃ u:Value,bZ[i]?=some u/\PV w w.heap.size (fun _=>none) (fun _=>[]) p u/\(∀ y∈p.2,y.ah=true)/\p.2.length<1000:=by
   intro i p hp
   obtain⟨q,hq,v5,v7⟩:=k2 i p hp
   obtain⟨u,hu,xY⟩:=gW.2 i q hq
   obtain⟨g1,g2,g3⟩:=mW ai x cT i p hp
   refine⟨u,hu,?_,g1,g2⟩
   obtain⟨b,ys⟩:=p
   obtain⟨b',xs⟩:=q
   simp only at v5
   subst v5
   have hw:=xY.uA v7
   rcases g3 with g3 | g3
   ·simp only at g3
    subst g3
    exact hw.Vd
   ·obtain⟨y,rfl⟩:=List.length_eq_one_iff.1 g3
    cases b' with
    | true=>exact hw.Vd
    | false=>exact hw.pv
  have Qd:∀ (i:Nat) (p:Pt),(gR ai x)[i]?=some p->∀ (j:Nat) y,p.2[j]?=some y->∃ u,qL bZ i j=some u/\RV w w.heap.size (fun _=>none) [] y u/\y.ah=true/\j<1000:=by
   intro i p hp j y hy
   obtain⟨u,hu,⟨us,h1,h2,h3⟩,h4,h5⟩:=iG i p hp
   obtain⟨v,hv,hr⟩:=h3 j y hy
   refine⟨v,?_,hr,h4 y (List.mem_of_getElem? hy),by have:=(List.getElem?_eq_some_iff.1 hy).1;omega⟩
   unfold qL
   rw[hu]
   obtain⟨b,ys⟩:=p
   cases b with
   | true=>
    have h1:u = .agg us:=h1
    subst h1
    exact hv
   | false=>
    have h1:us = #[u]:=h1
    subst h1
    have hj:j=0:=by
     have:=(Array.getElem?_eq_some_iff.1 hv).1
     simpa using this
    subst hj
    have:u=v:=by simpa using hv
    subst this
    have sr:∀ us,u ≠ .agg us:=by
     rintro us rfl
     cases hr
    cases u <;>first | exact absurd rfl (sr _) | rfl
  let W:Wd:=⟨w,fun _=>none,fun r=>if 20000<=r/\r<60000 then some (wE bZ r)else none,hQ,fun r hr=>if_neg (by omega)⟩
  refine calls_of_wp hf hb ?_
  rw[<-hF x]at h
  unfold Xq at h
  have hR:R W N (Xp (gR ai x)) { tmps:=bZ++Array.replicate (fn.ntmps-bZ.size) undef,defers:=[] } w:=by
   refine⟨fun _=>none,wE bZ,.of (Below.refl w.heap.size w) (Nat.le_refl _),(fun b k hk=>by cases hk),(fun n y hy=>?_),fun i=>?_,by simp[hN];omega,rfl,fun r l hr=>?_,fun r hr=>?_⟩
   ·have hy:Qb (gR ai x) n=some y:=hy
    unfold Qb at hy
    cases hb:(Nat.ble 20001 n&&Nat.blt n 60000)with
    | false=>rw[hb]at hy;cases hy
    | true=>
     rw[hb,cond_true]at hy
     split at hy
     ·rename_i b xs hp
      split at hy
      ·rename_i t' g q l hl
       injection hy with hy
       subst hy
       obtain⟨u,hu,hr,nN,_⟩:=Qd _ _ hp _ _ hl
       refine .sl u _ ?_ (hr.key nN)
       unfold wE
       rw[hu]
       rfl
      ·cases hy
     ·cases hy
   ·show RA w w.heap.size _ _ (match (gR ai x)[i]? with | some (false,[x])=>A.lf (Bq i 0 x) | some (true,xs)=>.agg (uC i 0 xs) | _=>.undef) _
    have AD:∀ p:Pt,(gR ai x)[i]?=some p->∃ u:Value,bZ[i]?=some u/\(bZ++Array.replicate (fn.ntmps-bZ.size) undef).getD i undef=u:=by
     intro p hp
     obtain⟨u,hu,_⟩:=iG i p hp
     have hi:i<bZ.size:=(Array.getElem?_eq_some_iff.1 hu).1
     exact⟨u,hu,by rw[Array.getD_eq_getD_getElem?,Array.getElem?_append_left hi,hu];rfl⟩
    split
    ·rename_i x' cz
     obtain⟨u,hu,e⟩:=AD _ cz
     rw[e]
     obtain⟨v,hv,hr,nN,_⟩:=Qd i _ cz 0 x' rfl
     have rW:u=v:=by
      unfold qL at hv
      rw[hu]at hv
      obtain⟨u2,oO,⟨us,h1,h2,h3⟩,_⟩:=iG i _ cz
      rw[hu]at oO
      injection oO with oO
      subst oO
      have h1:us = #[u]:=h1
      subst h1
      obtain⟨v3,hv3,hr3⟩:=h3 0 x' rfl
      have:u=v3:=by simpa using hv3
      subst this
      have sr:∀ us,u ≠ .agg us:=by
       rintro us rfl
       cases hr3
      cases u <;>first | exact absurd rfl (sr _) | (simp only[show Nat.beq 0 0=true from rfl,cond_true,Option.some.injEq]at hv;exact hv)
     subst rW
     exact Xu (by omega) hv nN hr
    ·rename_i xs cz
     obtain⟨u,hu,e⟩:=AD _ cz
     rw[e]
     obtain⟨u2,oO,⟨us,h1,h2,h3⟩,_⟩:=iG i _ cz
     rw[hu]at oO
     injection oO with oO
     subst oO
     have h1:u = .agg us:=h1
     refine⟨us,h1,by rw[Xs];exact h2,fun j y hy=>?_⟩
     rw[Xr]at hy
     cases hz:xs[j]? with
     | none=>rw[hz]at hy;cases hy
     | some z=>
      rw[hz]at hy
      injection hy with hy
      subst hy
      obtain⟨v,hv,hr,nN,hj⟩:=Qd i _ cz j z hz
      have huj:us[j]?=some v:=by
       unfold qL at hv
       rw[hu,h1]at hv
       exact hv
      refine⟨v,huj,?_⟩
      rw[Nat.zero_add]
      exact Xu hj hv nN hr
    ·trivial
   ·have hr:(if 20000<=r/\r<60000 then some (wE bZ r)else none)=some l:=hr
    split at hr
    ·injection hr
    ·cases hr
   ·show (if 20000<=r/\r<60000 then some (wE bZ r)else none)=none
    rw[if_neg (by omega)]
  refine wp_mono (I0 (w0:=W) bI code _ _ h jP _ w hR) fun e a' w' he=>?_
  obtain⟨aj,hk,ki,tN,aT⟩:=he
  have fin:Jc aj fn.results aa jj t=some p->a'.defers=[]/\∃ u,(results fn a'.tmps).run P w' = .ok u w'/\∃ A n cap,qL bZ aa jj=some (.slice A n cap)/\p.1<=p.2/\p.2<=n/\Ending.returned u = .returned (sliced A p.1 p.2 cap (aB t))/\Below w.heap.size w w':=by
   intro oZ
   unfold Jc at oZ
   split at oZ
   ·rename_i s hs
    split at oZ
    ·rename_i n sz i k hv
     cases fU:(Nat.beq n (nV aa jj)&&Nat.beq sz (aB t))with
     | false=>rw[fU]at oZ;cases oZ
     | true=>
      rw[fU,cond_true]at oZ
      injection oZ with oZ
      subst oZ
      rw[Bool.and_eq_true]at fU
      have hn:=Nat.eq_of_beq_eq_true fU.1
      have ak5:=Nat.eq_of_beq_eq_true fU.2
      subst hn ak5
      have h1:=aT.tmp s
      rw[hv]at h1
      obtain⟨A,m,c,e1,e2,e3,e4⟩:=h1
      have Xw:=Nat.le_of_ble_eq_true Xw
      have sr:20000<=nV aa jj:=by unfold nV;omega
      by_cases bw:nV aa jj<60000
      ·have ak6:=aT.fix (nV aa jj) (wE bZ (nV aa jj)) (if_pos ⟨sr,bw⟩)
       have e1:(match tN (nV aa jj)with | .dJ v=>some v | _=>none)=some (Value.slice A m c):=e1
       rw[ak6]at e1
       obtain⟨d1,d2⟩:=Xt (i:=aa) (j:=jj) (by omega)
       have e1:some ((qL bZ ((nV aa jj-20001) / 1000) ((nV aa jj-20001) % 1000)).getD undef)=some (Value.slice A m c):=e1
       rw[d1,d2]at e1
       injection e1 with e1
       refine⟨aT.defers,_,?_,A,m,c,?_,e2,e3,congrArg Ending.returned e4,⟨aT.below.os,aT.below.tape,aT.below.output,aT.below.size,fun k hk=>aT.below.block k hk rfl⟩⟩
       ·have g8:results fn a'.tmps=(do let vs <-fn.results.mapM (tS a'.tmps);pure (if h:vs.size=1 then vs[0]else .tuple vs)):=by
         unfold results
         congr 1
        have mW:fn.results = #[.tmp s]:=by apply Array.ext';exact hs
        rw[g8,mW,Array.mapM_eq_mapM_toList]
        simp[tS]
       ·cases hl:qL bZ aa jj with
        | none=>rw[hl]at e1;cases e1
        | some u=>rw[hl]at e1;exact congrArg some e1
      ·exfalso
       have:=Nat.le_of_ble_eq_true haa
       unfold nV at bw
       omega
    ·cases oZ
   ·cases oZ
  split at hk
  ·rename_i he
   have he:=wA he
   subst he
   exact fin hk
  ·rename_i he
   have he:=wA he
   subst he
   exact fin hk
  ·cases hk
 ·cases h
end
end Go.Proofs.YtinbifpbkcbnkaaGreat
namespace Go.Proofs.YtinbifpbkcbnkaaGreat
open Go.RowKit
set_option linter.unusedVariables false
def Wd.pin(d:Wd)(g:Nat)(l:Option Loc)(hg:20000<=g):Wd:=⟨d.w,d.L,fun r=>if r=g then l else d.F r,d.held,fun r hr=>by
 show (if r=g then l else d.F r)=none
 rw[if_neg (by omega)]
 exact d.low r hr⟩
def wF(g:Nat):List (Bool×List Lf)->A
 | [(false,[x])]=>.lf (x.drop g)
 | [(true,cs)]=>.agg (cs.map (Lf.drop g))
 | [(false,_)]=>.undef
 | ps=>.cq (ps.map fun p=>(p.1,p.2.map (Lf.drop g)))
def yS{X:Type}(P:Program)(g:Nat)(rv:Array ResultVar)(τ:S)(k:S->A->Option X):Option X:=
 nS P τ rv.toList fun ps=>match τ.m g with
  | some (.gh ys)=>k ⟨fun j=>((ys.map (A.drop g))[j]?).getD .undef,(τ.drop g).m⟩ (wF g ps)
  | _=>none
def Xx(g N:Nat)(σ:S)(xs:List A):S:=⟨fun j=>((xs.map (A.drop g))[j]?).getD .undef,bG (σ.drop g).m g (some (.gh ((List.range N).map fun j=>(σ.t j).drop g)))⟩
def En:me:=fun _=>none
def Eo{X:Type}(P:Program)(M g:Nat)(Φ:dG)(code:Code)(rv:Array ResultVar)(N:Nat)(σ:S)(xs:List A)(k:S->A->Option X):Option X:=
 bif Nat.ble xs.length M then fZ P M Φ En code (Xx g N σ xs) fun e τ=>match Bp e with
  | some 0=>yS P g rv τ k
  | some 1=>yS P g rv τ k
  | _=>none
 else none
def Xy(P:Program)(M g:Nat)(Φ:dG)(code:Code)(rv:Array ResultVar):qM:=⟨fun X N σ xs k=>Eo P M g Φ code rv N σ xs k⟩
section
variable {P:Program} {w w':World} {w0:Wd} {B M N g:Nat} {af ax:bq} {ρ ρ':Nat->Loc} {σ:S} {a:Act} {X:Type} {d:Nat} {r:X} {o:Oper} {Φ:dG} {Λ:me}
theorem Jd{dst:Option Tmp}{gd:Bool}{k:S->Option X}(h:mU σ dst gd k=some r):∃ τ,k τ=some r/\bW (fun X k=>mU (X:=X) σ dst gd k) τ:=by
 unfold mU at h
 cases gd with
 | false=>exact⟨σ,h,fun X k=>rfl⟩
 | true=>
  rw[cond_true]at h
  split at h
  ·rename_i d
   split at h
   ·rename_i b hb
    cases b with
    | true=>exact⟨_,h,fun X k=>by simp only[mU,cond_true,hb]⟩
    | false=>exact⟨_,h,fun X k=>by simp only[mU,cond_true,hb,cond_false]⟩
   ·rename_i hb
    exact⟨σ,h,fun X k=>by
     show mU σ (some d) true k=k σ
     unfold mU
     simp only[cond_true]⟩
  ·exact⟨σ,h,fun X k=>rfl⟩
theorem ak7[Inhabited Wd]{ops:Array Oper}{L i:Nat}{k:S->Option X}(h:wu P N Φ ops L i σ o k=some r):∃ τ,k τ=some r/\bW (fun X k=>wu (X:=X) P N Φ ops L i σ o k) τ:=by
 unfold wu at h
 split at h
 ·rename_i hw
  obtain⟨v,h1,hd,_⟩:=A5 (w0:=default) (N:=N) h
  cases hv:v.jt (sy Φ ops i L (waits ops i ops.size 0 0) σ) (ud σ ops i L (waits ops i ops.size 0 0))with
  | false=>rw[hv]at h1;cases h1
  | true=>
   rw[hv,cond_true]at h1
   obtain⟨h2,h3⟩:=ju h1
   exact⟨_,h2,fun X k=>by
    simp only[wu,hw]
    refine(hd.at_ _).trans ?_
    rw[hv,cond_true]
    exact(h3 σ).at_ _⟩
 ·rename_i hw
  obtain⟨h1,h2⟩:=ju h
  exact⟨_,h1,fun X k=>by simp only[wu,hw];exact(h2 σ).at_ _⟩
 ·cases h
theorem Qe[Inhabited Wd](bI:fO P Φ){ops:Array Oper}{k:S->Option X}(h:c7 P N Φ ops σ o k=some r):∃ τ,k τ=some r/\bW (fun X k=>c7 (X:=X) P N Φ ops σ o k) τ:=by
 unfold c7 at h
 split at h
 ·rename_i hw
  obtain⟨τ,h1,h2⟩:=Iz bI h
  exact⟨τ,h1,fun X k=>by simp only[c7,hw];exact h2 X k⟩
 ·rename_i hw
  obtain⟨h1,h2⟩:=ju h
  exact⟨_,h1,fun X k=>by simp only[c7,hw];exact(h2 σ).at_ _⟩
 ·cases h
theorem Ep[Inhabited Wd](bI:fO P Φ){ops:Array Oper}:∀ (f L:Nat) (σ:S) (k:S->Option X),kr P N Φ ops f L σ k=some r->∃ τ,k τ=some r/\bW (fun X k=>kr (X:=X) P N Φ ops f L σ k) τ
 | 0,L,σ,k,h=>by
  unfold kr at h
  split at h
  ·rename_i hr
   exact⟨σ,h,fun X k=>by simp only[kr,hr]⟩
  ·cases h
 | f+1,L,σ,k,h=>by
  unfold kr at h
  split at h
  ·rename_i hr
   exact⟨σ,h,fun X k=>by simp only[kr,hr]⟩
  ·rename_i i hr
   split at h
   ·rename_i o ho
    obtain⟨τ,h1,h2⟩:=Qe bI h
    obtain⟨fL,h3,h4⟩:=Jd h1
    obtain⟨q5,h5,h6⟩:=Ep bI f _ fL k h3
    exact⟨q5,h5,fun X k=>by
     simp only[kr,hr,ho]
     exact(h2.at_ _).trans ((h4.at_ _).trans (h6.at_ _))⟩
   ·cases h
  ·rename_i rs hn hs
   split at h
   ·rename_i i hf
    split at h
    ·rename_i o ho
     obtain⟨τ,h1,h2⟩:=ak7 h
     obtain⟨fL,h3,h4⟩:=Jd h1
     obtain⟨q5,h5,h6⟩:=Ep bI f _ fL k h3
     refine⟨q5,h5,fun X k=>?_⟩
     show kr P N Φ ops (f+1) L σ k=k q5
     unfold kr
     split
     ·rename_i e;exact absurd e hn
     ·rename_i i e;exact absurd e (hs i)
     ·simp only[hf,ho]
      exact(h2.at_ _).trans ((h4.at_ _).trans (h6.at_ _))
    ·cases h
   ·rename_i hf
    split at h
    ·rename_i i hf2
     split at h
     ·rename_i o ho
      obtain⟨τ,h1,h2⟩:=Qe bI h
      obtain⟨fL,h3,h4⟩:=Jd h1
      obtain⟨q5,h5,h6⟩:=Ep bI f _ fL k h3
      refine⟨q5,h5,fun X k=>?_⟩
      show kr P N Φ ops (f+1) L σ k=k q5
      unfold kr
      split
      ·rename_i e;exact absurd e hn
      ·rename_i i e;exact absurd e (hs i)
      ·simp only[hf,hf2,ho]
       exact(h2.at_ _).trans ((h4.at_ _).trans (h6.at_ _))
     ·cases h
    ·cases h
theorem ak8[Inhabited Wd](bI:fO P Φ){ops:Array Oper}{k:S->Option X}(h:ug P N Φ ops σ k=some r):∃ τ,k τ=some r/\bW (fun X k=>ug (X:=X) P N Φ ops σ k) τ:=by
 unfold ug at h
 split at h
 ·rename_i i hi
  split at h
  ·rename_i o ho
   split at h
   ·rename_i e he
    obtain⟨τ,h1,h2⟩:=Qe bI h
    obtain⟨fL,h3,h4⟩:=Ep bI _ _ _ _ h1
    exact⟨fL,h3,fun X k=>by
     simp only[ug,hi,ho,he]
     exact(h2.at_ _).trans (h4.at_ _)⟩
   ·cases h
  ·cases h
 ·rename_i hi
  obtain⟨τ,h1,h2⟩:=Ep bI _ _ _ _ h
  exact⟨τ,h1,fun X k=>by simp only[ug,hi];exact h2.at_ _⟩
theorem ak9[Inhabited Wd](bI:fO P Φ){k:S->Option X}(h:n5 P N Φ σ o k=some r):∃ τ,k τ=some r/\∀ (X':Type) (k':S->Option X'),n5 P N Φ σ o k'=k' τ:=by
 have same:∀ σ2:S,(∀ (X':Type) (k':S->Option X'),n5 P N Φ σ o k'=cM P N Φ σ2 o k')->∃ τ,k τ=some r/\∀ (X':Type) (k':S->Option X'),n5 P N Φ σ o k'=k' τ:=by
  intro σ2 e
  rw[e]at h
  obtain⟨τ,h1,h2⟩:=Iz bI h
  exact⟨τ,h1,fun X k=>(e X k).trans (h2 X k)⟩
 cases ho:o.op with
 | store t x y=>
  cases hd:o.dst with
  | some d=>exact same σ fun X' k'=>by simp only[n5,ho,hd]
  | none=>
   have e:∀ (X':Type) (k':S->Option X'),n5 P N Φ σ o k'=(match aA σ y with
    | .view [q] s i j=>wh P σ q s i j t (aA σ x) k'
    | _=>cM P N Φ σ o k'):=fun X' k'=>by simp only[n5,ho,hd];rfl
   rw[e]at h
   split at h
   ·rename_i q s i j hy
    obtain⟨τ,h1,h2⟩:=ajw h
    exact⟨τ,h1,fun X k=>by rw[e];simp only[hy];exact h2.at_ _⟩
   ·rename_i hn
    obtain⟨τ,h1,h2⟩:=Iz bI h
    refine⟨τ,h1,fun X k=>?_⟩
    rw[e]
    split
    ·rename_i q s i j hy;exact(hn _ _ _ _ hy).elim
    ·exact h2 X k
 | slice t x lo hi mx=>
  cases hd:o.dst with
  | none=>exact same σ fun X' k'=>by simp only[n5,ho,hd]
  | some d=>
   cases mx with
   | some m=>exact same σ fun X' k'=>by simp only[n5,ho,hd]
   | none=>exact same (A0 σ (aA σ x)) fun X' k'=>by simp only[n5,ho,hd]
 | _=>exact same σ fun X' k'=>by simp only[n5,ho]
theorem Qf[Inhabited Wd](bI:fO P Φ){ops:Array Oper}:∀ (rest:List Oper) (j:Nat) (σ:S) (k:S->Option X),sv P N Φ ops j rest σ k=some r->∃ τ,k τ=some r/\bW (fun X k=>sv (X:=X) P N Φ ops j rest σ k) τ
 | [],j,σ,k,h=>⟨σ,h,fun X k=>rfl⟩
 | o :: rest,j,σ,k,h=>by
  unfold sv at h
  split at h
  ·rename_i hw
   obtain⟨τ,h1,h2⟩:=ak9 bI h
   obtain⟨fL,h3,h4⟩:=Jd h1
   obtain⟨q5,h5,h6⟩:=Qf bI rest _ fL k h3
   exact⟨q5,h5,fun X k=>by
    simp only[sv,hw]
    exact(h2 _ _).trans ((h4.at_ _).trans (h6.at_ _))⟩
  ·rename_i hw
   obtain⟨h1,h2⟩:=ju h
   obtain⟨q5,h5,h6⟩:=Qf bI rest _ _ k h1
   exact⟨q5,h5,fun X k=>by
    simp only[sv,hw]
    exact((h2 σ).at_ _).trans (h6.at_ _)⟩
  ·cases h
theorem ala[Inhabited Wd](bI:fO P Φ):∀ (c:Code) (σ:S) (k:Exit->S->Option X),fZ P N Φ En c σ k=some r->∃ e τ,k e τ=some r/\∀ (X':Type) (k':Exit->S->Option X'),fZ P N Φ En c σ k'=k' e τ:=by
 intro c
 induction c with
 | skip=>exact fun σ k h=>⟨_,_,h,fun _ _=>rfl⟩
 | label l=>exact fun σ k h=>⟨_,_,h,fun _ _=>rfl⟩
 | ret=>exact fun σ k h=>⟨_,_,h,fun _ _=>rfl⟩
 | exit id=>exact fun σ k h=>⟨_,_,h,fun _ _=>rfl⟩
 | region id ops draw=>
  intro σ k h
  cases draw with
  | true=>
   simp only[fZ]at h
   cases hm:P.follows .mixedOrders with
   | false=>rw[hm]at h;cases h
   | true=>
    rw[hm,cond_true]at h
    obtain⟨τ,h1,h2⟩:=ak8 bI h
    exact⟨_,τ,h1,fun X k=>by simp only[fZ,hm,cond_true];exact h2.at_ _⟩
  | false=>
   simp only[fZ]at h
   obtain⟨τ,h1,h2⟩:=Qf bI _ _ _ _ h
   exact⟨_,τ,h1,fun X k=>by simp only[fZ];exact h2.at_ _⟩
 | seq x y yN yO=>
  intro σ k h
  simp only[fZ]at h
  obtain⟨e,τ,h1,h2⟩:=yN σ _ h
  cases e with
  | normal=>
   obtain⟨e',fL,h3,h4⟩:=yO τ k h1
   exact⟨e',fL,h3,fun X k=>by simp only[fZ];rw[h2];exact h4 X k⟩
  | _=>exact⟨_,τ,h1,fun X k=>by simp only[fZ];rw[h2]⟩
 | cond c x y yN yO=>
  intro σ k h
  simp only[fZ]at h
  split at h
  ·rename_i b hb
   cases b with
   | true=>
    obtain⟨e,τ,h1,h2⟩:=yN σ k h
    exact⟨e,τ,h1,fun X k=>by simp only[fZ,hb,cond_true];exact h2 X k⟩
   | false=>
    obtain⟨e,τ,h1,h2⟩:=yO σ k h
    exact⟨e,τ,h1,fun X k=>by simp only[fZ,hb,cond_false];exact h2 X k⟩
  ·cases h
 | block id c ih=>
  intro σ k h
  have e0:∀ (X':Type) (k':Exit->S->Option X'),fZ P N Φ En (.block id c) σ k'=fZ P N Φ En c σ fun e aj=>match e with
   | .exit oV=>if oV=id then k' .normal aj else k' (.exit oV) aj
   | e=>k' e aj:=fun X' k'=>rfl
  rw[e0]at h
  obtain⟨e,τ,h1,h2⟩:=ih σ _ h
  cases e with
  | exit oV=>
   by_cases hi:oV=id
   ·simp only[hi,if_true]at h1
    exact⟨_,τ,h1,fun X k=>by rw[e0,h2];simp only[hi,if_true]⟩
   ·simp only[hi,if_false]at h1
    exact⟨_,τ,h1,fun X k=>by rw[e0,h2];simp only[hi,if_false]⟩
  | _=>exact⟨_,τ,h1,fun X k=>by rw[e0,h2]⟩
 | _=>intro σ k h;simp[fZ]at h
theorem Qg:∀ (l:List ResultVar) (k:List (Bool×List Lf)->Option X),nS P σ l k=some r->∃ ps,k ps=some r/\bW (fun X k=>nS (X:=X) P σ l k) ps
 | [],k,h=>⟨[],h,fun X k=>rfl⟩
 | .tmp t :: rest,k,h=>by
  simp only[nS]at h
  split at h
  ·rename_i p hp
   obtain⟨ps,h2,h3⟩:=Qg rest _ h
   exact⟨_,h2,fun X k=>by simp only[nS,hp];exact h3.at_ _⟩
  ·cases h
 | .cell c ty :: rest,k,h=>by
  simp only[nS]at h
  obtain⟨y,hy,hd⟩:=DH h
  split at hy
  ·rename_i p hp
   obtain⟨ps,h2,h3⟩:=Qg rest _ hy
   exact⟨_,h2,fun X k=>by
    simp only[nS]
    refine(hd.at_ _).trans ?_
    simp only[hp]
    exact h3.at_ _⟩
  ·cases hy
theorem alb{rv:Array ResultVar}{k:S->A->Option X}(h:yS P g rv σ k=some r):∃ ys ps,σ.m g=some (.gh ys)/\nS P σ rv.toList some=some ps/\k ⟨fun j=>((ys.map (A.drop g))[j]?).getD .undef,(σ.drop g).m⟩ (wF g ps)=some r/\
  ∀ (X':Type) (k':S->A->Option X'),yS P g rv σ k'=k' ⟨fun j=>((ys.map (A.drop g))[j]?).getD .undef,(σ.drop g).m⟩ (wF g ps):=by
 unfold yS at h
 obtain⟨ps,h1,h2⟩:=Qg _ _ h
 split at h1
 ·rename_i ys hy
  exact⟨ys,ps,hy,h2.at_ _,h1,fun X' k'=>by
   unfold yS
   refine(h2.at_ _).trans ?_
   simp only[hy]⟩
 ·cases h1
theorem List.Xz(xs:List A)(g j:Nat):((xs.map (A.drop g))[j]?).getD .undef=A.drop g ((xs[j]?).getD .undef):=by
 rw[List.getElem?_map]
 cases xs[j]? <;>rfl
theorem RP.wF{ps:List (Bool×List Lf)}{vs:List Value}(aK:∀ r,r≠g->ρ' r=ρ r)(hl:vs.length=ps.length)(h:∀ (i:Nat) p v,ps[i]?=some p->vs[i]?=some v->RP w B af ρ p v):
  RA w B af ρ' (wF g ps) (if h:vs.toArray.size=1 then vs.toArray[0]else .tuple vs.toArray):=by
 have cq:ps.length≠1->RA w B af ρ' (.cq (ps.map fun p=>(p.1,p.2.map (Lf.drop g)))) (if h:vs.toArray.size=1 then vs.toArray[0]else .tuple vs.toArray):=by
  intro hn
  rw[dif_neg (by simpa [hl]using hn)]
  refine⟨vs.toArray,rfl,by simpa using hl,fun j p hp=>?_⟩
  rw[List.getElem?_map]at hp
  cases hq:ps[j]? with
  | none=>rw[hq]at hp;cases hp
  | some q=>
   rw[hq]at hp
   injection hp with hp
   subst hp
   have hj:j<vs.length:=by rw[hl];exact(List.getElem?_eq_some_iff.1 hq).1
   exact⟨vs[j],by simp[hj],(h j q vs[j] hq (List.getElem?_eq_getElem hj)).dF aK⟩
 unfold Proofs.YtinbifpbkcbnkaaGreat.wF
 split
 ·rename_i x
  match vs,hl,h with
  | [v],_,h=>
   have:=h 0 _ v rfl rfl
   obtain⟨u,hu,hr⟩:=this.2 0 x rfl
   have:v=u:=by simpa using hu
   subst this
   exact hr.dF aK
 ·rename_i cs
  match vs,hl,h with
  | [v],_,h=>exact RP.dF aK (p:=(true,cs)) (h 0 _ v rfl rfl)
 ·trivial
 ·rename_i h1 h2 h3
  refine cq fun e=>?_
  obtain⟨⟨b,cs⟩,rfl⟩:=List.length_eq_one_iff.1 e
  cases b with
  | true=>exact h2 cs rfl
  | false=>exact h3 cs rfl
theorem alc{f:Nat}{fn:Func}{code:Code}(hf:P.funcs[f]?=some fn)(hb:fn.body=some code)(hN:fn.ntmps=M)(hM:M<=20000)(uB:(fn.name == "runtime.NumGoroutine")=false)(hg:20000<=g/\g<60000)(bI:fO P Φ):
  enters P f/\qN P f (Xy P M g Φ code fn.results):=by
 refine⟨⟨fn,hf,uB,by rw[hb];rfl⟩,fun X N σ xs k r h=>?_⟩
 have h:Eo P M g Φ code fn.results N σ xs k=some r:=h
 unfold Eo at h
 cases hl:Nat.ble xs.length M with
 | false=>rw[hl]at h;cases h
 | true=>
  rw[hl,cond_true]at h
  have fe:=Nat.le_of_ble_eq_true hl
  obtain⟨e,τ,h1,h2⟩:=ala bI _ _ _ h
  have h3:(e = .normal\/e = .ret)/\yS P g fn.results τ k=some r:=by
   split at h1
   ·rename_i he;exact⟨.inl (wA he),h1⟩
   ·rename_i he;exact⟨.inr (wA he),h1⟩
   ·cases h1
  obtain⟨hex,h3⟩:=h3
  obtain⟨ys,ps,hy,gF,hk,hd⟩:=alb h3
  refine⟨_,_,hk,fun X' k'=>?_,fun w0 af ρ a w bZ hR cT hv=>?_⟩
  ·show Eo P M g Φ code fn.results N σ xs k'=_
   unfold Eo
   rw[hl,cond_true,h2]
   rcases hex with rfl | rfl
   ·exact hd X' k'
   ·exact hd X' k'
  ·let us:=a.tmps.toList
   let W:Wd:=w0.pin g (some (.bZ us)) hg.1
   let tN:=bG ρ g (.bZ us)
   have aK:∀ r,r≠g->tN r=ρ r:=fun r hr=>cm _ _ _ hr
   have eo:∀ j,us.getD j undef=a.tmps.getD j undef:=fun j=>by
    show a.tmps.toList.getD j undef=_
    rw[List.getD_eq_getElem?_getD,Array.getElem?_toList,Array.getD_eq_getD_getElem?]
   have hle:bZ.size<=M:=by rw[cT];exact fe
   have nY:Rl W M af tN (Xx g N σ xs) { tmps:=bZ++Array.replicate (fn.ntmps-bZ.size) undef,defers:=[] } w:=by
    refine⟨⟨hR.below.os,hR.below.tape,hR.below.output,hR.below.size,hR.below.block⟩,hR.cH,fun r x hx=>?_,fun j=>?_,by simp[hN];omega,rfl,fun r l hr=>?_,fun r hr=>?_⟩
    ·have hx:bG (σ.drop g).m g (some (.gh ((List.range N).map fun j=>(σ.t j).drop g))) r=some x:=hx
     by_cases oa:r=g
     ·subst oa
      rw[bK]at hx
      injection hx with hx
      subst hx
      refine .gh us _ (bK _ _ _) fun j x hj=>?_
      rw[List.getElem?_map]at hj
      cases hr:(List.range N)[j]? with
      | none=>rw[hr]at hj;cases hj
      | some j'=>
       rw[hr]at hj
       injection hj with hj
       obtain⟨bw,qu⟩:=List.getElem?_eq_some_iff.1 hr
       rw[List.getElem_range]at qu
       subst qu hj
       rw[eo]
       exact(hR.tmp j).dF aK
     ·rw[cm _ _ _ oa]at hx
      have hx:(bif Nat.beq r g then none else (σ.m r).map (aP.drop g))=some x:=hx
      cases hb:Nat.beq r g with
      | true=>rw[hb]at hx;cases hx
      | false=>
       rw[hb,cond_false]at hx
       cases hm:σ.m r with
       | none=>rw[hm]at hx;cases hx
       | some y=>
        rw[hm]at hx
        injection hx with hx
        subst hx
        exact(hR.root r y hm).dF aK oa
    ·show RA w w0.heap.size af tN (((xs.map (A.drop g))[j]?).getD .undef) _
     rw[List.Xz]
     by_cases hj:j<bZ.size
     ·have e1:(bZ++Array.replicate (fn.ntmps-bZ.size) undef).getD j undef=bZ.getD j undef:=by
       rw[Array.getD_eq_getD_getElem?,Array.getElem?_append_left hj,Array.getD_eq_getD_getElem?]
      show RA w w0.heap.size af tN _ ((bZ++Array.replicate (fn.ntmps-bZ.size) undef).getD j undef)
      rw[e1]
      exact(hv j).dF aK
     ·rw[List.getElem?_eq_none (by omega:xs.length<=j)]
      trivial
    ·have hr:(if r=g then some (Loc.bZ us)else w0.F r)=some l:=hr
     by_cases oa:r=g
     ·rw[if_pos oa]at hr
      injection hr with hr
      rw[oa,<-hr]
      exact bK _ _ _
     ·rw[if_neg oa]at hr
      rw[aK r oa]
      exact hR.fix r l hr
    ·show (if r=g then some (Loc.bZ us)else w0.F r)=none
     rw[if_neg (by omega)]
     rcases hr with hr | hr
     ·exact w0.low r (by omega)
     ·exact hR.eg r (.inr hr)
   refine calls_of_wp hf hb ?_
   refine wp_mono (I0 (w0:=W) bI code _ (fun e τ=>some (e,τ)) (h2 _ _) (fun p hp b hb=>by cases hb) _ w ⟨af,tN,nY⟩) fun e' a' w' he=>?_
   obtain⟨aj,ej,ax,ρ',aT⟩:=he
   injection ej with ej
   injection ej with k1 k2
   subst k1 k2
   have DA:ρ' g = .bZ us:=aT.fix g _ (if_pos rfl)
   let dW:=bG ρ' g ((w0.F g).getD (.ak 0 0))
   have rY:∀ r,r≠g->dW r=ρ' r:=fun r hr=>cm _ _ _ hr
   obtain⟨mQ,Qh,lG⟩:=HO (w0:=W) (N:=M) _ _ gF
   injection Qh with Qh
   subst Qh
   obtain⟨vs,aW,hlen,fK⟩:=lG ax ρ' a' w' aT
   have ald:(fn.results.mapM (tS a'.tmps)).run P w' = .ok vs.toArray w':=by
    rw[Array.mapM_eq_mapM_toList]
    simp[aW]
   have g8:results fn a'.tmps=(do let vs <-fn.results.mapM (tS a'.tmps);pure (if h:vs.size=1 then vs[0]else .tuple vs)):=by
    unfold results
    congr 1
   have hRf:Rl w0 N ax dW ⟨fun j=>((ys.map (A.drop g))[j]?).getD .undef,(aj.drop g).m⟩ a w':=by
    refine⟨⟨aT.below.os,aT.below.tape,aT.below.output,aT.below.size,aT.below.block⟩,aT.cH,fun r x hx=>?_,fun j=>?_,hR.size,hR.defers,fun r l hr=>?_,hR.eg⟩
    ·have hx:(bif Nat.beq r g then none else (aj.m r).map (aP.drop g))=some x:=hx
     cases hb:Nat.beq r g with
     | true=>rw[hb]at hx;cases hx
     | false=>
      have oa:r≠g:=by rintro rfl;simp at hb
      rw[hb,cond_false]at hx
      cases hm:aj.m r with
      | none=>rw[hm]at hx;cases hx
      | some y=>
       rw[hm]at hx
       injection hx with hx
       subst hx
       exact(aT.root r y hm).dF rY oa
    ·show RA w' w0.heap.size ax dW (((ys.map (A.drop g))[j]?).getD .undef) _
     rw[List.Xz]
     cases hyj:ys[j]? with
     | none=>trivial
     | some y=>
      have dm:=aT.root g _ hy
      generalize hz:aP.gh ys=z at dm
      cases dm with
      | ak=>cases hz
      | sl=>cases hz
      | mp=>cases hz
      | gh UQ xs' tV hx3=>
       injection hz with hz
       subst hz
       rw[DA]at tV
       injection tV with tV
       subst tV
       have:=hx3 j y hyj
       rw[eo]at this
       exact this.dF rY
    ·by_cases oa:r=g
     ·subst oa
      show bG ρ' r ((w0.F r).getD (.ak 0 0)) r=l
      rw[bK,hr]
      rfl
     ·rw[rY r oa]
      exact aT.fix r l ((if_neg oa).trans hr)
   have fin:a'.defers=[]/\∃ v,(results fn a'.tmps).run P w' = .ok v w'/\∃ El ax ρ',Ending.returned v=Ending.returned El/\Rl w0 N ax ρ' ⟨fun j=>((ys.map (A.drop g))[j]?).getD .undef,(aj.drop g).m⟩ a w'/\RA w' w0.heap.size ax ρ' (wF g mQ) El:=
    ⟨aT.defers,_,by rw[g8,Sem.run_bind,ald,Result.andThen_ok,Sem.run_pure],_,ax,dW,rfl,hRf,RP.wF rY hlen fK⟩
   rcases hex with rfl | rfl
   ·exact fin
   ·exact fin
end
end Go.Proofs.YtinbifpbkcbnkaaGreat
namespace Go.Proofs.YtinbifpbkcbnkaaGreat
open Go.RowKit
set_option linter.unusedVariables false
def oc:Nat:=1000000000
def stays(n:Nat):Bool:=Nat.ble 20000 (n % oc)
theorem ale:60000<=oc:=Nat.le_of_ble_eq_true rfl
def od(n:Nat):Nat:=bif stays n then n else n+oc
def wG(n:Nat):Option Nat:=bif stays n then some n else bif Nat.ble oc n && !stays (n-oc)then some (n-oc)else none
def kz:List Nat->List Nat
 | []=>[]
 | [r]=>[od r]
 | x :: y :: k=>x :: kz (y :: k)
def Lf.up:Lf->Lf
 | .v x=>.v x
 | .own k=>.own (kz k)
 | .dead=>.dead
def A.up:A->A
 | .undef=>.undef
 | .skip=>.skip
 | .lf x=>.lf x.up
 | .agg cs=>.agg (cs.map Lf.up)
 | .cq xs=>.cq (xs.map fun p=>(p.1,p.2.map Lf.up))
 | .ptr k=>.ptr (kz k)
 | .aC r j=>.aC (od r) j
 | .gz cs=>.gz cs
 | .kN f cs=>.kN f cs
 | .pk r n=>.pk (od r) n
 | .view k s i j=>.view (kz k) s i j
 | .fn f cap=>.fn f (cap.map fun p=>(od p.1,p.2))
def aP.up:aP->aP
 | .ak cs=>.ak (cs.map Lf.up)
 | .sl y=>.sl y
 | .mp l=>.mp l
 | .gh xs=>.gh (xs.map A.up)
def S.up(σ:S):S:=⟨fun k=>(σ.t k).up,fun n=>match wG n with
 | some r=>(σ.m r).map aP.up
 | none=>none⟩
def XA(c:qM):qM:=⟨fun X N σ xs k=>c.run X N σ.up (xs.map A.up) fun aj y=>k aj.up y.up⟩
section
variable {P:Program} {w w':World} {w0:Wd} {B N:Nat} {af ax:bq} {ρ ρ':Nat->Loc} {σ:S} {a:Act} {X:Type}
theorem alf(r:Nat):wG (od r)=some r:=by
 unfold wG od
 cases h:stays r with
 | true=>simp only[cond_true,h]
 | false=>
  have h2:stays (r+oc)=false:=by
   unfold stays at h ⊢
   rw[Nat.add_mod_right]
   exact h
  have h3:Nat.ble oc (r+oc)=true:=Nat.ble_eq_true_of_le (Nat.le_add_left _ _)
  have h4:r+oc-oc=r:=Nat.add_sub_cancel r oc
  rw[cond_false,h2,cond_false,h3,h4,h]
  rfl
theorem alg{n r:Nat}(h:wG n=some r):n=od r:=by
 unfold wG at h
 cases hs:stays n with
 | true=>
  rw[hs,cond_true]at h
  injection h with h
  subst h
  simp[od,hs]
 | false=>
  rw[hs,cond_false]at h
  cases hc:(Nat.ble oc n && !stays (n-oc))with
  | false=>rw[hc]at h;cases h
  | true=>
   rw[hc,cond_true]at h
   have h:=Option.some.inj h
   rw[Bool.and_eq_true]at hc
   have h1:=Nat.le_of_ble_eq_true hc.1
   have h2:stays r=false:=by rw[<-h];simpa using hc.2
   simp only[od,h2,cond_false]
   omega
def lg(af:bq):bq:=fun b=>(af b).map kz
def sC(ρ:Nat->Loc):Nat->Loc:=fun n=>match wG n with
 | some r=>ρ r
 | none=>ρ n
theorem yT(r:Nat):sC ρ (od r)=ρ r:=by unfold sC;rw[alf]
theorem alh{k:List Nat}(h:k≠[]):kz k≠[]:=by
 match k with
 | []=>exact absurd rfl h
 | [r]=>simp[kz]
 | x :: y :: k=>simp[kz]
theorem yU{x:Nat}{k:List Nat}(h:k≠[]):kz (x :: k)=x :: kz k:=by
 match k with
 | []=>exact absurd rfl h
 | y :: k=>rfl
theorem XB(x y:Nat)(k:List Nat):∃ y' k',kz (x :: y :: k)=x :: y' :: k':=by
 rw[yU (by simp)]
 match k with
 | []=>exact⟨_,_,rfl⟩
 | z :: k=>exact⟨y,_,rfl⟩
theorem Qi:∀ (k:List Nat) (ad:Addr),addrAt w af ρ k=some ad->addrAt w (lg af) (sC ρ) (kz k)=some ad
 | [],_,h=>by simp[addrAt]at h
 | [_],_,h=>by simp[addrAt]at h
 | [_,_],_,h=>by simp[addrAt]at h
 | [_,_,_],_,h=>by simp[addrAt]at h
 | [j,i,s,r],ad,h=>by
  simp only[addrAt]at h
  simp only[kz,addrAt,yT]
  split at h
  ·rename_i b n c hr
   split at h
   ·rename_i hl
    rw[if_pos (by simp[lg,hl,kz])]
    exact h
   ·cases h
  ·cases h
 | j :: i :: s :: x :: y :: q,ad,h=>by
  simp only[addrAt]at h
  split at h
  ·rename_i b n c hr
   split at h
   ·rename_i hl
    cases ha:addrAt w af ρ (x :: y :: q)with
    | none=>rw[ha]at hr;cases hr
    | some mL=>
     have ih:=Qi (x :: y :: q) mL ha
     have e:lg af b=some (kz (x :: y :: q)):=by simp[lg,hl]
     rw[yU (by simp),yU (by simp),yU (by simp)]
     rw[ha]at hr
     obtain⟨y',q',hk⟩:=XB x y q
     rw[hk]at ih e ⊢
     simp only[addrAt,ih,hr,e,if_true]
     exact h
   ·cases h
  ·cases h
theorem XC{k:List Nat}{u:Value}(h:cc w af ρ k=some u):cc w (lg af) (sC ρ) (kz k)=some u:=by
 match k with
 | []=>simp[cc,addrAt]at h
 | [r]=>
  simp only[cc]at h
  simp only[kz,cc,yT]
  exact h
 | x :: y :: k=>
  simp only[cc]at h
  cases ha:addrAt w af ρ (x :: y :: k)with
  | none=>rw[ha]at h;cases h
  | some ad=>
   have:=Qi _ _ ha
   obtain⟨y',q',hk⟩:=XB x y k
   rw[hk]at this ⊢
   simp only[cc,this]
   rw[ha]at h
   exact h
theorem Qj{b:Nat}(h:af b=none):lg af b=none:=by simp[lg,h]
theorem RV.up(aV:∀ b k,af b=some k->k≠[]){k:List Nat}{x:V}{v:Value}(h:RV w B af k x v):RV w B (lg af) (kz k) x v:=by
 induction h with
 | int=>exact .int _ _ _
 | bool=>exact .bool _ _
 | str=>exact .str _ _
 | nil=>exact .nil _
 | cD=>exact .cD _ _ _
 | cK q t o A c ho=>exact .cK _ _ _ _ _ ho
 | cW q t o A c ho=>exact .cW _ _ _ _ _ ho
 | ah q t o qn l b off cap u ho hl hb h1 dP hc hr ih=>
  exact .ah _ _ _ _ _ _ _ _ u ho (Qj hl) hb h1 dP hc ih
 | own q t o qn l b cap cs u hl hh hs hn hm hc hr ih=>
  have hq:=aV b q hl
  refine .own _ _ _ _ _ _ _ cs u (by simp[lg,hl]) hh hs hn hm hc fun i h j x hx=>?_
  have:=ih i h j x hx
  rw[yU (by simp),yU (by simp),yU hq]at this
  exact this
theorem cL.up(aV:∀ b k,af b=some k->k≠[]){x:Lf}{u:Value}(h:cL w B af ρ x u):cL w B (lg af) (sC ρ) x.up u:=by
 cases x with
 | v x=>exact⟨h.1,RV.up aV h.2⟩
 | own k=>exact⟨h.1,XC h.2⟩
 | dead=>trivial
theorem cX.up(aV:∀ b k,af b=some k->k≠[]){cs:List Lf}{us:Array Value}(h:cX w B af ρ cs us):cX w B (lg af) (sC ρ) (cs.map Lf.up) us:=by
 refine⟨by rw[List.length_map];exact h.1,fun j x hx=>?_⟩
 rw[List.getElem?_map]at hx
 cases hz:cs[j]? with
 | none=>rw[hz]at hx;cases hx
 | some z=>
  rw[hz]at hx
  injection hx with hx
  subst hx
  obtain⟨u,h1,h2⟩:=h.2 j z hz
  exact⟨u,h1,h2.up aV⟩
theorem RP.up(aV:∀ b k,af b=some k->k≠[]){p:Bool×List Lf}{u:Value}(h:RP w B af ρ p u):RP w B (lg af) (sC ρ) (p.1,p.2.map Lf.up) u:=by
 obtain⟨b,cs⟩:=p
 cases b with
 | true=>
  obtain⟨us,rfl,h⟩:=h
  exact⟨us,rfl,cX.up aV h⟩
 | false=>exact cX.up aV h
theorem RA.up(aV:∀ b k,af b=some k->k≠[]){x:A}{u:Value}(h:RA w B af ρ x u):RA w B (lg af) (sC ρ) x.up u:=by
 cases x with
 | undef=>trivial
 | skip=>exact h
 | lf x=>exact cL.up aV h
 | agg cs=>exact RP.up aV (p:=(true,cs)) h
 | cq xs=>
  obtain⟨us,rfl,h1,h2⟩:=h
  refine⟨us,rfl,by rw[List.length_map];exact h1,fun j p hp=>?_⟩
  rw[List.getElem?_map]at hp
  cases hz:xs[j]? with
  | none=>rw[hz]at hp;cases hp
  | some z=>
   rw[hz]at hp
   injection hp with hp
   subst hp
   obtain⟨v,h3,h4⟩:=h2 j z hz
   exact⟨v,h3,h4.up aV⟩
 | ptr k=>
  obtain⟨ad,rfl,h⟩:=h
  exact⟨ad,rfl,Qi _ _ h⟩
 | aC r j=>
  obtain⟨b,off,h1,h2⟩:=h
  exact⟨b,off,(yT r).trans h1,h2⟩
 | gz cs=>
  obtain⟨b,off,g1,g2,g3,g4⟩:=h
  refine⟨b,off,g1,g2,Qj g3,fun j x hx=>?_⟩
  obtain⟨f1,v,f2,f3⟩:=g4 j x hx
  exact⟨f1,v,f2,RV.up aV f3⟩
 | kN f cs=>
  obtain⟨pv,e0,h⟩:=h
  refine⟨pv,e0,?_⟩
  obtain⟨b,off,g1,g2,g3,g4⟩:=h
  refine⟨b,off,g1,g2,Qj g3,fun j x hx=>?_⟩
  obtain⟨f1,v,f2,f3⟩:=g4 j x hx
  exact⟨f1,v,f2,RV.up aV f3⟩
 | pk r n=>
  obtain⟨b,h1,h2⟩:=h
  exact⟨b,(yT r).trans h1,h2⟩
 | view k s i j=>
  obtain⟨A,n,c,h1,h2⟩:=h
  exact⟨A,n,c,XC h1,h2⟩
 | fn f cap=>
  obtain⟨vs,rfl,h1,h2⟩:=h
  refine⟨vs,rfl,by rw[List.length_map];exact h1,fun j p hp=>?_⟩
  rw[List.getElem?_map]at hp
  cases hz:cap[j]? with
  | none=>rw[hz]at hp;cases hp
  | some z=>
   rw[hz]at hp
   injection hp with hp
   subst hp
   obtain⟨b,off,h3,h4⟩:=h2 j z hz
   exact⟨b,off,(yT _).trans h3,h4⟩
theorem dK.up(aV:∀ b k,af b=some k->k≠[]){r:Nat}{x:aP}(h:dK w B af ρ r x):dK w B (lg af) (sC ρ) (od r) x.up:=by
 have aK:=yT (ρ:=ρ) r
 have hl:∀ {b},af b=some [r]->lg af b=some [od r]:=fun h=>by simp[lg,h,kz]
 cases h with
 | ak b off cells e cs us h1 h2 hh hs hc=>
  refine .ak b off cells e _ us (aK.trans h1) (hl h2) hh (by rw[List.length_map];exact hs) fun j x hx=>?_
  rw[List.getElem?_map]at hx
  cases hz:cs[j]? with
  | none=>rw[hz]at hx;cases hx
  | some z=>
   rw[hz]at hx
   injection hx with hx
   subst hx
   exact⟨(hc j z hz).1,(hc j z hz).2.up aV⟩
 | sl v y h1 h2=>exact .sl v y (aK.trans h1) (RV.up aV h2)
 | mp b c es l h1 h2 hh he=>exact .mp b c es l (aK.trans h1) (hl h2) hh he
 | gh us xs h1 hx=>
  refine .gh us _ (aK.trans h1) fun j x hj=>?_
  rw[List.getElem?_map]at hj
  cases hz:xs[j]? with
  | none=>rw[hz]at hj;cases hj
  | some z=>
   rw[hz]at hj
   injection hj with hj
   subst hj
   exact RA.up aV (hx j z hz)
theorem Rl.up(h:Rl w0 N af ρ σ a w):Rl w0 N (lg af) (sC ρ) σ.up a w:=by
 have aV:∀ b k,af b=some k->k≠[]:=fun b k hk=>(h.cH b k hk).2.2
 refine⟨h.below,fun b k hk=>?_,fun n x hx=>?_,fun k=>RA.up aV (h.tmp k),h.size,h.defers,fun r l hr=>?_,h.eg⟩
 ·unfold lg at hk
  cases hl:af b with
  | none=>rw[hl]at hk;cases hk
  | some q=>
   rw[hl]at hk
   injection hk with hk
   obtain⟨h1,h2,h3⟩:=h.cH b q hl
   exact⟨h1,h2,by rw[<-hk];exact alh h3⟩
 ·have hx:(match wG n with | some r=>(σ.m r).map aP.up | none=>none)=some x:=hx
  cases hd:wG n with
  | none=>rw[hd]at hx;cases hx
  | some r=>
   rw[hd]at hx
   have hx:(σ.m r).map aP.up=some x:=hx
   cases hm:σ.m r with
   | none=>rw[hm]at hx;cases hx
   | some y=>
    rw[hm]at hx
    injection hx with hx
    subst hx
    rw[alg hd]
    exact(h.root r y hm).up aV
 ·have hs:stays r=true:=by
   have h1:20000<=r:=Nat.le_of_not_lt fun bw=>by rw[w0.low r bw]at hr;cases hr
   have h2:r<60000:=Nat.lt_of_not_le fun hle=>by rw[h.eg r (.inr hle)]at hr;cases hr
   unfold stays
   rw[Nat.mod_eq_of_lt (Nat.lt_of_lt_of_le h2 ale)]
   exact Nat.ble_eq_true_of_le h1
  have hu:od r=r:=by simp[od,hs]
  have:=yT (ρ:=ρ) r
  rw[hu]at this
  rw[this]
  exact h.fix r l hr
theorem ali{f:Nat}{c:qM}(h:qN P f c):qN P f (XA c):=by
 intro hi X N σ xs k r hr
 obtain⟨aj,y,h1,h2,h3⟩:=h X N σ.up (xs.map A.up) _ r hr
 refine⟨aj.up,y.up,h1,fun X' k'=>h2 X' _,fun w0 af ρ a w bZ hR hs hv=>?_⟩
 have aV:∀ b k,af b=some k->k≠[]:=fun b k hk=>(hR.cH b k hk).2.2
 refine(h3 w0 _ _ a w bZ hR.up (by rw[List.length_map];exact hs) fun i=>?_).mono fun e w' hp=>?_
 ·rw[List.getElem?_map]
  have:=hv i
  cases hx:xs[i]? with
  | none=>trivial
  | some x=>
   rw[hx]at this
   exact RA.up aV this
 ·obtain⟨v,ax,ρ',he,aT,hy⟩:=hp
  exact⟨v,_,_,he,aT.up,RA.up (fun b k hk=>(aT.cH b k hk).2.2) hy⟩
end
end Go.Proofs.YtinbifpbkcbnkaaGreat
namespace Go.Proofs.YtinbifpbkcbnkaaGreat
open Go.RowKit
set_option linter.unusedVariables false
def au:Nat:=4611686018427387904
def bC(c:Code)(id:Nat):Code:=match (occs c).lookup id with
 | some (.loop b)=>b
 | _=>.skip
def bD(fn:Func):Code:=fn.body.getD .skip
def Er(l:List (Nat×qO)):dG:=fun f=>l.lookup f
def Es(P:Program):List (Nat×qO)->Prop
 | []=>True
 | (f,c) :: l=>(enters P f/\V7 P f c)/\Es P l
theorem Et{P:Program}:∀ (l:List (Nat×qO)),Es P l->fO P (Er l)
 | [],_=>fun f c h=>by cases h
 | (f',c') :: l,⟨h1,h2⟩=>fun f c h=>by
  have h':List.lookup f ((f',c') :: l)=some c:=h
  clear h
  rw[List.lookup_cons]at h'
  split at h'
  ·rename_i he
   have he:f=f':=by simpa using he
   subst he
   injection h' with h'
   subst h'
   exact h1
  ·exact Et l h2 f c h'
def yV(l:List (Nat×bB)):me:=fun id=>l.lookup id
def XD(P:Program)(N:Nat)(code:Code):List (Nat×bB)->Prop
 | []=>True
 | (id,b) :: l=>(∃ c,(occs code).lookup id=some c/\bE P N (.block id c) b)/\XD P N code l
def ids(l:List (Nat×Code)):Bool:=(l.map (·.1)).all fun i=>Nat.beq ((l.filter fun p=>Nat.beq p.1 i).length) 1
theorem XE:∀ (l:List (Nat×Code)) (p:Nat×Code),(∀ q∈l,q.1=p.1->q=p)->p∈l->l.lookup p.1=some p.2
 | [],p,_,h=>by cases h
 | q :: l,p,hu,h=>by
  rw[List.lookup_cons]
  by_cases he:p.1=q.1
  ·have:q=p:=hu q (.head _) he.symm
   subst this
   simp
  ·have hb:(p.1==q.1)=false:=by simpa using he
   rw[hb]
   rcases List.mem_cons.1 h with rfl | h
   ·exact absurd rfl he
   ·exact XE l p (fun q hq=>hu q (.tail _ hq)) h
theorem alj{l:List (Nat×Code)}(h:ids l=true){p q:Nat×Code}(hp:p∈l)(hq:q∈l)(he:q.1=p.1):q=p:=by
 have h1:=List.all_eq_true.1 h p.1 (List.mem_map_of_mem hp)
 have h1:=Nat.eq_of_beq_eq_true h1
 have HG:p∈l.filter fun r=>Nat.beq r.1 p.1:=List.mem_filter.2 ⟨hp,by simp⟩
 have jW:q∈l.filter fun r=>Nat.beq r.1 p.1:=List.mem_filter.2 ⟨hq,by simp[he]⟩
 obtain⟨z,hz⟩:=List.length_eq_one_iff.1 h1
 rw[hz]at HG jW
 rw[List.mem_singleton.1 HG,List.mem_singleton.1 jW]
theorem bO{P:Program}{N:Nat}{code:Code}(hi:ids (occs code)=true):∀ (l:List (Nat×bB)),XD P N code l->uh P N (yV l) (occs code)
 | [],_=>fun p hp b h=>by cases h
 | (id,b') :: l,⟨⟨c,hc,h1⟩,h2⟩=>fun p hp b h=>by
  have h':List.lookup p.1 ((id,b') :: l)=some b:=h
  clear h
  rw[List.lookup_cons]at h'
  split at h'
  ·rename_i he
   have he:p.1=id:=by simpa using he
   injection h' with h'
   subst h'
   have:=XE (occs code) p (fun q hq e=>alj hi hp hq e) hp
   rw[he,hc]at this
   injection this with this
   rw[he,<-this]
   exact h1
  ·exact bO hi l h2 p hp b h'
theorem aD{P:Program}{N:Nat}{l:List (Nat×Code)}:uh P N (yV []) l:=fun p hp b h=>by cases h
def ci(P:Program)(fn:Func)(uD:Nat)(l:List (Nat×qO)):qM:=Xy P fn.ntmps (59000+uD) (Er l) (bD fn) fn.results
theorem XF{P:Program}{f:Nat}{fn:Func}(uD:Nat)(l:List (Nat×qO))(hf:P.funcs[f]?=some fn)(hl:Es P l)(hb:fn.body=some (bD fn):=by kernel_rfl)(hN:Nat.ble fn.ntmps 20000=true:=by kernel_rfl)(hv:Nat.ble uD 900=true:=by kernel_rfl)(uB:(fn.name == "runtime.NumGoroutine")=false:=by kernel_rfl):enters P f/\qN P f (ci P fn uD l):=
 alc hf hb rfl (Nat.le_of_ble_eq_true hN) uB ⟨by omega,by have:=Nat.le_of_ble_eq_true hv;omega⟩ (Et l hl)
def cj(P:Program)(fn:Func)(uD:Nat)(l:List (Nat×qO)):qM:=XA (ci P fn uD l)
theorem alk{P:Program}{f:Nat}{fn:Func}{uD:Nat}{l:List (Nat×qO)}(h:enters P f/\qN P f (ci P fn uD l)):enters P f/\qN P f (cj P fn uD l):=⟨h.1,ali h.2⟩
theorem aH{P:Program}{f:Nat}{fn:Func}{ai:List (Bool×TC)}{ro:List (Bool×TC×Nat)}{F:m5 ai->Option (nT ro)}(N:Nat)(l:List (Nat×qO))(b:List (Nat×bB))(hf:P.funcs[f]?=some fn)(hl:Es P l)(jP:uh P N (yV b) (occs (bD fn)))(hF:∀ x,I9 P N (Er l) (yV b) (bD fn) fn.results (gR ai x) (AT ro)=F x)(hb:fn.body=some (bD fn):=by kernel_rfl)(hN:fn.ntmps=N:=by kernel_rfl)(uB:(fn.name == "runtime.NumGoroutine")=false:=by kernel_rfl)(Em:Nat.ble ai.length N=true:=by kernel_rfl)(dm:wD ro=true:=by kernel_rfl):enters P f/\aF P f (aG ai ro F):=ak3 hf hb hN uB Em dm (Et l hl) jP hF
theorem bH{P:Program}{id:Nat}{body:Code}{τ:aI}{mZ:List (Nat×aI)}{F:τ.St->Option (τ.St⊕wB mZ)}{fuel:τ.St->Nat}(N:Nat)(l:List (Nat×qO))(b:List (Nat×bB))(hl:Es P l)(jP:uh P N (yV b) (occs body))(hF:∀ x,I8 P N (Er l) (yV b) body τ mZ x=F x):bE P N (.block id (.loop body)) (bF id τ mZ F fuel):=akY (Et l hl) jP hF
end Go.Proofs.YtinbifpbkcbnkaaGreat
