/-
  Running the program over pure contents, and that it follows (part Z). Nothing here is a claim.
-/
import Derived.Test.YtmffpkippmkjbaaGreatDoorV4
set_option linter.unusedSimpArgs false
namespace Go.Proofs.YtmffpkippmkjbaaGreatDoor
open Go.RowKit
set_option linter.unusedVariables false
section
variable {P:Program} {w w':World} {w0:Wd} {B N:Nat} {lab aj:aQ} {ρ ρ':Nat->Loc} {σ:S} {a:Act} {X:Type} {d e:Nat} {r:X} {o:Oper} {Φ:cY} {x:ax} {u:A}
def dV(e:Nat)(σ:S):Prop:=σ.drop e=σ
theorem dV.t_(h:dV e σ)(k:Nat):(σ.t k).drop e=σ.t k:=congrFun (congrArg S.t h) k
theorem dV.m_(h:dV e σ)(r:Nat):(bif Nat.beq r e then none else (σ.m r).map (ax.drop e))=σ.m r:=congrFun (congrArg S.m h) r
theorem dV.mX(h:dV e σ)(y:Operand):(ak σ y).drop e=ak σ y:=by
 cases y with
 | tmp t=>exact h.t_ t
 | const v=>
  show (yz v).drop e=yz v
  unfold yz
  split <;>rfl
 | global g=>rfl
 | func f=>rfl
def k7(e n:Nat):Bool:=Nat.beq n e
theorem Ge(e:Nat):k7 e e=true:=Nat.beq_refl e
theorem L9{k:List Nat}(h:aM e k=false):dy (k7 e) k=true:=by
 unfold dy
 unfold aM at h
 split
 ·rename_i r hr
  rw[hr]at h
  unfold k7
  cases hb:Nat.beq r e with
  | false=>rfl
  | true=>
   have:=Nat.eq_of_beq_eq_true hb
   subst this
   simp at h
 ·rfl
theorem Lf.zo{l:Lf}(h:l.drop e=l):l.nr (k7 e)=true:=by
 cases l with
 | own k=>
  have h:(bif aM e k then Lf.dead else .own k) = .own k:=h
  cases hl:aM e k with
  | true=>rw[hl]at h;cases h
  | false=>exact L9 hl
 | v z=>rfl
 | dead=>rfl
theorem fG.of_map{cs:List Lf}(h:cs.map (Lf.drop e)=cs):∀ c∈cs,c.drop e=c:=by
 induction cs with
 | nil=>intro c hc;cases hc
 | cons c cs ih=>
  rw[List.map_cons]at h
  injection h with h1 h2
  intro c' hc
  rcases List.mem_cons.1 hc with rfl | hc
  ·exact h1
  ·exact ih h2 c' hc
theorem fG.Sh{cs:List Lf}(h:∀ c∈cs,c.drop e=c):cs.map (Lf.drop e)=cs:=by
 rw[List.map_congr_left h,List.map_id']
theorem A.zo{y:A}(h:y.drop e=y):y.nr (k7 e)=true:=by
 cases y with
 | lf l=>injection h with h;exact Lf.zo h
 | agg cs=>
  injection h with h
  exact List.all_eq_true.2 fun c hc=>Lf.zo (fG.of_map h c hc)
 | bJ xs=>
  injection h with h
  refine List.all_eq_true.2 fun q hq=>List.all_eq_true.2 fun c hc=>Lf.zo ?_
  have h2:∀ q∈xs,(q.1,q.2.map (Lf.drop e))=q:=by
   clear hq
   induction xs with
   | nil=>intro q hq;cases hq
   | cons z zs ih=>
    rw[List.map_cons]at h
    injection h with h1 h2
    intro q hq
    rcases List.mem_cons.1 hq with rfl | hq
    ·exact h1
    ·exact ih h2 q hq
  exact fG.of_map (congrArg Prod.snd (h2 q hq)) c hc
 | ptr k=>
  have h:(bif aM e k then A.undef else .ptr k) = .ptr k:=h
  cases hl:aM e k with
  | true=>rw[hl]at h;cases h
  | false=>exact L9 hl
 | view k s i j=>
  have h:(bif aM e k then A.undef else .view k s i j) = .view k s i j:=h
  cases hl:aM e k with
  | true=>rw[hl]at h;cases h
  | false=>exact L9 hl
 | az r j=>
  have h:(bif Nat.beq r e then A.undef else .az r j) = .az r j:=h
  cases hl:Nat.beq r e with
  | true=>rw[hl]at h;cases h
  | false=>show (!k7 e r)=true;unfold k7;rw[hl];rfl
 | pk r j=>
  have h:(bif Nat.beq r e then A.undef else .pk r j) = .pk r j:=h
  cases hl:Nat.beq r e with
  | true=>rw[hl]at h;cases h
  | false=>show (!k7 e r)=true;unfold k7;rw[hl];rfl
 | fn f cap=>
  have h:(bif cap.any (fun p=>Nat.beq p.1 e)then A.undef else .fn f cap) = .fn f cap:=h
  cases hl:cap.any (fun p=>Nat.beq p.1 e)with
  | true=>rw[hl]at h;cases h
  | false=>
   refine List.all_eq_true.2 fun q hq=>?_
   have:=List.any_eq_false.1 hl q hq
   show (!k7 e q.1)=true
   unfold k7
   cases hb:Nat.beq q.1 e with
   | false=>rfl
   | true=>exact absurd hb this
 | _=>rfl
theorem Lf.pQ(l:Lf):(l.drop e).drop e=l.drop e:=by
 cases l with
 | own k=>
  show Lf.drop e (bif aM e k then Lf.dead else .own k)=(bif aM e k then Lf.dead else .own k)
  cases hl:aM e k with
  | true=>rfl
  | false=>
   show (bif aM e k then Lf.dead else .own k)=_
   rw[hl,cond_false]
 | _=>rfl
theorem fG.pQ(cs:List Lf):(cs.map (Lf.drop e)).map (Lf.drop e)=cs.map (Lf.drop e):=by
 rw[List.map_map]
 exact List.map_congr_left fun c _=>Lf.pQ c
theorem A.pQ(y:A):(y.drop e).drop e=y.drop e:=by
 cases y with
 | lf l=>exact congrArg A.lf (Lf.pQ l)
 | agg cs=>exact congrArg A.agg (fG.pQ cs)
 | bJ xs=>
  show A.bJ ((xs.map fun p=>(p.1,p.2.map (Lf.drop e))).map fun p=>(p.1,p.2.map (Lf.drop e)))=A.bJ (xs.map fun p=>(p.1,p.2.map (Lf.drop e)))
  rw[List.map_map]
  refine congrArg A.bJ (List.map_congr_left fun p _=>?_)
  exact congrArg (Prod.mk p.1) (fG.pQ p.2)
 | ptr k=>
  show A.drop e (bif aM e k then A.undef else .ptr k)=(bif aM e k then A.undef else .ptr k)
  cases hl:aM e k with
  | true=>rfl
  | false=>show (bif aM e k then A.undef else .ptr k)=_;rw[hl,cond_false]
 | view k s i j=>
  show A.drop e (bif aM e k then A.undef else .view k s i j)=(bif aM e k then A.undef else .view k s i j)
  cases hl:aM e k with
  | true=>rfl
  | false=>show (bif aM e k then A.undef else .view k s i j)=_;rw[hl,cond_false]
 | az r j=>
  show A.drop e (bif Nat.beq r e then A.undef else .az r j)=(bif Nat.beq r e then A.undef else .az r j)
  cases hl:Nat.beq r e with
  | true=>rfl
  | false=>show (bif Nat.beq r e then A.undef else .az r j)=_;rw[hl,cond_false]
 | pk r j=>
  show A.drop e (bif Nat.beq r e then A.undef else .pk r j)=(bif Nat.beq r e then A.undef else .pk r j)
  cases hl:Nat.beq r e with
  | true=>rfl
  | false=>show (bif Nat.beq r e then A.undef else .pk r j)=_;rw[hl,cond_false]
 | fn f cap=>
  show A.drop e (bif cap.any (fun p=>Nat.beq p.1 e)then A.undef else .fn f cap)=(bif cap.any (fun p=>Nat.beq p.1 e)then A.undef else .fn f cap)
  cases hl:cap.any (fun p=>Nat.beq p.1 e)with
  | true=>rfl
  | false=>show (bif cap.any (fun p=>Nat.beq p.1 e)then A.undef else .fn f cap)=_;rw[hl,cond_false]
 | _=>rfl
theorem ax.pQ(y:ax):(y.drop e).drop e=y.drop e:=by
 cases y with
 | blk cs=>exact congrArg ax.blk (fG.pQ cs)
 | sl y=>rfl
 | mp l=>rfl
 | gh xs=>
  refine congrArg ax.gh ?_
  rw[List.map_map]
  exact List.map_congr_left fun x _=>A.pQ x
theorem dV.drop(σ:S):dV e (σ.drop e):=by
 refine S.ext' (fun k=>A.pQ _) fun n=>?_
 show (bif Nat.beq n e then none else ((bif Nat.beq n e then none else (σ.m n).map (ax.drop e))).map (ax.drop e))=(bif Nat.beq n e then none else (σ.m n).map (ax.drop e))
 cases Nat.beq n e with
 | true=>rfl
 | false=>
  simp only[cond_false]
  cases σ.m n with
  | none=>rfl
  | some y=>simp only[Option.map_some,ax.pQ]
theorem dV.set(h:dV e σ){v:A}(hv:v.drop e=v)(d:Nat):dV e (σ.set d v):=by
 refine S.ext' (fun k=>?_) fun n=>h.m_ n
 show (aX σ.t d v k).drop e=aX σ.t d v k
 by_cases hk:k=d
 ·subst hk;rw[aZ,hv]
 ·rw[bB _ _ _ hk,h.t_]
theorem dV.put(h:dV e σ){v:A}(hv:v.drop e=v)(dst:Option Tmp):dV e (eo σ dst v):=by
 cases dst with
 | none=>exact h
 | some d=>exact h.set hv d
theorem dV.sl(h:dV e σ){c:Nat}(z:V)(hc:e≠c):dV e ((σ.drop c).root c (.sl z)):=by
 refine S.ext' (fun k=>?_) fun n=>?_
 ·show ((σ.t k).drop c).drop e=(σ.t k).drop c
  rw[A.lX,h.t_]
 ·show (bif Nat.beq n e then none else (((σ.drop c).root c (.sl z)).m n).map (ax.drop e))=((σ.drop c).root c (.sl z)).m n
  rw[LP]
  by_cases hn:n=c
  ·rw[if_pos hn,F4 (by rintro rfl;exact hc hn),cond_false];rfl
  ·rw[if_neg hn]
   have hm:=h.m_ n
   cases hb:Nat.beq n e with
   | true=>
    rw[hb,cond_true]at hm
    rw[<-hm];rfl
   | false=>
    rw[hb,cond_false]at hm
    rw[cond_false]
    cases hz:σ.m n with
    | none=>rfl
    | some y=>
     rw[hz]at hm
     injection hm with hm
     simp only[Option.map_some]
     rw[ax.lX,hm]
theorem dV.eV(hc:e<d):∀ (xs:List V) (c:Nat) (σ:S),d<=c->dV e σ->dV e (eV c σ xs)
 | [],c,σ,_,h=>h
 | x :: xs,c,σ,hd,h=>by
  simp only[Go.Proofs.YtmffpkippmkjbaaGreatDoor.eV]
  refine dV.eV hc xs (c+1) _ (by omega) ?_
  cases x.ah with
  | true=>exact h
  | false=>exact h.sl x (by omega)
theorem dV.gC(hc:e<d):∀ (ps:List Pt) (c:Nat) (σ:S),d<=c->dV e σ->dV e (gC c σ ps)
 | [],c,σ,_,h=>h
 | q :: ps,c,σ,hd,h=>dV.gC hc ps _ _ (by omega) (dV.eV hc q.2 c σ hd h)
/-! Values. -/
theorem dV.aeX(y:Operand):ak (σ.root e x) y=ak σ y:=by cases y <;>rfl
theorem dV.Si{l:Lf}(hl:l.nr (k7 e)=true)(k:V->Option X):fE (σ.root e x) l k=fE σ l k:=by
 cases l with
 | own q=>exact sB (Ge e) q k hl
 | v z=>rfl
 | dead=>rfl
theorem dV.val(h:dV e σ){op:Op}(eg:FM op=true)(k:A->Option X):bS P (σ.root e x) op k=bS P σ op k:=by
 have ho:∀ y,ak (σ.root e x) y=ak σ y:=dV.aeX
 have hn:∀ y,(ak σ y).nr (k7 e)=true:=fun y=>A.zo (h.mX y)
 cases op with
 | move y=>simp only[bS,ho]
 | assign y=>simp only[bS,ho]
 | unOp f t y=>simp only[bS,ho]
 | field s y f=>simp only[bS,ho]
 | fieldAddr s y f=>simp only[bS,ho]
 | index t y i=>simp only[bS,ho]
 | load t y=>
  simp only[bS,ho]
  have h1:=hn y
  generalize ak σ y=u at h1
  unfold gw
  split
  ·rfl
  ·split
   ·rename_i r j
    have hr:r≠e:=by
     rintro rfl
     have h1:(!k7 r r)=true:=h1
     rw[Ge]at h1
     cases h1
    have:(σ.root e x).m r=σ.m r:=bB _ _ _ hr
    rw[this]
   ·rfl
   ·rename_i j i s q
    have hk:dy (k7 e) (j :: i :: s :: q)=true:=h1
    cases q with
    | nil=>rfl
    | cons q0 q=>
     refine sB (Ge e) _ _ ?_
     simpa [dy,List.getLast?_cons_cons]using hk
   ·rfl
 | binOp f t y z yt=>
  simp only[bS,ho]
  refine FO fun l hl k=>dV.Si ?_ k
  have h1:=hn y
  rw[hl]at h1
  exact h1
 | call c=>
  obtain⟨callee,⟨args⟩,⟨cA⟩⟩:=c
  cases callee with
  | builtin b=>
   cases b <;>try (cases eg)
   match args,cA with
   | [y],[t]=>
    simp only[bS,ho]
    have h1:=hn y
    generalize ak σ y=u at h1
    unfold kr
    split
    ·exact dV.Si h1 _
    ·rfl
   | [],_=>rfl
   | [_],[]=>rfl
   | [_],_ :: _ :: _=>rfl
   | _ :: _ :: _,_=>rfl
  | _=>cases eg
 | _=>cases eg
theorem Ma{t:TypeId}{cs:List Lf}{v:A}(h:ic P t cs some=some v)(hc:∀ c∈cs,c.drop e=c):v.drop e=v:=by
 unfold ic at h
 split at h
 ·split at h
  ·split at h
   ·injection h with h;subst h;exact congrArg A.agg (fG.Sh hc)
   ·split at h
    ·injection h with h;subst h;exact congrArg A.lf (hc _ (.head _))
    ·cases h
   ·cases h
  ·cases h
 ·cases h
theorem aeY{op:BinOp}{t:TypeId}{y z:A}{v:A}(h:iY P σ op t y z some=some v):v.drop e=v:=by
 have fin:∀ (a b:A),(vK a fun a=>vK b fun b=>jE P t op a b fun z=>some (A.lf (.v z)))=some v->v.drop e=v:=by
  intro a b h
  obtain⟨_,h1,_⟩:=yP h
  obtain⟨_,h2,_⟩:=yP h1
  obtain⟨_,h3,_⟩:=Q7 h2
  injection h3 with h3
  subst h3
  rfl
 unfold iY at h
 split at h
 ·split at h
  ·rename_i cs ds xs ys _ _
   cases hb:(P.eqGuardType P.depth t || !isStr P t)with
   | true=>rw[hb]at h;cases h
   | false=>
    rw[hb,cond_false]at h
    split at h
    ·injection h with h;subst h;rfl
    ·cases h
  ·cases h
 ·split at h
  ·obtain⟨z,h1,hz⟩:=uB h
   clear hz
   split at h1
   ·injection h1 with h1;subst h1;rfl
   ·injection h1 with h1;subst h1;rfl
   ·rename_i l
    cases hb:rU l with
    | true=>rw[hb]at h1;cases h1
    | false=>rw[hb]at h1;injection h1 with h1;subst h1;rfl
   ·cases h1
  ·cases h
 ·exact fin _ _ h
theorem dV.res(h:dV e σ){op:Op}(eg:FM op=true){v:A}(hv:bS P σ op some=some v):v.drop e=v:=by
 cases op with
 | move y=>simp only[bS]at hv;injection hv with hv;subst hv;exact h.mX y
 | assign y=>simp only[bS]at hv;injection hv with hv;subst hv;exact h.mX y
 | unOp f t y=>
  simp only[bS]at hv
  obtain⟨_,h1,_⟩:=yP hv
  obtain⟨_,h2,_⟩:=Q8 h1
  injection h2 with h2
  subst h2
  rfl
 | field s y f=>
  simp only[bS]at hv
  have h1:=h.mX y
  generalize ak σ y=u at h1 hv
  unfold rQ at hv
  split at hv
  ·rename_i fd cs _
   injection h1 with h1
   have hc:=fG.of_map h1
   split at hv
   ·split at hv
    ·injection hv with hv
     subst hv
     exact congrArg A.agg (fG.Sh fun c hm=>hc c (List.mem_of_mem_drop (List.mem_of_mem_take hm)))
    ·cases hv
   ·split at hv
    ·rename_i z hz
     injection hv with hv
     subst hv
     exact congrArg A.lf (hc _ (List.mem_of_getElem? hz))
    ·cases hv
   ·cases hv
  ·cases hv
 | fieldAddr s y f=>
  simp only[bS]at hv
  have h1:=h.mX y
  generalize ak σ y=u at h1 hv
  unfold oX at hv
  split at hv
  ·cases hv
  ·split at hv
   ·split at hv
    ·rename_i r j
     injection hv with hv
     subst hv
     have h1:(bif Nat.beq r e then A.undef else .az r j) = .az r j:=h1
     cases hl:Nat.beq r e with
     | true=>rw[hl]at h1;cases h1
     | false=>show (bif Nat.beq r e then A.undef else _)=_;rw[hl,cond_false]
    ·injection hv with hv;subst hv;rfl
    ·rename_i j i s' q
     injection hv with hv
     subst hv
     have h1:(bif aM e (j :: i :: s' :: q)then A.undef else .ptr (j :: i :: s' :: q)) = .ptr (j :: i :: s' :: q):=h1
     cases hl:aM e (j :: i :: s' :: q)with
     | true=>rw[hl]at h1;cases h1
     | false=>
      have fY:∀ j',aM e (j' :: i :: s' :: q)=false:=by
       intro j'
       unfold aM at hl ⊢
       simpa [List.getLast?_cons_cons]using hl
      show (bif aM e _ then A.undef else _)=_
      rw[fY,cond_false]
    ·cases hv
   ·cases hv
 | index t y i=>
  simp only[bS]at hv
  unfold ua at hv
  split at hv
  ·split at hv
   ·split at hv
    ·injection hv with hv;subst hv;rfl
    ·cases hv
   ·cases hv
  ·cases hv
 | load t y=>
  simp only[bS]at hv
  have h1:=h.mX y
  generalize ak σ y=u at h1 hv
  unfold gw at hv
  split at hv
  ·cases hv
  ·split at hv
   ·rename_i r j
    split at hv
    ·rename_i cs cC
     have hm:=h.m_ r
     rw[cC]at hm
     have hc:cs.map (Lf.drop e)=cs:=by
      cases hb:Nat.beq r e with
      | true=>rw[hb]at hm;cases hm
      | false=>
       rw[hb]at hm
       injection hm with hm
       injection hm
     exact Ma hv fun c hm=>fG.of_map hc c (List.mem_of_mem_drop (List.mem_of_mem_take hm))
    ·cases hv
   ·refine Ma hv fun c hm=>?_
    obtain⟨z,_,rfl⟩:=List.mem_map.1 hm
    rfl
   ·rename_i j i s q
    obtain⟨y,h2,hg,_⟩:=oD _ _ hv
    have hq:∀ j',aM e (j' :: i :: s :: q)=false:=by
     have h1:(bif aM e (j :: i :: s :: q)then A.undef else .ptr (j :: i :: s :: q)) = .ptr (j :: i :: s :: q):=h1
     have hl:aM e (j :: i :: s :: q)=false:=by
      cases hl:aM e (j :: i :: s :: q)with
      | false=>rfl
      | true=>rw[hl]at h1;cases h1
     intro j'
     unfold aM at hl ⊢
     simpa [List.getLast?_cons_cons]using hl
    split at h2
    ·split at h2
     ·split at h2
      ·refine Ma h2 fun c hm=>?_
       obtain⟨n,hn⟩:=List.getElem?_of_mem hm
       rw[J6]at hn
       obtain⟨z,_,rfl⟩:=Option.map_eq_some_iff.1 hn
       cases z.ah with
       | true=>rfl
       | false=>
        show (bif aM e _ then Lf.dead else _)=_
        rw[hq]
        rfl
      ·cases h2
     ·cases h2
    ·cases h2
   ·cases hv
 | binOp f t y z yt=>exact aeY (by simpa only [bS]using hv)
 | call c=>
  obtain⟨callee,⟨args⟩,⟨cA⟩⟩:=c
  cases callee with
  | builtin b=>
   cases b <;>try (cases eg)
   match args,cA,hv with
   | [y],[t],hv=>
    simp only[bS]at hv
    unfold kr at hv
    split at hv
    ·obtain⟨_,h1,_⟩:=uB hv
     split at h1
     ·split at h1
      ·injection h1 with h1;subst h1;rfl
      ·cases h1
     ·split at h1
      ·injection h1 with h1;subst h1;rfl
      ·cases h1
     ·split at h1
      ·injection h1 with h1;subst h1;rfl
      ·cases h1
     ·cases h1
    ·cases hv
   | [],_,hv=>cases hv
   | [_],[],hv=>cases hv
   | [_],_ :: _ :: _,hv=>cases hv
   | _ :: _ :: _,_,hv=>cases hv
  | _=>cases eg
 | _=>cases eg
theorem aeZ{op:Op}(h:FM op=true):ek op=true:=by
 cases op with
 | call c=>
  obtain⟨callee,args,cA⟩:=c
  cases callee with
  | builtin b=>cases b <;>first | rfl | cases h
  | _=>cases h
 | _=>first | rfl | cases h
theorem ae0[Inhabited Wd](aU:ej P Φ){ops:Array Oper}{oj:Oper}{τ:S}(hx:k4 x)(hu:jV e u)(he:e<20000)(hb:Lw Φ oj=true)(hl:e ∉ oj.looksAt ops)(hd:oj.dst≠some e)(h:dV e σ)
  (dx:cJ P N Φ ops (bE e x u σ) oj some=some τ):∃ af,cJ P N Φ ops σ oj some=some af/\τ=bE e x u af/\dV e af:=by
 have nL:bE e x u σ=(σ.root e x).set e u:=by
  unfold bE
  rw[show σ.drop e=σ from h]
 have bz:∀ y∈oj.op.operands,ak (bE e x u σ) y=ak (σ.root e x) y:=fun y hy=>by
  rw[nL];exact B3 hl u hy
 have hw:en (bE e x u σ) ops oj=en σ ops oj:=by
  rw[nL]
  exact(sC (FT (σ:=σ.root e x) hl u)).trans rfl
 unfold cJ at dx ⊢
 rw[hw]at dx
 split at dx
 ·unfold Lw at hb
  rw[Bool.or_eq_true]at hb
  rcases hb with hb | hb
  ·have ec:∀ (k:A->Option S),bS P (bE e x u σ) oj.op k=bS P σ oj.op k:=fun k=>
    (yY (σ:=σ.root e x) (σ2:=bE e x u σ) oj.op (by rw[nL];rfl) bz k).trans (h.val hb k)
   have aL:∀ σ2:S,ct P N Φ σ2 oj some=bS P σ2 oj.op fun v=>fN N σ2 oj.dst v some:=by
    intro σ2
    unfold ct
    rw[aeZ hb,cond_true]
   rw[aL,ec]at dx
   obtain⟨v,h1,Ca,_⟩:=yW (w0:=default) (N:=N) dx
   obtain⟨h2,h3⟩:=iA h1
   injection h2 with h2
   have hv:=h.res hb (Ca.at_ (X:=A) some)
   refine⟨eo σ oj.dst v,?_,?_,h.put hv _⟩
   ·rw[aL]
    exact(Ca.at_ _).trans ((h3 σ).at_ _)
   ·rw[<-h2,LQ hd hv]
  ·split at hb
   ·rename_i f args cA ho
    split at hb
    ·rename_i c hc
     have aL:∀ σ2,ct P N Φ σ2 oj some=dz oj fun d=>rY N σ2 d c args.toList some:=by
      intro σ2
      unfold ct
      rw[show ek oj.op=false by rw[ho];rfl,cond_false]
      simp only[fS,ho,hc]
     rw[aL]at dx
     obtain⟨d,fj,dx⟩:=eG dx
     have pO:d≠e:=by rintro rfl;exact hd fj
     obtain⟨res,eU,h1,h2,h3⟩:=yQ (aU f _ hc).2 dx
     injection h2 with h2
     subst h2
     have eW:∀ y∈args.toList,(ak σ y).nr (k7 e)=true/\y ≠ .tmp e:=by
      intro y hy
      have dH:y∈oj.op.operands:=by
       rw[ho]
       simp only[Op.operands,Call.operands]
       simp only[Array.mem_append]
       first
        | exact .inr (by simpa using hy)
        | exact .inl (by simpa using hy)
      refine⟨A.zo (h.mX y),?_⟩
      rintro rfl
      exact hl (List.mem_append_left _ (List.mem_filterMap.2 ⟨.tmp e,by simpa using dH,rfl⟩))
     have Sj:∀ (X:Type) (k:List Pt->Option X),gT σ args.toList k=gT (bE e x u σ) args.toList k:=fun X k=>(LU (Ge e) _ k eW).symm
     unfold qE at h1 h3
     cases res with
     | one q=>
      simp only at h1 h3
      split at h1
      ·rename_i y hy
       injection h1 with h1
       refine⟨(eV (1000000000100000+1000*d) σ q.2).set d y,?_,?_,?_⟩
       ·rw[aL]
        unfold dz
        rw[fj]
        exact(h3 σ _ Sj (by rw[hy])).at_ _
       ·rw[<-h1,ze hx hu _ _ _ (by omega),uM pO (F8 hy (zg _ _ (by omega)))]
       ·exact(dV.eV (d:=20000) he _ _ _ (by omega) h).set (F8 hy (zg _ _ (by omega))) d
      ·cases h1
     | bJ ps=>
      simp only at h1 h3
      injection h1 with h1
      refine⟨(gC (1000000000100000+1000*d) σ ps).set d (.bJ (iZ (1000000000100000+1000*d) ps)),?_,?_,?_⟩
      ·rw[aL]
       unfold dz
       rw[fj]
       exact(h3 σ _ Sj rfl).at_ _
      ·rw[<-h1,F5 hx hu _ _ _ (by omega),uM pO (F9 _ _ (by omega))]
      ·exact(dV.gC (d:=20000) he _ _ _ (by omega) h).set (F9 _ _ (by omega)) d
    ·cases hb
   ·cases hb
 ·obtain⟨h2,h3⟩:=iA dx
  injection h2 with h2
  refine⟨eo σ oj.dst .skip,(h3 σ).at_ _,?_,h.put rfl _⟩
  rw[<-h2,LQ hd rfl]
 ·cases dx
theorem Rl.Mb(h:Rl w0 N lab ρ σ a w)(d:Nat):Rl w0 N lab ρ (σ.drop d) a w:=by
 refine⟨h.below,h.bV,fun r y hy=>?_,fun k=>(h.tmp k).dj fun _ _=>rfl,h.size,h.defers,h.fix,h.dM⟩
 have hy:(bif Nat.beq r d then none else (σ.m r).map (ax.drop d))=some y:=hy
 cases hb:Nat.beq r d with
 | true=>rw[hb]at hy;cases hy
 | false=>
  rw[hb,cond_false]at hy
  obtain⟨z,hz,rfl⟩:=Option.map_eq_some_iff.1 hy
  exact(h.root r z hz).dj (fun _ _=>rfl) (by rintro rfl;simp at hb)
theorem R.Mb(h:R w0 N σ a w)(d:Nat):R w0 N (σ.drop d) a w:=by
 obtain⟨lab,ρ,h⟩:=h
 exact⟨lab,ρ,h.Mb d⟩
theorem ae1[Inhabited Wd](aU:ej P Φ){ops:Array Oper}{k:S->Option X}(h:sA P N Φ ops σ k=some r):∃ Mc,(∀ w0 a w,R w0 N σ a w->R w0 N Mc a w)/\Any P N Φ ops (fun τ=>k τ=some r) ops.size 0 Mc:=by
 unfold sA at h
 split at h
 ·rename_i i hf
  have hc:=List.find?_some hf
  have hi:=List.mem_range.1 (List.mem_of_find?_eq_some hf)
  split at h
  ·rename_i o ho
   split at h
   ·rename_i e he
    unfold early at hc
    rw[ho]at hc
    simp only[Bool.and_eq_true]at hc
    obtain⟨⟨⟨⟨⟨⟨_,c1⟩,c2⟩,c3⟩,c4⟩,c5⟩,c6⟩:=hc
    have kI:=Gb _ _ c6
    have c5:=Nat.eq_of_beq_eq_true c5
    have wN:∀ j,(waits ops i ops.size 0 0).testBit j=true->(0 ||| 2 ^ i).testBit j=false:=by
     intro j hj
     have:((0 ||| 2 ^ i) &&& waits ops i ops.size 0 0).testBit j=false:=by rw[c5];exact Nat.zero_testBit j
     rw[Nat.testBit_and,hj,Bool.and_true]at this
     exact this
    have hg:o.guard=none:=Option.isNone_iff_eq_none.1 c2
    have sE:∀ σ2,en σ2 ops o=some true:=fun σ2=>by unfold en;rw[hg]
    obtain⟨τ,h1,h2⟩:=LA aU h
    obtain⟨e',x,u,hd,vT,hx,hu,dx,gO⟩:=B6 c1 (sE _) h2
    rw[he]at hd
    injection hd with hd
    subst hd
    obtain⟨n,hn⟩:∃ n,ops.size=n+1:=⟨ops.size-1,by omega⟩
    have hconst:∀ σ2 y,y∈o.op.operands->ak σ2 y=ak (σ.drop e) y:=by
     intro σ2 y hy
     have:=List.all_eq_true.1 c4 y (by simpa using hy)
     cases y with
     | const v=>rfl
     | _=>cases this
    refine⟨σ.drop e,fun w0 a w hR=>hR.Mb e,?_⟩
    have hA:=zk aU _ _ _ k h1
    rw[dx]at hA
    have hsz:ops.size-1=n:=by omega
    rw[hsz]at hA
    rw[hn]
    refine LN (W:=waits ops i ops.size 0 0) ho (fun j oj cD hj=>?_) (fun σ=>bE e x u σ) (fun _ σ=>dV e σ) (fun L af _=>gO af (sE _) (hconst af)) (fun L af j oj eU hF cD dJ ew dU wL=>?_) n 0 (σ.drop e) (fun j _=>Nat.zero_testBit j) c3 (dV.drop σ) hA
    ·have bU:=(Array.getElem?_eq_some_iff.1 cD).1
     rcases kI j (by omega) (by omega)with e1 | e1 | e1 | e1
     ·subst e1
      have:=wN j hj
      rw[oG]at this
      simp at this
     ·rw[Nat.zero_testBit]at e1;cases e1
     ·exact L4 cD e1.2
     ·rw[hj]at e1;cases e1.1
    ·have bU:=(Array.getElem?_eq_some_iff.1 cD).1
     rcases kI j (by omega) (by omega)with e1 | e1 | e1 | e1
     ·exact absurd e1 dJ
     ·rw[Nat.zero_testBit]at e1;cases e1
     ·rw[dU]at e1;cases e1.1
     ·obtain⟨b1,b2⟩:=e1.2 oj cD
      obtain⟨a1,a2,a3⟩:=Oper.apart_spec b2
      exact ae0 aU hx hu vT b1 (a1 e he) (fun hd=>a2 e he hd) hF wL
   ·cases h
  ·cases h
 ·exact⟨σ,fun _ _ _ h=>h,zk aU _ _ _ _ h⟩
theorem ae2[Inhabited Wd](aU:ej P Φ){ops:Array Oper}{id:Nat}{k:S->Option X}(hm:P.follows .mixedOrders=true)(h:sA P N Φ ops σ k=some r){Q:Exit->Act->World->Prop}(hQ:∀ τ,k τ=some r->∀ a w,R w0 N τ a w->Q .normal a w)(hR:R w0 N σ a w):
  (Code.region id ops true).wp P Q a w:=by
 obtain⟨Mc,h1,h2⟩:=ae1 aU h
 exact wp_region_any hm (L8 aU hQ _ _ _ _ h2 oH.start a _ (h1 _ _ _ hR).drawn)
end
end Go.Proofs.YtmffpkippmkjbaaGreatDoor
namespace Go.Proofs.YtmffpkippmkjbaaGreatDoor
open Go.RowKit
set_option linter.unusedVariables false
section
variable {P:Program} {w w':World} {w0:Wd} {B N:Nat} {lab aj:aQ} {ρ ρ':Nat->Loc} {σ:S} {a:Act} {X:Type} {d:Nat} {r:X} {o:Oper} {Φ:cY} {Λ:jS}
theorem ae3{dst:Option Tmp}{g:Bool}{k:S->Option X}(h:lU σ dst g k=some r):∃ af,k af=some r/\∀ a w,R w0 N σ a w->R w0 N af a w:=by
 unfold lU at h
 cases g with
 | false=>exact⟨σ,h,fun _ _ h=>h⟩
 | true=>
  rw[cond_true]at h
  split at h
  ·rename_i d
   split at h
   ·rename_i b hb
    have key:∀ c:Bool,b=c->∀ a w,R w0 N σ a w->R w0 N (σ.set d (.lf (.v (.bool c)))) a w:=by
     rintro c rfl a w ⟨lab,ρ,hR⟩
     refine⟨lab,ρ,hR.below,hR.bV,hR.root,fun k=>?_,hR.size,hR.defers,hR.fix,hR.dM⟩
     show RA w w0.heap.size lab ρ (aX σ.t d (.lf (.v (.bool b))) k) _
     by_cases hk:k=d
     ·subst hk
      rw[aZ,<-hb]
      exact hR.tmp k
     ·rw[bB _ _ _ hk]
      exact hR.tmp k
    cases b with
    | true=>exact⟨_,h,key true rfl⟩
    | false=>exact⟨_,h,key false rfl⟩
   ·exact⟨σ,h,fun _ _ h=>h⟩
  ·exact⟨σ,h,fun _ _ h=>h⟩
theorem Gf(aU:ej P Φ)(ops:Array Oper):∀ (rest:List Oper) (j:Nat) (σ:S) (k:S->Option X),qI P N Φ ops j rest σ k=some r->∃ af,k af=some r/\∀ a w,R w0 N σ a w->∀ Q,(∀ a' w',R w0 N af a' w'->Q Exit.normal a' w')->wpList P ops Q rest a w
 | [],j,σ,k,h=>⟨σ,h,fun a w hR Q hQ=>hQ a w hR⟩
 | o :: rest,j,σ,k,h=>by
  unfold qI at h
  split at h
  ·rename_i sE
   obtain⟨lT,h1,eg⟩:=adX (w0:=w0) aU h
   obtain⟨σ2,h2,rA⟩:=ae3 (w0:=w0) (N:=N) h1
   obtain⟨Cf,h3,gL⟩:=Gf aU ops rest (j+1) σ2 k h2
   refine⟨Cf,h3,fun a w hR Q hQ=>?_⟩
   obtain⟨lab,ρ,aA⟩:=hR
   simp only[wpList,zm sE aA,if_true]
   exact .inl (eg a w _ Q ⟨lab,ρ,aA⟩ fun a' w' mT=>gL a' w' (rA a' w' mT) Q hQ)
  ·rename_i sE
   unfold fN at h
   split at h
   ·rename_i hd
    obtain⟨Cf,h3,gL⟩:=Gf aU ops rest (j+1) σ k h
    refine⟨Cf,h3,fun a w hR Q hQ=>?_⟩
    obtain⟨lab,ρ,aA⟩:=hR
    simp only[wpList,zm sE aA,hd]
    exact gL a w ⟨lab,ρ,aA⟩ Q hQ
   ·rename_i d hd
    cases hN:Nat.blt d N with
    | false=>rw[hN]at h;cases h
    | true=>
     rw[hN,cond_true]at h
     obtain⟨Cf,h3,gL⟩:=Gf aU ops rest (j+1) _ k h
     refine⟨Cf,h3,fun a w hR Q hQ=>?_⟩
     obtain⟨lab,ρ,aA⟩:=hR
     simp only[wpList,zm sE aA,hd]
     exact gL _ w ⟨lab,ρ,aA.set rfl (by have:=Nat.le_of_ble_eq_true hN;omega)⟩ Q hQ
  ·cases h
theorem zp(aU:ej P Φ):∀ (c:Code) (σ:S) (k:Exit->S->Option X),eY P N Φ Λ c σ k=some r->mW P N Λ (occs c)->AW P w0 N c σ fun e af=>k e af=some r:=by
 intro c
 induction c with
 | skip=>exact fun σ k h _ a w hR=>wp_skip ⟨σ,h,hR⟩
 | label l=>exact fun σ k h _ a w hR=>wp_label ⟨σ,h,hR⟩
 | ret=>exact fun σ k h _ a w hR=>wp_ret ⟨σ,h,hR⟩
 | exit id=>exact fun σ k h _ a w hR=>wp_exit ⟨σ,h,hR⟩
 | region id ops draw=>
  intro σ k h _ a w hR
  cases draw with
  | true=>
   simp only[eY]at h
   cases hm:P.follows .mixedOrders with
   | false=>rw[hm]at h;cases h
   | true=>
    rw[hm,cond_true]at h
    haveI:Inhabited Wd:=⟨w0⟩
    exact ae2 aU hm h (fun τ dx a w hR=>⟨τ,dx,hR⟩) hR
  | false=>
   simp only[eY]at h
   obtain⟨af,h',hw⟩:=Gf (w0:=w0) aU ops _ _ _ _ h
   exact wp_region_list (hw a w hR _ fun a' w' aA=>⟨af,h',aA⟩)
 | seq x y wP wQ=>
  intro σ k h eZ a w hR
  simp only[eY]at h
  have h1:=wP σ _ h (fun p hp=>eZ p (List.mem_append_left _ hp))
  refine wp_seq (wp_mono (h1 a w hR) fun e a' w' he=>?_)
  obtain⟨af,hk,aA⟩:=he
  cases e with
  | normal=>exact wQ af k hk (fun p hp=>eZ p (List.mem_append_right _ hp)) a' w' aA
  | _=>exact⟨af,hk,aA⟩
 | cond c x y wP wQ=>
  intro σ k h eZ a w hR
  simp only[eY]at h
  split at h
  ·rename_i b hb
   obtain⟨lab,ρ,aA⟩:=hR
   have hc:=aA.ak c
   rw[hb]at hc
   have Sk:=hc.2.qh
   cases b with
   | true=>exact wp_cond_true Sk (wP σ k h (fun p hp=>eZ p (List.mem_append_left _ hp)) a w ⟨lab,ρ,aA⟩)
   | false=>exact wp_cond_false Sk (wQ σ k h (fun p hp=>eZ p (List.mem_append_right _ hp)) a w ⟨lab,ρ,aA⟩)
  ·cases h
 | block id c ih=>
  intro σ k h eZ a w hR
  simp only[eY]at h
  split at h
  ·rename_i b hb
   exact eZ (id,c) (.head _) b hb X σ k r w0 h a w hR
  ·have h1:=ih σ _ h (fun p hp=>eZ p (.tail _ hp))
   refine wp_block (wp_mono (h1 a w hR) fun e a' w' he=>?_)
   obtain⟨af,hk,aA⟩:=he
   cases e with
   | exit nU=>
    simp only[Exit.inBlock]
    by_cases hid:nU=id
    ·simp only[hid,if_true]at hk ⊢
     exact⟨af,hk,aA⟩
    ·simp only[hid,if_false]at hk ⊢
     exact⟨af,hk,aA⟩
   | _=>exact⟨af,hk,aA⟩
 | _=>exact fun σ k h=>by simp[eY]at h
end
/-! What a loop carries. -/
inductive Lm where
 | int (k:IntKind)
 | bool
 | str
 | own (r:Nat)
 | ah (t:TC) (o:Nat)
def Lm.T:Lm->Type
 | .int _=>Int
 | .bool=>Bool
 | .str=>ByteArray
 | .own _=>Unit
 | .ah t _=>List (Proofs.YtmffpkippmkjbaaGreatDoor.T t)
def Lm.mk:(m:Lm)->m.T->Lf
 | .int k,n=>.v (.int k n)
 | .bool,b=>.v (.bool b)
 | .str,s=>.v (.str s)
 | .own r,_=>.own [r]
 | .ah t o,l=>.v (.sl t o false l)
def Lm.rd:(m:Lm)->Lf->Option m.T
 | .int k,.v (.int k' n)=>if k'=k then some n else none
 | .bool,.v (.bool b)=>some b
 | .str,.v (.str s)=>some s
 | .own r,.own [r']=>bif Nat.beq r' r then some ()else none
 | .ah t o,.v x=>bif Nat.blt o 2 then x.cR t o else none
 | _,_=>none
inductive Tm where
 | lf (m:Lm)
 | az (r j:Nat)
 | fp (t:TC) (o:Nat)
 | fc (f:Nat) (t:TC)
 | ag (t:TC)
 | pk (r n:Nat)
def Tm.T:Tm->Type
 | .lf m=>m.T
 | .az _ _=>Unit
 | .fp t _=>Proofs.YtmffpkippmkjbaaGreatDoor.T t
 | .fc _ t=>Proofs.YtmffpkippmkjbaaGreatDoor.T t
 | .ag t=>Proofs.YtmffpkippmkjbaaGreatDoor.T t
 | .pk _ _=>Unit
def Tm.mk:(m:Tm)->m.T->A
 | .lf m,x=>.lf (m.mk x)
 | .az r j,_=>.az r j
 | .fp t o,x=>.fL (enc t o x)
 | .fc f t,x=>.jD f (enc t 0 x)
 | .ag t,x=>.agg ((enc t 0 x).map .v)
 | .pk r n,_=>.pk r n
def Tm.rd:(m:Tm)->A->Option m.T
 | .lf m,.lf x=>m.rd x
 | .az r j,.az r' j'=>bif Nat.beq r' r&&Nat.beq j' j then some ()else none
 | .fp t o,.fL cs=>bif Nat.blt o 2 then dec t o cs else none
 | .fc f t,.jD f' cs=>bif Nat.beq f' f then dec t 0 cs else none
 | .ag t,.agg cs=>(match qm cs with
  | some vs=>dec t 0 vs
  | none=>none)
 | .pk r n,.pk r' n'=>bif Nat.beq r' r&&Nat.beq n' n then some ()else none
 | _,_=>none
def Cg:List Lm->Type
 | []=>Unit
 | m :: ms=>m.T×Cg ms
def sF:(ms:List Lm)->Cg ms->List Lf
 | [],_=>[]
 | m :: ms,x=>m.mk x.1 :: sF ms x.2
def zq:(ms:List Lm)->List Lf->Option (Cg ms)
 | [],[]=>some ()
 | m :: ms,x :: xs=>match m.rd x,zq ms xs with
  | some y,some ys=>some (y,ys)
  | _,_=>none
 | _,_=>none
inductive Rm where
 | sl (t:TC) (o:Nat)
 | st (t:TC)
 | blk (ms:List Lm)
 | mp
def Rm.T:Rm->Type
 | .sl t _=>List (Proofs.YtmffpkippmkjbaaGreatDoor.T t)
 | .st t=>Proofs.YtmffpkippmkjbaaGreatDoor.T t
 | .blk ms=>Cg ms
 | .mp=>List (Int×Bool)
def Rm.mk:(m:Rm)->m.T->ax
 | .sl t o,l=>.sl (.sl t o false l)
 | .st t,x=>.blk ((enc t 0 x).map .v)
 | .blk ms,x=>.blk (sF ms x)
 | .mp,l=>.mp l
def Rm.rd:(m:Rm)->ax->Option m.T
 | .sl t o,.sl y=>y.cR t o
 | .st t,.blk cs=>(match qm cs with
  | some vs=>dec t 0 vs
  | none=>none)
 | .blk ms,.blk cs=>zq ms cs
 | .mp,.mp l=>some l
 | _,_=>none
def zu:List (Nat×Tm)->Type
 | []=>Unit
 | (_,m) :: ms=>m.T×zu ms
def sG:(ms:List (Nat×Tm))->zu ms->Nat->A
 | [],_,_=>.undef
 | (n,m) :: ms,x,k=>bif Nat.beq k n then m.mk x.1 else sG ms x.2 k
def Ch:(ms:List (Nat×Tm))->(Nat->A)->Option (zu ms)
 | [],_=>some ()
 | (n,m) :: ms,t=>match m.rd (t n),Ch ms t with
  | some x,some xs=>some (x,xs)
  | _,_=>none
def sH:List (Nat×Rm)->Type
 | []=>Unit
 | (_,m) :: ms=>m.T×sH ms
def sI:(ms:List (Nat×Rm))->sH ms->Nat->Option ax
 | [],_,_=>none
 | (n,m) :: ms,x,k=>bif Nat.beq k n then some (m.mk x.1)else sI ms x.2 k
def zw:(ms:List (Nat×Rm))->(Nat->Option ax)->Option (sH ms)
 | [],_=>some ()
 | (n,m) :: ms,t=>match (t n).bind m.rd,zw ms t with
  | some x,some xs=>some (x,xs)
  | _,_=>none
structure gP where
 ts:List (Nat×Tm)
 rs:List (Nat×Rm)
def gP.St(τ:gP):Type:=zu τ.ts×sH τ.rs
def gP.mk'(τ:gP)(x:τ.St):S:=⟨sG τ.ts x.1,sI τ.rs x.2⟩
def gP.Gg(τ:gP)(σ:S):Option τ.St:=match Ch τ.ts σ.t,zw τ.rs σ.m with
 | some x,some y=>some (x,y)
 | _,_=>none
/-! Roots by other names. -/
abbrev Rn:=List (Nat×Nat)
def Rn.inv(rs:Rn)(n:Nat):Option Nat:=(rs.find? fun p=>Nat.beq p.2 n).map (·.1)
def Rn.add(rs:Rn)(r n:Nat):Rn:=bif rs.any (fun p=>Nat.beq p.1 r&&Nat.beq p.2 n)then rs else (r,n) :: rs
def Md(n:Nat):Option Nat->Bool
 | some m=>Nat.beq m n
 | none=>false
def Rn.ok(rs:Rn):Bool:=rs.all fun p=>(Nat.beq p.1 p.2 || Nat.ble 60000 p.2)&&Md p.2 (rs.lookup p.1)&&Md p.1 (rs.inv p.2)
def Lf.dr(rs:Rn):Lf->Lf
 | .v x=>.v x
 | .own [r]=>(match rs.lookup r with
  | some n=>.own [n]
  | none=>.dead)
 | _=>.dead
def A.dr(rs:Rn):A->A
 | .lf x=>.lf (x.dr rs)
 | .az r j=>(match rs.lookup r with
  | some n=>.az n j
  | none=>.undef)
 | .fL cs=>.fL cs
 | .jD f cs=>.jD f cs
 | .agg cs=>.agg (cs.map (Lf.dr rs))
 | _=>.undef
def ax.dr(rs:Rn):ax->ax
 | .blk cs=>.blk (cs.map (Lf.dr rs))
 | .sl y=>.sl y
 | .mp l=>.mp l
 | .gh _=>.gh []
def S.dr(rs:Rn)(σ:S):S:=⟨fun k=>(σ.t k).dr rs,fun n=>match rs.inv n with
 | some r=>(σ.m r).map (ax.dr rs)
 | none=>none⟩
def Sl:Lm->Lf->Rn->Rn
 | .own n,.own [r],rs=>rs.add r n
 | _,_,rs=>rs
def Me:List Lm->List Lf->Rn->Rn
 | m :: ms,x :: xs,rs=>Me ms xs (Sl m x rs)
 | _,_,rs=>rs
def rnT:Tm->A->Rn->Rn
 | .lf m,.lf x,rs=>Sl m x rs
 | .az n j,.az r j',rs=>rs.add r n
 | _,_,rs=>rs
def Sm(t:Nat->A):List (Nat×Tm)->Rn->Rn
 | [],rs=>rs
 | (k,m) :: ms,rs=>Sm t ms (rnT m (t k) rs)
def Sn(m:Nat->Option ax):List (Nat×Rm)->Rn->Rn
 | [],rs=>rs
 | (n,x) :: xs,rs=>Sn m xs (match x,rs.inv n with
  | .blk ms,some r=>(match m r with
   | some (.blk cs)=>Me ms cs rs
   | _=>rs)
  | .blk ms,none=>(match m n with
   | some (.blk cs)=>Me ms cs (rs.add n n)
   | _=>rs)
  | _,some _=>rs
  | _,none=>rs.add n n)
def gP.rn(τ:gP)(σ:S):Rn:=Sn σ.m τ.rs (Sm σ.t τ.ts [])
def Mf(rs:List (Nat×Rm))(p:Nat×Tm)(σ:S):S:=match p.2,σ.t p.1 with
 | .lf (.own n),.lf (.v .nil)=>(match rs.lookup n with
  | some (.sl t o)=>bif Nat.ble 60000 n then ⟨aX ((σ.drop n).root n (.sl (.sl t o false []))).t p.1 (.lf (.own [n])),((σ.drop n).root n (.sl (.sl t o false []))).m⟩else σ
  | _=>σ)
 | _,_=>σ
def Gh(rs:List (Nat×Rm)):List (Nat×Tm)->S->S
 | [],σ=>σ
 | p :: ps,σ=>Gh rs ps (Mf rs p σ)
def Mg(n j r:Nat)(σ:S):S:=match σ.m r with
 | some (.blk cs)=>(match cs[j]? with
  | some (.v .nil)=>⟨σ.t,aX σ.m r (some (.blk (cs.set j (.own [n]))))⟩
  | _=>σ)
 | _=>σ
def Mh(rs:List (Nat×Rm))(n j r:Nat)(σ:S):S:=match rs.lookup n with
 | some (.sl t o)=>bif Nat.ble 60000 n then Mg n j r ((σ.drop n).root n (.sl (.sl t o false [])))else σ
 | _=>σ
def wR(rs:List (Nat×Rm))(r:Nat):Nat->List Lm->List Lf->S->S
 | j,.own n :: ms,.v .nil :: cs,σ=>wR rs r (j+1) ms cs (Mh rs n j r σ)
 | j,_ :: ms,_ :: cs,σ=>wR rs r (j+1) ms cs σ
 | _,_,_,σ=>σ
def Ci(rs:List (Nat×Rm)):List (Nat×Rm)->S->S
 | [],σ=>σ
 | (r,.blk ms) :: ps,σ=>Ci rs ps (match σ.m r with
  | some (.blk cs)=>wR rs r 0 ms cs σ
  | _=>σ)
 | _ :: ps,σ=>Ci rs ps σ
def gP.So(τ:gP)(σ:S):Option τ.St:=bif (τ.rn σ).ok then τ.Gg (Ci τ.rs τ.rs (σ.dr (τ.rn σ)))else none
def gP.rd(τ:gP)(σ:S):Option τ.St:=match τ.Gg σ with
 | some x=>some x
 | none=>τ.So (Gh τ.rs τ.ts σ)
section
variable {P:Program} {w w':World} {w0:Wd} {B N:Nat} {lab aj:aQ} {ρ ρ':Nat->Loc} {σ:S} {a:Act} {X:Type} {d:Nat} {r:X} {o:Oper} {Φ:cY} {Λ:jS}
theorem Lm.nc{m:Lm}{x:Lf}{y:m.T}(h:m.rd x=some y){u:Value}(hu:cg w B lab ρ x u):cg w B lab ρ (m.mk y) u:=by
 unfold Lm.rd at h
 split at h
 ·split at h
  ·rename_i hk;subst hk;injection h with h;subst h;exact hu
  ·cases h
 ·injection h with h;subst h;exact hu
 ·injection h with h;subst h;exact hu
 ·rename_i r' r''
  cases hb:Nat.beq r'' r' with
  | false=>rw[hb]at h;cases h
  | true=>obtain rfl:=Nat.eq_of_beq_eq_true hb;exact hu
 ·rename_i t o x
  cases hb:Nat.blt o 2 with
  | false=>rw[hb]at h;cases h
  | true=>
   rw[hb]at h
   have h:V.cR t o x=some y:=h
   have:=Nat.le_of_ble_eq_true hb
   exact⟨by simp[V.ah];omega,hu.2.wk (V.de h)⟩
 ·cases h
theorem Tm.nc{m:Tm}{x:A}{y:m.T}(h:m.rd x=some y){u:Value}(hu:RA w B lab ρ x u):RA w B lab ρ (m.mk y) u:=by
 cases m with
 | lf m=>
  cases x with
  | lf x=>exact Lm.nc (m:=m) h hu
  | _=>cases h
 | az r j=>
  cases x with
  | az r' j'=>
   have h:(bif Nat.beq r' r&&Nat.beq j' j then some ()else none)=some y:=h
   cases hb:(Nat.beq r' r&&Nat.beq j' j)with
   | false=>rw[hb]at h;cases h
   | true=>
    rw[Bool.and_eq_true]at hb
    obtain rfl:=Nat.eq_of_beq_eq_true hb.1
    obtain rfl:=Nat.eq_of_beq_eq_true hb.2
    exact hu
  | _=>cases h
 | fp t o=>
  cases x with
  | fL cs=>
   have h:(bif Nat.blt o 2 then dec t o cs else none)=some y:=h
   cases hb:Nat.blt o 2 with
   | false=>rw[hb]at h;cases h
   | true=>
    rw[hb,cond_true]at h
    have ho:=Nat.le_of_ble_eq_true hb
    have hk:=jC t o cs y h
    obtain⟨b,off,h1,h2,h3,h4⟩:=hu
    refine⟨b,off,h1,h2,h3,fun j z hz=>?_⟩
    have hj:j<cs.length:=by rw[hk.1];exact(List.getElem?_eq_some_iff.1 hz).1
    have hv:=List.getElem?_eq_getElem hj
    obtain⟨g1,v,g2,g3⟩:=h4 j _ hv
    exact⟨hG t o y (by omega) j z hz,v,g2,g3.wk (hk.2 j _ z hv hz)⟩
  | _=>cases h
 | fc f t=>
  cases x with
  | jD f' cs=>
   have h:(bif Nat.beq f' f then dec t 0 cs else none)=some y:=h
   cases hb:Nat.beq f' f with
   | false=>rw[hb]at h;cases h
   | true=>
    rw[hb,cond_true]at h
    obtain rfl:=Nat.eq_of_beq_eq_true hb
    have hk:=jC t 0 cs y h
    obtain⟨pv,e0,b,off,h1,h2,h3,h4⟩:=hu
    refine⟨pv,e0,b,off,h1,h2,h3,fun j z hz=>?_⟩
    have hj:j<cs.length:=by rw[hk.1];exact(List.getElem?_eq_some_iff.1 hz).1
    have hv:=List.getElem?_eq_getElem hj
    obtain⟨g1,v,g2,g3⟩:=h4 j _ hv
    exact⟨hG t 0 y (by omega) j z hz,v,g2,g3.wk (hk.2 j _ z hv hz)⟩
  | _=>cases h
 | ag t=>
  cases x with
  | agg cs=>
   have h:(match qm cs with | some vs=>dec t 0 vs | none=>none)=some y:=h
   cases eT:qm cs with
   | none=>rw[eT]at h;cases h
   | some vs=>
    rw[eT]at h
    have h:dec t 0 vs=some y:=h
    have cC:=E6 _ _ eT
    have hk:=jC t 0 vs y h
    obtain⟨us,h1,h2,h3⟩:=hu
    refine⟨us,h1,?_,fun j x hx=>?_⟩
    ·rw[h2,cC,List.length_map,List.length_map,hk.1]
    ·rw[List.getElem?_map]at hx
     cases hz:(enc t 0 y)[j]? with
     | none=>rw[hz]at hx;cases hx
     | some z=>
      rw[hz]at hx
      injection hx with hx
      subst hx
      have hj:j<vs.length:=by rw[hk.1];exact(List.getElem?_eq_some_iff.1 hz).1
      have hv:=List.getElem?_eq_getElem hj
      obtain⟨v,g1,g2⟩:=h3 j (.v vs[j]) (by rw[cC,List.getElem?_map,hv];rfl)
      exact⟨v,g1,hG t 0 y (by omega) j z hz,g2.2.wk (hk.2 j _ z hv hz)⟩
  | _=>cases h
 | pk r n=>
  cases x with
  | pk r' n'=>
   have h:(bif Nat.beq r' r&&Nat.beq n' n then some ()else none)=some y:=h
   cases hb:(Nat.beq r' r&&Nat.beq n' n)with
   | false=>rw[hb]at h;cases h
   | true=>
    rw[Bool.and_eq_true]at hb
    obtain rfl:=Nat.eq_of_beq_eq_true hb.1
    obtain rfl:=Nat.eq_of_beq_eq_true hb.2
    exact hu
  | _=>cases h
theorem Sp:∀ (ms:List Lm) (cs:List Lf) (y:Cg ms),zq ms cs=some y->(sF ms y).length=cs.length/\∀ (j:Nat) x,(sF ms y)[j]?=some x->∃ z,cs[j]?=some z/\(∀ (w:World) (B:Nat) (lab:aQ) (ρ:Nat->Loc) (u:Value),cg w B lab ρ z u->cg w B lab ρ x u)
 | [],[],y,h=>⟨rfl,fun j x hx=>by simp[sF]at hx⟩
 | m :: ms,c :: cs,y,h=>by
  unfold zq at h
  split at h
  ·rename_i y1 ys h1 h2
   injection h with h
   subst h
   obtain⟨k1,k2⟩:=Sp ms cs ys h2
   refine⟨by simp[sF,k1],fun j x hx=>?_⟩
   cases j with
   | zero=>simp[sF]at hx;subst hx;exact⟨c,rfl,fun w B lab ρ u hu=>Lm.nc h1 hu⟩
   | succ j=>exact k2 j x (by simpa [sF]using hx)
  ·cases h
 | [],_ :: _,y,h=>by simp[zq]at h
 | _ :: _,[],y,h=>by simp[zq]at h
theorem Rm.nc{m:Rm}{x:ax}{y:m.T}(h:m.rd x=some y){n:Nat}(hx:cX w B lab ρ n x):cX w B lab ρ n (m.mk y):=by
 cases m with
 | sl t o=>
  cases hx with
  | sl v y' av hr=>exact .sl v _ av (hr.wk (V.de h))
  | blk=>cases h
  | mp=>cases h
  | gh=>cases h
 | mp=>
  cases hx with
  | gh=>cases h
  | sl=>cases h
  | blk=>cases h
  | mp b c es l av hl hh he=>injection h with h;subst h;exact .mp b c es _ av hl hh he
 | st t=>
  cases hx with
  | sl=>cases h
  | mp=>cases h
  | gh=>cases h
  | blk b off cells e cs us av hl hh hs hc=>
   have h:(match qm cs with | some vs=>dec t 0 vs | none=>none)=some y:=h
   cases eT:qm cs with
   | none=>rw[eT]at h;cases h
   | some vs=>
    rw[eT]at h
    have h:dec t 0 vs=some y:=h
    have cC:=E6 _ _ eT
    have hk:=jC t 0 vs y h
    refine .blk b off cells e _ us av hl hh (by rw[List.length_map,<-hk.1];rw[cC,List.length_map]at hs;exact hs) fun j x hx=>?_
    rw[List.getElem?_map]at hx
    cases hz:(enc t 0 y)[j]? with
    | none=>rw[hz]at hx;cases hx
    | some z=>
     rw[hz]at hx
     injection hx with hx
     subst hx
     have hj:j<vs.length:=by rw[hk.1];exact(List.getElem?_eq_some_iff.1 hz).1
     have hv:=List.getElem?_eq_getElem hj
     obtain⟨h1,h2⟩:=hc j (.v vs[j]) (by rw[cC,List.getElem?_map,hv];rfl)
     exact⟨h1,hG t 0 y (by omega) j z hz,h2.2.wk (hk.2 j _ z hv hz)⟩
 | blk ms=>
  cases hx with
  | sl=>cases h
  | mp=>cases h
  | gh=>cases h
  | blk b off cells e cs us av hl hh hs hc=>
   obtain⟨k1,k2⟩:=Sp ms cs y h
   refine .blk b off cells e _ us av hl hh (by show off+(sF ms y).length<=_;rw[k1];exact hs) fun j x hx=>?_
   obtain⟨z,hz,hm⟩:=k2 j x hx
   exact⟨(hc j z hz).1,hm _ _ _ _ _ (hc j z hz).2⟩
theorem Mi:∀ (ms:List (Nat×Tm)) (t:Nat->A) (y:zu ms),Ch ms t=some y->∀ k,sG ms y k = .undef\/∃ m z,(Tm.rd m (t k)=some z/\sG ms y k=m.mk z)
 | [],t,y,h,k=>.inl rfl
 | (n,m) :: ms,t,y,h,k=>by
  unfold Ch at h
  split at h
  ·rename_i x xs h1 h2
   injection h with h
   subst h
   by_cases hk:k=n
   ·subst hk
    exact .inr ⟨m,x,h1,by simp[sG]⟩
   ·have hb:Nat.beq k n=false:=by
     cases hb:Nat.beq k n with
     | false=>rfl
     | true=>exact absurd (Nat.eq_of_beq_eq_true hb) hk
    simp only[sG,hb,cond_false]
    exact Mi ms t xs h2 k
  ·cases h
theorem Mj:∀ (ms:List (Nat×Rm)) (t:Nat->Option ax) (y:sH ms),zw ms t=some y->∀ k,sI ms y k=none\/∃ m x z,t k=some x/\Rm.rd m x=some z/\sI ms y k=some (m.mk z)
 | [],t,y,h,k=>.inl rfl
 | (n,m) :: ms,t,y,h,k=>by
  unfold zw at h
  split at h
  ·rename_i x xs h1 h2
   injection h with h
   subst h
   by_cases hk:k=n
   ·subst hk
    cases ht:t k with
    | none=>rw[ht]at h1;cases h1
    | some z=>rw[ht]at h1;exact .inr ⟨m,z,x,rfl,h1,by simp[sI]⟩
   ·have hb:Nat.beq k n=false:=by
     cases hb:Nat.beq k n with
     | false=>rfl
     | true=>exact absurd (Nat.eq_of_beq_eq_true hb) hk
    simp only[sI,hb,cond_false]
    exact Mj ms t xs h2 k
  ·cases h
theorem gP.Sq{τ:gP}{x:τ.St}(h:τ.Gg σ=some x)(hR:R w0 N σ a w):R w0 N (τ.mk' x) a w:=by
 unfold gP.Gg at h
 split at h
 ·rename_i u v h1 h2
  injection h with h
  subst h
  obtain⟨lab,ρ,hR⟩:=hR
  refine⟨lab,ρ,hR.below,hR.bV,fun n y hy=>?_,fun k=>?_,hR.size,hR.defers,hR.fix,hR.dM⟩
  ·have hy:sI τ.rs v n=some y:=hy
   rcases Mj τ.rs σ.m v h2 n with e | ⟨m,x,z,e1,e2,e3⟩
   ·rw[e]at hy;cases hy
   ·rw[e3]at hy
    injection hy with hy
    subst hy
    exact Rm.nc e2 (hR.root n x e1)
  ·show RA _ _ _ _ (sG τ.ts u k) _
   rcases Mi τ.ts σ.t u h1 k with e | ⟨m,z,e1,e2⟩
   ·rw[e];trivial
   ·rw[e2];exact Tm.nc e1 (hR.tmp k)
 ·cases h
theorem Sr{n:Nat}{o:Option Nat}(h:Md n o=true):o=some n:=by
 cases o with
 | none=>cases h
 | some m=>rw[Nat.eq_of_beq_eq_true h]
theorem Ss{rs:Rn}{r n:Nat}(h:rs.lookup r=some n):(r,n)∈rs:=by
 induction rs with
 | nil=>cases h
 | cons p rs ih=>
  obtain⟨x,y⟩:=p
  rw[List.lookup_cons]at h
  split at h
  ·rename_i hb
   injection h with h
   subst h
   rw[eq_of_beq hb]
   exact .head _
  ·exact .tail _ (ih h)
theorem Su{rs:Rn}{r n:Nat}(h:rs.inv n=some r):(r,n)∈rs:=by
 unfold Rn.inv at h
 cases hf:rs.find? (fun p=>Nat.beq p.2 n)with
 | none=>rw[hf]at h;cases h
 | some p=>
  rw[hf]at h
  injection h with h
  subst h
  have h1:=List.find?_some hf
  have h2:=List.mem_of_find?_eq_some hf
  rw[<-Nat.eq_of_beq_eq_true h1]
  exact h2
def Rn.dj(rs:Rn)(ρ:Nat->Loc):Nat->Loc:=fun n=>match rs.inv n with
 | some r=>ρ r
 | none=>ρ n
theorem Rn.Gi{rs:Rn}(h:rs.ok=true){r n:Nat}(hm:(r,n)∈rs):(r=n\/60000<=n)/\rs.lookup r=some n/\rs.inv n=some r:=by
 have:=List.all_eq_true.1 h _ hm
 rw[Bool.and_eq_true,Bool.and_eq_true,Bool.or_eq_true]at this
 refine⟨?_,Sr this.1.2,Sr this.2⟩
 rcases this.1.1 with h | h
 ·exact .inl (Nat.eq_of_beq_eq_true h)
 ·exact .inr (Nat.le_of_ble_eq_true h)
theorem cg.dr{rs:Rn}(dY:rs.ok=true){x:Lf}{u:Value}(h:cg w B lab ρ x u):cg w B (dD lab rs id) (rs.dj ρ) (x.dr rs) u:=by
 unfold Lf.dr
 split
 ·exact⟨h.1,h.2.Bq h.1 fun b=>sg⟩
 ·rename_i r
  split
  ·rename_i n hn
   have hi:=(Rn.Gi dY (Ss hn)).2.2
   refine⟨h.1,?_⟩
   have h2:=h.2
   simp only[bC]at h2 ⊢
   unfold Rn.dj
   rw[hi]
   exact h2
  ·trivial
 ·trivial
theorem Rl.dr{rs:Rn}(dY:rs.ok=true)(h:Rl w0 N lab ρ σ a w):Rl w0 N (dD lab rs id) (rs.dj ρ) (σ.dr rs) a w:=by
 have hl:∀ b r n,lab b=some [r]->rs.lookup r=some n->dD lab rs id b=some [n]:=by
  intro b r n h1 h2
  simp[dD,h1,h2]
 refine⟨h.below,fun b k hk=>?_,fun n x hx=>?_,fun k=>?_,h.size,h.defers,fun r l hr=>?_,h.dM⟩
 ·unfold dD at hk
  split at hk
  ·cases hk
  ·rename_i k0 BF
   split at hk
   ·cases hk
   ·rename_i r hr
    cases hn:rs.lookup r with
    | none=>rw[hn]at hk;cases hk
    | some n=>
     rw[hn]at hk
     injection hk with hk
     subst hk
     obtain⟨h1,h2,_⟩:=h.bV b k0 BF
     exact⟨h1,h2,by simp⟩
 ·have hx:(match rs.inv n with | some r=>(σ.m r).map (ax.dr rs) | none=>none)=some x:=hx
  cases hi:rs.inv n with
  | none=>rw[hi]at hx;cases hx
  | some r=>
   rw[hi]at hx
   have hx:(σ.m r).map (ax.dr rs)=some x:=hx
   have o9:=(Rn.Gi dY (Su hi)).2.1
   have av:rs.dj ρ n=ρ r:=by unfold Rn.dj;rw[hi]
   cases hm:σ.m r with
   | none=>rw[hm]at hx;cases hx
   | some y=>
    rw[hm]at hx
    injection hx with hx
    subst hx
    cases h.root r y hm with
    | blk b off cells e cs us h1 h2 hh hs hc=>
     refine .blk b off cells e _ us (av.trans h1) (hl b r n h2 o9) hh (by rw[List.length_map];exact hs) fun j x hx=>?_
     rw[List.getElem?_map]at hx
     cases hz:cs[j]? with
     | none=>rw[hz]at hx;cases hx
     | some z=>
      rw[hz]at hx
      injection hx with hx
      subst hx
      exact⟨(hc j z hz).1,(hc j z hz).2.dr dY⟩
    | sl v y h1 h2=>
     exact .sl v y (av.trans h1) (RV.dD (p:=[]) (nm:=id) h2 o9)
    | mp b c es l h1 h2 hh he=>exact .mp b c es l (av.trans h1) (hl b r n h2 o9) hh he
    | gh us xs h1 hx=>exact .gh us _ (av.trans h1) fun j x hj=>by simp at hj
 ·show RA _ _ _ _ ((σ.t k).dr rs) _
  have hk:=h.tmp k
  generalize σ.t k=x at hk
  unfold A.dr
  split
  ·exact hk.dr dY
  ·rename_i r j
   split
   ·rename_i n hn
    have hi:=(Rn.Gi dY (Ss hn)).2.2
    obtain⟨b,off,h1,h2⟩:=hk
    exact⟨b,off,by unfold Rn.dj;rw[hi];exact h1,h2⟩
   ·trivial
  ·obtain⟨b,off,g1,g2,g3,g4⟩:=hk
   refine⟨b,off,g1,g2,sg g3,fun j x hx=>?_⟩
   obtain⟨f1,v,f2,f3⟩:=g4 j x hx
   exact⟨f1,v,f2,f3.Bq f1 fun b=>sg⟩
  ·obtain⟨pv,e0,b,off,g1,g2,g3,g4⟩:=hk
   refine⟨pv,e0,b,off,g1,g2,sg g3,fun j x hx=>?_⟩
   obtain⟨f1,v,f2,f3⟩:=g4 j x hx
   exact⟨f1,v,f2,f3.Bq f1 fun b=>sg⟩
  ·obtain⟨us,g1,g2,g3⟩:=hk
   refine⟨us,g1,by rw[List.length_map];exact g2,fun j x hx=>?_⟩
   rw[List.getElem?_map]at hx
   rename_i cs
   cases hz:cs[j]? with
   | none=>rw[hz]at hx;cases hx
   | some z=>
    rw[hz]at hx
    injection hx with hx
    subst hx
    obtain⟨v,f1,f2⟩:=g3 j z hz
    exact⟨v,f1,f2.dr dY⟩
  ·trivial
 ·show rs.dj ρ r=l
  unfold Rn.dj
  split
  ·rename_i r0 hi
   rcases(Rn.Gi dY (Su hi)).1 with e | e
   ·rw[e];exact h.fix r l hr
   ·rw[h.dM r (.inr e)]at hr;cases hr
  ·exact h.fix r l hr
theorem ae4{rs:List (Nat×Rm)}{p:Nat×Tm}(hR:R w0 N σ a w):R w0 N (Mf rs p σ) a w:=by
 unfold Mf
 split
 ·rename_i n hp hk
  split
  ·rename_i t o hl
   cases hb:Nat.ble 60000 n with
   | false=>exact hR
   | true=>
    have hn:=Nat.le_of_ble_eq_true hb
    obtain⟨lab,ρ,hR⟩:=hR
    have hu:=hR.tmp p.1
    rw[hk]at hu
    have nJ:a.tmps.getD p.1 undef = .slice none 0 0:=by
     have h2:=hu.2
     generalize a.tmps.getD p.1 undef=u at h2
     cases h2
     rfl
    have h1:=hR.new (d:=n) (x:=.sl (.sl t o false [])) (.cS (.slice none 0 0)) (.sl _ _ (aZ _ _ _) (.bO _ _ _)) (hR.dM n (.inr hn))
    refine⟨lab,_,h1.below,h1.bV,h1.root,fun k=>?_,h1.size,h1.defers,h1.fix,h1.dM⟩
    show RA _ _ _ _ (aX ((σ.drop n).root n (.sl (.sl t o false []))).t p.1 (.lf (.own [n])) k) _
    by_cases FD:k=p.1
    ·subst FD
     rw[aZ,nJ]
     exact⟨rfl,by simp only[bC,aZ]⟩
    ·rw[bB _ _ _ FD]
     exact h1.tmp k
  ·exact hR
 ·exact hR
theorem ae5{n j r:Nat}{y:V}(hR:Rl w0 N lab ρ σ a w)(hn:ρ n = .cS (.slice none 0 0)):Rl w0 N lab ρ (Mg n j r σ) a w:=by
 unfold Mg
 split
 ·rename_i cs hm
  split
  ·rename_i hj
   refine⟨hR.below,hR.bV,fun r' x hx=>?_,hR.tmp,hR.size,hR.defers,hR.fix,hR.dM⟩
   have hx:aX σ.m r (some (.blk (cs.set j (.own [n])))) r'=some x:=hx
   by_cases hr:r'=r
   ·subst hr
    rw[aZ]at hx
    injection hx with hx
    subst hx
    cases hR.root r' _ hm with
    | blk b off cells e cs us h1 h2 hh hs hc=>
     refine .blk b off cells e _ us h1 h2 hh (by rw[List.length_set];exact hs) fun i z hz=>?_
     rw[List.getElem?_set]at hz
     by_cases hi:j=i
     ·subst hi
      have bU:j<cs.length:=(List.getElem?_eq_some_iff.1 hj).1
      rw[if_pos rfl,if_pos bU]at hz
      injection hz with hz
      subst hz
      obtain⟨k1,k2⟩:=hc j _ hj
      refine⟨k1,?_⟩
      have hu:us j = .slice none 0 0:=by
       have h2:=k2.2
       generalize us j=u at h2
       cases h2
       rfl
      rw[hu]
      exact⟨rfl,by simp only[bC,hn]⟩
     ·rw[if_neg hi]at hz
      exact hc i z hz
   ·rw[bB _ _ _ hr]at hx
    exact hR.root r' x hx
  ·exact hR
 ·exact hR
theorem ae6{rs:List (Nat×Rm)}{n j r:Nat}(hR:R w0 N σ a w):R w0 N (Mh rs n j r σ) a w:=by
 unfold Mh
 split
 ·rename_i t o hl
  cases hb:Nat.ble 60000 n with
  | false=>exact hR
  | true=>
   have hn:=Nat.le_of_ble_eq_true hb
   obtain⟨lab,ρ,hR⟩:=hR
   exact⟨lab,_,ae5 (y:=.nil) (hR.new (d:=n) (x:=.sl (.sl t o false [])) (.cS (.slice none 0 0)) (.sl _ _ (aZ _ _ _) (.bO _ _ _)) (hR.dM n (.inr hn))) (aZ _ _ _)⟩
 ·exact hR
theorem Mk{rs:List (Nat×Rm)}{r:Nat}:∀ (ms:List Lm) (cs:List Lf) (j:Nat) (σ:S),R w0 N σ a w->R w0 N (wR rs r j ms cs σ) a w
 | [],cs,j,σ,h=>by unfold wR;exact h
 | m :: ms,[],j,σ,h=>by
  unfold wR
  split <;>first | exact h | contradiction
 | m :: ms,c :: cs,j,σ,h=>by
  unfold wR
  split
  ·rename_i e1 e2;cases e1;cases e2;exact Mk ms cs _ _ (ae6 h)
  ·rename_i e1 e2;cases e1;cases e2;exact Mk ms cs _ _ h
  ·exact h
theorem Cj{rs:List (Nat×Rm)}:∀ (ps:List (Nat×Rm)) (σ:S),R w0 N σ a w->R w0 N (Ci rs ps σ) a w
 | [],σ,h=>h
 | (r,.sl t o) :: ps,σ,h=>Cj ps σ h
 | (r,.st t) :: ps,σ,h=>Cj ps σ h
 | (r,.mp) :: ps,σ,h=>Cj ps σ h
 | (r,.blk ms) :: ps,σ,h=>by
  unfold Ci
  refine Cj ps _ ?_
  split
  ·exact Mk ms _ 0 σ h
  ·exact h
theorem Sv{rs:List (Nat×Rm)}:∀ (ps:List (Nat×Tm)) (σ:S),R w0 N σ a w->R w0 N (Gh rs ps σ) a w
 | [],σ,h=>h
 | p :: ps,σ,h=>Sv ps _ (ae4 h)
theorem gP.nc{τ:gP}{x:τ.St}(h:τ.rd σ=some x)(hR:R w0 N σ a w):R w0 N (τ.mk' x) a w:=by
 unfold gP.rd at h
 split at h
 ·rename_i y hy
  injection h with h
  subst h
  exact gP.Sq hy hR
 ·have hR:=Sv (rs:=τ.rs) τ.ts σ hR
  revert h hR
  generalize Gh τ.rs τ.ts σ=af
  intro h hR
  unfold gP.So at h
  cases hb:(τ.rn af).ok with
  | false=>rw[hb]at h;cases h
  | true=>
   rw[hb,cond_true]at h
   obtain⟨lab,ρ,hR⟩:=hR
   exact gP.Sq h (Cj τ.rs _ ⟨_,_,hR.dr hb⟩)
end
end Go.Proofs.YtmffpkippmkjbaaGreatDoor
namespace Go.Proofs.YtmffpkippmkjbaaGreatDoor
open Go.RowKit
set_option linter.unusedVariables false
def sJ:List V->List Nat->List Lf
 | [],_=>[]
 | x :: xs,ns=>bif x.plain then .v x :: sJ xs ns else (match ns with
  | n :: ns=>.own [n] :: sJ xs ns
  | []=>.dead :: sJ xs [])
def wS:List V->List Nat->(Nat->Option ax)->Nat->Option ax
 | [],_,m,k=>m k
 | x :: xs,ns,m,k=>bif x.plain then wS xs ns m k else (match ns with
  | n :: ns=>bif Nat.beq k n then some (.sl x)else wS xs ns m k
  | []=>wS xs [] m k)
def iO(m:Nat->Option ax):List Lf->List Nat->Option (List V)
 | [],[]=>some []
 | .v x :: cs,ns=>bif x.plain then (match iO m cs ns with
  | some vs=>some (x :: vs)
  | none=>none)else none
 | .own [r] :: cs,n :: ns=>bif Nat.beq r n then (match m n with
  | some (.sl y)=>bif y.plain then none else (match iO m cs ns with
   | some vs=>some (y :: vs)
   | none=>none)
  | _=>none)else none
 | _,_=>none
abbrev Gp:=Nat×TC×Nat×List Nat
def Ck:List Gp->Type->Type
 | [],X=>X
 | g :: gs,X=>T g.2.1×Ck gs X
def Gj:(gs:List Gp)->(rs:List (Nat×Rm))->Ck gs (sH rs)->Nat->Option ax
 | [],rs,x,k=>sI rs x k
 | (n,t,o,ns) :: gs,rs,x,k=>bif Nat.beq k n then some (.blk (sJ (enc t o x.1) ns))else wS (enc t o x.1) ns (Gj gs rs x.2) k
def Gk:(gs:List Gp)->(rs:List (Nat×Rm))->(Nat->Option ax)->Option (Ck gs (sH rs))
 | [],rs,m=>zw rs m
 | (n,t,o,ns) :: gs,rs,m=>match m n with
  | some (.blk cs)=>(match iO m cs ns with
   | some vs=>(match dec t o vs,Gk gs rs m with
    | some x,some y=>some (x,y)
    | _,_=>none)
   | none=>none)
  | _=>none
def zx:List V->List Nat->List Lm
 | [],_=>[]
 | .int k _ :: xs,ns=>.int k :: zx xs ns
 | .bool _ :: xs,ns=>.bool :: zx xs ns
 | .str _ :: xs,ns=>.str :: zx xs ns
 | _ :: xs,n :: ns=>.own n :: zx xs ns
 | _ :: xs,[]=>.bool :: zx xs []
def Ml:List V->List Nat->List (Nat×Rm)
 | .sl t o _ _ :: xs,n :: ns=>(n,.sl t o) :: Ml xs ns
 | _ :: xs,ns=>Ml xs ns
 | [],_=>[]
def Mm:List Gp->List (Nat×Rm)->List (Nat×Rm)
 | [],rs=>rs
 | (n,t,o,ns) :: gs,rs=>(n,.blk (zx (PE t o) ns)) :: (Ml (PE t o) ns++Mm gs rs)
structure aC where
 ts:List (Nat×Tm)
 rs:List (Nat×Rm)
 gs:List Gp
def aC.St(τ:aC):Type:=zu τ.ts×Ck τ.gs (sH τ.rs)
def aC.mk'(τ:aC)(x:τ.St):S:=⟨sG τ.ts x.1,Gj τ.gs τ.rs x.2⟩
def aC.Gl(τ:aC)(σ:S):Option τ.St:=match Ch τ.ts σ.t,Gk τ.gs τ.rs σ.m with
 | some x,some y=>some (x,y)
 | _,_=>none
def aC.rd(τ:aC)(σ:S):Option τ.St:=match τ.Gl σ with
 | some x=>some x
 | none=>match gP.rd ⟨τ.ts,Mm τ.gs τ.rs⟩ σ with
  | some z=>τ.Gl (gP.mk' ⟨τ.ts,Mm τ.gs τ.rs⟩ z)
  | none=>none
section
variable {P:Program} {w w':World} {w0:Wd} {B N:Nat} {lab aj:aQ} {ρ ρ':Nat->Loc} {σ:S} {a:Act} {m:Nat->Option ax}
theorem aY.inv{x:V}{xs ys:List V}(k:aY (x :: xs) ys):∃ y zs,ys=y :: zs/\Wk x y/\aY xs zs:=by
 obtain⟨k1,k2⟩:=k
 cases ys with
 | nil=>simp at k1
 | cons y zs=>exact⟨y,zs,rfl,k2 0 x y rfl rfl,by simpa using k1,fun j a b ha hb=>k2 (j+1) a b (by simpa using ha) (by simpa using hb)⟩
theorem Wk.Sw{x y:V}(h:Wk x y)(hp:x.plain=true):y=x:=by
 cases h <;>first | rfl | cases hp
theorem Wk.Sx{x y:V}(h:Wk x y)(hp:x.plain=false):y.plain=false:=by
 cases h <;>first | exact hp | rfl
theorem Mn:∀ (cs:List Lf) (ns:List Nat) (vs ys:List V),iO m cs ns=some vs->aY vs ys->(sJ ys ns).length=cs.length/\∀ (j:Nat) z,(sJ ys ns)[j]?=some z->cs[j]?=some z
 | [],[],vs,ys,h,hw=>by
  simp only[iO,Option.some.injEq]at h
  subst h
  have:ys=[]:=List.eq_nil_of_length_eq_zero hw.1.symm
  subst this
  exact⟨rfl,fun j z hz=>by simp[sJ]at hz⟩
 | .v x :: cs,ns,vs,ys,h,hw=>by
  unfold iO at h
  cases hp:x.plain with
  | false=>rw[hp]at h;cases h
  | true=>
   rw[hp,cond_true]at h
   split at h
   ·rename_i us dN
    injection h with h
    subst h
    obtain⟨y,zs,rfl,k1,k2⟩:=hw.inv
    obtain rfl:=k1.Sw hp
    obtain⟨e1,e2⟩:=Mn cs ns us zs dN k2
    simp only[sJ,hp,cond_true]
    refine⟨by simp[e1],fun j z hz=>?_⟩
    cases j with
    | zero=>simpa using hz
    | succ j=>exact e2 j z (by simpa using hz)
   ·cases h
 | .own [r] :: cs,n :: ns,vs,ys,h,hw=>by
  unfold iO at h
  cases hb:Nat.beq r n with
  | false=>rw[hb]at h;cases h
  | true=>
   rw[hb,cond_true]at h
   obtain rfl:=Nat.eq_of_beq_eq_true hb
   split at h
   ·rename_i y hy
    cases hp:y.plain with
    | true=>rw[hp]at h;cases h
    | false=>
     rw[hp,cond_false]at h
     split at h
     ·rename_i us dN
      injection h with h
      subst h
      obtain⟨y',zs,rfl,k1,k2⟩:=hw.inv
      have hq:=k1.Sx hp
      obtain⟨e1,e2⟩:=Mn cs ns us zs dN k2
      simp only[sJ,hq,cond_false]
      refine⟨by simp[e1],fun j z hz=>?_⟩
      cases j with
      | zero=>simpa using hz
      | succ j=>exact e2 j z (by simpa using hz)
     ·cases h
   ·cases h
 | [],_ :: _,vs,ys,h,_=>by simp[iO]at h
 | .dead :: _,_,vs,ys,h,_=>by simp[iO]at h
 | .own [] :: _,_,vs,ys,h,_=>by simp[iO]at h
 | .own (_ :: _ :: _) :: _,_,vs,ys,h,_=>by simp[iO]at h
 | .own [_] :: _,[],vs,ys,h,_=>by simp[iO]at h
theorem Mo{f:Nat->Option ax}{k:Nat}{x:ax}:∀ (cs:List Lf) (ns:List Nat) (vs ys:List V),iO m cs ns=some vs->aY vs ys->wS ys ns f k=some x->f k=some x\/∃ v y,m k=some (.sl v)/\x = .sl y/\Wk v y
 | [],[],vs,ys,h,hw,hx=>by
  simp only[iO,Option.some.injEq]at h
  subst h
  have:ys=[]:=List.eq_nil_of_length_eq_zero hw.1.symm
  subst this
  exact .inl hx
 | .v x' :: cs,ns,vs,ys,h,hw,hx=>by
  unfold iO at h
  cases hp:x'.plain with
  | false=>rw[hp]at h;cases h
  | true=>
   rw[hp,cond_true]at h
   split at h
   ·rename_i us dN
    injection h with h
    subst h
    obtain⟨y,zs,rfl,k1,k2⟩:=hw.inv
    obtain rfl:=k1.Sw hp
    simp only[wS,hp,cond_true]at hx
    exact Mo cs ns us zs dN k2 hx
   ·cases h
 | .own [r] :: cs,n :: ns,vs,ys,h,hw,hx=>by
  unfold iO at h
  cases hb:Nat.beq r n with
  | false=>rw[hb]at h;cases h
  | true=>
   rw[hb,cond_true]at h
   obtain rfl:=Nat.eq_of_beq_eq_true hb
   split at h
   ·rename_i y hy
    cases hp:y.plain with
    | true=>rw[hp]at h;cases h
    | false=>
     rw[hp,cond_false]at h
     split at h
     ·rename_i us dN
      injection h with h
      subst h
      obtain⟨y',zs,rfl,k1,k2⟩:=hw.inv
      have hq:=k1.Sx hp
      simp only[wS,hq,cond_false]at hx
      cases hk:Nat.beq k r with
      | true=>
       rw[hk,cond_true]at hx
       injection hx with hx
       obtain rfl:=Nat.eq_of_beq_eq_true hk
       exact .inr ⟨y,y',hy,hx.symm,k1⟩
      | false=>
       rw[hk,cond_false]at hx
       exact Mo cs ns us zs dN k2 hx
     ·cases h
   ·cases h
 | [],_ :: _,vs,ys,h,_,_=>by simp[iO]at h
 | .dead :: _,_,vs,ys,h,_,_=>by simp[iO]at h
 | .own [] :: _,_,vs,ys,h,_,_=>by simp[iO]at h
 | .own (_ :: _ :: _) :: _,_,vs,ys,h,_,_=>by simp[iO]at h
 | .own [_] :: _,[],vs,ys,h,_,_=>by simp[iO]at h
theorem Sy:∀ (gs:List Gp) (rs:List (Nat×Rm)) (y:Ck gs (sH rs)),Gk gs rs m=some y->∀ k x,Gj gs rs y k=some x->∃ x0,m k=some x0/\∀ (w:World) (B:Nat) (lab:aQ) (ρ:Nat->Loc),cX w B lab ρ k x0->cX w B lab ρ k x
 | [],rs,y,h,k,x,hx=>by
  have h:zw rs m=some y:=h
  have hx:sI rs y k=some x:=hx
  rcases Mj rs m y h k with e | ⟨m',x0,z,e1,e2,e3⟩
  ·rw[e]at hx;cases hx
  ·rw[e3]at hx
   injection hx with hx
   subst hx
   exact⟨x0,e1,fun w B lab ρ hr=>Rm.nc e2 hr⟩
 | (n,t,o,ns) :: gs,rs,y,h,k,x,hx=>by
  unfold Gk at h
  split at h
  ·rename_i cs hm
   split at h
   ·rename_i vs eT
    split at h
    ·rename_i x1 y1 h1 h2
     injection h with h
     subst h
     have hw:=jC t o vs x1 h1
     simp only[Gj]at hx
     cases hk:Nat.beq k n with
     | true=>
      rw[hk,cond_true]at hx
      injection hx with hx
      subst hx
      obtain rfl:=Nat.eq_of_beq_eq_true hk
      obtain⟨e1,e2⟩:=Mn cs ns vs _ eT hw
      refine⟨_,hm,fun w B lab ρ hr=>?_⟩
      cases hr with
      | blk b off cells e _ us av hl hh hs hc=>exact .blk b off cells e _ us av hl hh (by rw[e1];exact hs) fun j z hz=>hc j z (e2 j z hz)
     | false=>
      rw[hk,cond_false]at hx
      rcases Mo cs ns vs _ eT hw hx with e | ⟨v,y',e1,rfl,e2⟩
      ·exact Sy gs rs y1 h2 k x e
      ·refine⟨_,e1,fun w B lab ρ hr=>?_⟩
       cases hr with
       | sl u _ av hr=>exact .sl u _ av (hr.wk e2)
    ·cases h
   ·cases h
  ·cases h
theorem aC.SA{τ:aC}{x:τ.St}(h:τ.Gl σ=some x)(hR:R w0 N σ a w):R w0 N (τ.mk' x) a w:=by
 unfold aC.Gl at h
 split at h
 ·rename_i u v h1 h2
  injection h with h
  subst h
  obtain⟨lab,ρ,hR⟩:=hR
  refine⟨lab,ρ,hR.below,hR.bV,fun n y hy=>?_,fun k=>?_,hR.size,hR.defers,hR.fix,hR.dM⟩
  ·obtain⟨x0,e1,e2⟩:=Sy τ.gs τ.rs v h2 n y hy
   exact e2 _ _ _ _ (hR.root n x0 e1)
  ·show RA _ _ _ _ (sG τ.ts u k) _
   rcases Mi τ.ts σ.t u h1 k with e | ⟨m,z,e1,e2⟩
   ·rw[e];trivial
   ·rw[e2];exact Tm.nc e1 (hR.tmp k)
 ·cases h
theorem aC.nc{τ:aC}{x:τ.St}(h:τ.rd σ=some x)(hR:R w0 N σ a w):R w0 N (τ.mk' x) a w:=by
 unfold aC.rd at h
 split at h
 ·rename_i y hy
  injection h with h
  subst h
  exact aC.SA hy hR
 ·split at h
  ·rename_i z hz
   exact aC.SA h (gP.nc hz hR)
  ·cases h
end
end Go.Proofs.YtmffpkippmkjbaaGreatDoor
namespace Go.Proofs.YtmffpkippmkjbaaGreatDoor
open Go.RowKit
set_option linter.unusedVariables false
def uN:Exit->Option Nat
 | .normal=>some 0
 | .ret=>some 1
 | .exit n=>some (n+2)
 | _=>none
def Mp:Nat->Exit
 | 0=>.normal
 | 1=>.ret
 | n+2=>.exit n
theorem oJ{e:Exit}{n:Nat}(h:uN e=some n):e=Mp n:=by
 cases e <;>simp[uN]at h <;>subst h <;>rfl
def uO:List (Nat×aC)->Type
 | []=>Empty
 | (_,τ) :: r=>τ.St⊕uO r
def Gm:(l:List (Nat×aC))->Nat->S->Option (uO l)
 | [],_,_=>none
 | (n,τ) :: r,e,σ=>bif Nat.beq n e then (match τ.rd σ with
  | some x=>some (.inl x)
  | none=>none)else (match Gm r e σ with
  | some x=>some (.inr x)
  | none=>none)
def Mq{X:Type}:(l:List (Nat×aC))->uO l->(Exit->S->Option X)->Option X
 | [],z,_=>nomatch z
 | (n,τ) :: r,z,k=>match z with
  | .inl x=>k (Mp n) (τ.mk' x)
  | .inr z=>Mq r z k
def iter{α β:Type}(step:α->Option (α⊕β)):Nat->α->Option β
 | 0,_=>none
 | n+1,x=>match step x with
  | some (.inl y)=>iter step n y
  | some (.inr z)=>some z
  | none=>none
def Gn(P:Program)(N:Nat)(Φ:cY)(Λ:jS)(body:Code)(τ:aC)(lZ:List (Nat×aC))(x:τ.St):Option (τ.St⊕uO lZ):=
 eY P N Φ Λ body (τ.mk' x) fun e σ=>match uN e with
  | some 0=>(match τ.rd σ with
   | some x=>some (.inl x)
   | none=>none)
  | some n=>(match Gm lZ n σ with
   | some x=>some (.inr x)
   | none=>none)
  | none=>none
def Mr{X:Type}(id:Nat)(k:Exit->S->Option X)(e:Exit)(σ:S):Option X:=
 match e with
 | .exit nU=>if nU=id then k .normal σ else k (.exit nU) σ
 | e=>k e σ
def bu(id:Nat)(τ:aC)(lZ:List (Nat×aC))(F:τ.St->Option (τ.St⊕uO lZ))(fuel:τ.St->Nat):bh:=
 ⟨fun X σ k=>match τ.rd σ with
  | some x=>(match iter F (fuel x) x with
   | some z=>Mq lZ z (Mr id k)
   | none=>none)
  | none=>none⟩
def k8:List (Bool×TC)->Type
 | []=>Unit
 | (_,t) :: r=>T t×k8 r
def fH:(l:List (Bool×TC))->k8 l->List Pt
 | [],_=>[]
 | (b,t) :: r,x=>(b,enc t 0 x.1) :: fH r x.2
def uP:(l:List (Bool×TC))->List Pt->Option (k8 l)
 | [],[]=>some ()
 | (b,t) :: r,(b',vs) :: ps=>bif b==b' then (match dec t 0 vs,uP r ps with
  | some x,some xs=>some (x,xs)
  | _,_=>none)else none
 | _,_=>none
def aH(ai:List (Bool×TC))(ro:List (Bool×TC×Nat))(F:k8 ai->Option (jI ro)):aI:=
 ⟨fun X args k=>match uP ai args with
  | some x=>(match F x with
   | some y=>k (dK ro y)
   | none=>none)
  | none=>none⟩
def Ms:Pt->A
 | (false,[x])=>.lf (.v x)
 | (true,xs)=>.agg (xs.map .v)
 | (false,.bool true :: c :: cs)=>.fL (c :: cs)
 | (false,.bool false :: .int .i64 (.ofNat g) :: c :: cs)=>.jD g (c :: cs)
 | _=>.undef
def SB(args:List Pt):S:=⟨fun k=>match args[k]? with
 | some p=>Ms p
 | none=>.undef,fun _=>none⟩
def qO{X:Type}(P:Program)(N:Nat)(Φ:cY)(Λ:jS)(code:Code)(rv:Array ResultVar)(args:List Pt)(k:eM->Option X):Option X:=
 eY P N Φ Λ code (SB args) fun e σ=>match uN e with
  | some 0=>Bl P σ rv k
  | some 1=>Bl P σ rv k
  | _=>none
section
variable {P:Program} {w w':World} {w0:Wd} {B N:Nat} {lab aj:aQ} {ρ ρ':Nat->Loc} {σ:S} {a:Act} {X:Type} {d:Nat} {r:X} {o:Oper} {Φ:cY} {Λ:jS}
theorem SC:∀ (l:List (Nat×aC)) (e:Nat) (z:uO l),Gm l e σ=some z->∀ (X:Type) (k:Exit->S->Option X),∃ af,Mq l z k=k (Mp e) af/\∀ a w,R w0 N σ a w->R w0 N af a w
 | [],e,z,h=>by cases h
 | (n,τ) :: l,e,z,h=>by
  intro X k
  unfold Gm at h
  cases hb:Nat.beq n e with
  | true=>
   obtain rfl:=Nat.eq_of_beq_eq_true hb
   rw[hb,cond_true]at h
   split at h
   ·rename_i x hx
    injection h with h
    subst h
    exact⟨τ.mk' x,rfl,fun a w hR=>aC.nc hx hR⟩
   ·cases h
  | false=>
   rw[hb,cond_false]at h
   split at h
   ·rename_i x hx
    injection h with h
    subst h
    exact SC l e x hx X k
   ·cases h
theorem ae7{id:Nat}{body:Code}{τ:aC}{lZ:List (Nat×aC)}{F:τ.St->Option (τ.St⊕uO lZ)}{fuel:τ.St->Nat}(aU:ej P Φ)(eZ:mW P N Λ (occs body))(hF:∀ x,Gn P N Φ Λ body τ lZ x=F x):br P N (.block id (.loop body)) (bu id τ lZ F fuel):=by
 intro X σ k r w0 h a w hR
 simp only[bu]at h
 split at h
 ·rename_i x hx
  split at h
  ·rename_i z hz
   refine wp_block ?_
   have key:∀ (n:Nat) (x:τ.St),iter F n x=some z->∀ (a:Act) (w:World),R w0 N (τ.mk' x) a w->∀ (b:Frame) (kk:List Item) (cs:List Frame),
     ∃ e a' w',Exit.inBlock id (fun e a' w'=>∃ af,k e af=some r/\R w0 N af a' w') e a' w'/\Arrives P (lone (b.at a (.code body :: .inLoop body :: kk)) cs w) b kk cs e a' w':=by
    intro n
    induction n with
    | zero=>intro x hx;simp[iter]at hx
    | succ n ih=>
     intro x hx a w hR b kk cs
     simp only[iter]at hx
     have gB:∃ y,Gn P N Φ Λ body τ lZ x=some y/\(match y with | .inl y=>iter F n y=some z | .inr z'=>z'=z):=by
      rw[hF]
      split at hx
      ·rename_i y hy;exact⟨_,hy,hx⟩
      ·rename_i y hy;exact⟨_,hy,by injection hx⟩
      ·cases hx
     obtain⟨y,hy,Gq⟩:=gB
     unfold Gn at hy
     have hwp:=zp (w0:=w0) aU body _ _ hy eZ a w hR
     obtain⟨e,a1,w1,⟨lT,mZ,mT⟩,Gr⟩:=hwp b (.inLoop body :: kk) cs
     split at mZ
     ·rename_i he
      have he:=oJ he
      subst he
      split at mZ
      ·rename_i x1 vF
       injection mZ with mZ
       subst mZ
       obtain⟨e2,a2,w2,oC,ae8⟩:=ih x1 Gq a1 w1 (aC.nc vF mT) b kk cs
       exact⟨e2,a2,w2,oC,.of_steps (Steps.trans Gr (.one step_inLoop)) ae8⟩
      ·cases mZ
     ·rename_i n' aK he
      have he:=oJ he
      split at mZ
      ·rename_i z1 hz1
       injection mZ with mZ
       subst mZ
       have Gq:z1=z:=Gq
       subst Gq
       obtain⟨σ2,ki,iM⟩:=SC (w0:=w0) (N:=N) lZ n' z1 hz1 X (Mr id k)
       rw[ki]at h
       rw[<-he]at h
       refine⟨e,a1,w1,?_,?_⟩
       ·cases e with
        | exit nU=>
         simp only[Mr]at h
         simp only[Exit.inBlock]
         split at h
         ·rename_i hid;rw[if_pos hid];exact⟨σ2,h,iM a1 w1 mT⟩
         ·rename_i hid;rw[if_neg hid];exact⟨σ2,h,iM a1 w1 mT⟩
        | _=>exact⟨σ2,h,iM a1 w1 mT⟩
       ·refine .pass (x:=.inLoop body) rfl (fun _ _=>.inl ?_) Gr
        intro e'
        rw[e']at he
        match n',aK,he with
        | 0,aK,_=>exact aK rfl
        | 1,_,he=>cases he
        | n+2,_,he=>cases he
      ·cases mZ
     ·cases mZ
   intro b kk cs
   obtain⟨e,a',w',hq,Gr⟩:=key (fuel x) x hz a w (aC.nc hx hR) b kk cs
   exact⟨e,a',w',hq,.of_steps (.one step_loop) Gr⟩
  ·cases h
 ·cases h
theorem PV.pR{key:Nat->List Nat}{b:Bool}{xs ys:List V}{u:Value}(h:PV w B lab key (b,xs) u)(k:aY xs ys):PV w B lab key (b,ys) u:=by
 obtain⟨us,hu,hs,hr⟩:=h
 refine⟨us,hu,hs.trans k.1,fun j y hy=>?_⟩
 have hj:j<xs.length:=by rw[k.1];exact(List.getElem?_eq_some_iff.1 hy).1
 obtain⟨v,hv,cw⟩:=hr j _ (List.getElem?_eq_getElem hj)
 exact⟨v,hv,cw.wk (k.2 j _ y (List.getElem?_eq_getElem hj) hy)⟩
theorem uh.pR{cs ds:List V}{u:Value}(h:uh w cs u)(k:aY cs ds):uh w ds u:=by
 obtain⟨b,off,hu,hb,hr⟩:=h
 refine⟨b,off,hu,hb,fun j y hy=>?_⟩
 have hj:j<cs.length:=by rw[k.1];exact(List.getElem?_eq_some_iff.1 hy).1
 obtain⟨v,hv,cw⟩:=hr j _ (List.getElem?_eq_getElem hj)
 exact⟨v,hv,cw.wk (k.2 j _ y (List.getElem?_eq_getElem hj) hy)⟩
theorem PA.pR{b:Bool}{xs ys:List V}{u:Value}(h:PA w (b,xs) u)(k:aY xs ys):PA w (b,ys) u:=by
 cases h with
 | v _ _ h=>exact .v _ _ (h.pR k)
 | p c cs _ h=>
  obtain⟨y,zs,rfl,k1,k2⟩:=k.inv
  cases k1
  have h:=h.pR k2
  obtain⟨c',cz,rfl,_,_⟩:=k2.inv
  exact .p _ _ _ h
 | f g c cs u h=>
  obtain⟨y,zs,rfl,k1,k2⟩:=k.inv
  cases k1
  obtain⟨y,zs,rfl,k1,k3⟩:=k2.inv
  cases k1
  have h:=h.pR k3
  obtain⟨c',cz,rfl,_,_⟩:=k3.inv
  exact .f _ _ _ _ h
theorem PA.ra{p:Pt}{u:Value}(h:PA w p u)(hf:∀ y∈p.2,y.ah=true):RA w w.heap.size (fun _=>none) ρ (Ms p) u:=by
 have SD:∀ {cs:List V} {u:Value},uh w cs u->(∀ y∈cs,y.ah=true)->RF w w.heap.size (fun _=>none) cs u:=by
  rintro cs u ⟨b,off,rfl,hb,hr⟩ hf
  refine⟨b,off,rfl,hb,rfl,fun j x hx=>⟨hf x (List.mem_of_getElem? hx),hr j x hx⟩⟩
 cases h with
 | v _ _ h=>
  obtain⟨us,hu,hs,hr⟩:=h
  obtain⟨b,xs⟩:=p
  cases b with
  | true=>
   refine⟨us,hu,by rw[List.length_map];exact hs,fun i y hy=>?_⟩
   rw[List.getElem?_map]at hy
   cases hz:xs[i]? with
   | none=>rw[hz]at hy;cases hy
   | some z=>
    rw[hz]at hy
    injection hy with hy
    subst hy
    obtain⟨v,hv,cw⟩:=hr i z hz
    exact⟨v,hv,hf z (List.mem_of_getElem? hz),cw⟩
  | false=>
   have hu:us = #[u]:=hu
   subst hu
   have h1:xs.length=1:=hs.symm
   obtain⟨x,rfl⟩:=List.length_eq_one_iff.1 h1
   obtain⟨v,hv,cw⟩:=hr 0 x rfl
   have:u=v:=by simpa using hv
   subst this
   exact⟨hf x (by simp),cw⟩
 | p c cs _ h=>exact SD h fun y hy=>hf y (.tail _ hy)
 | f g c cs u h=>exact⟨u,rfl,SD h fun y hy=>hf y (.tail _ (.tail _ hy))⟩
theorem Cl:∀ (l:List (Bool×TC)) (ps:List Pt) (x:k8 l),uP l ps=some x->(fH l x).length=ps.length/\∀ (i:Nat) p,(fH l x)[i]?=some p->∃ q,ps[i]?=some q/\q.1=p.1/\aY q.2 p.2
 | [],[],x,h=>⟨rfl,fun i p hp=>by simp[fH]at hp⟩
 | (b,t) :: r,(b',vs) :: ps,x,h=>by
  unfold uP at h
  cases hb:b==b' with
  | false=>rw[hb]at h;cases h
  | true=>
   rw[hb,cond_true]at h
   have hb:b=b':=by simpa using hb
   subst hb
   split at h
   ·rename_i y ys h1 h2
    injection h with h
    subst h
    obtain⟨k1,k2⟩:=Cl r ps ys h2
    refine⟨by simp[fH,k1],fun i p hp=>?_⟩
    cases i with
    | zero=>simp[fH]at hp;subst hp;exact⟨(b,vs),rfl,rfl,jC t 0 vs y h1⟩
    | succ i=>exact k2 i p (by simpa [fH]using hp)
   ·cases h
 | [],_ :: _,x,h=>by simp[uP]at h
 | _ :: _,[],x,h=>by simp[uP]at h
theorem aY.loc{xs ys:List V}(h:aY xs ys)(hx:xs.all V.loc=true):(∀ y∈ys,∃ x∈xs,Wk x y):=by
 intro y hy
 obtain⟨j,hj⟩:=List.mem_iff_getElem?.1 hy
 have hjx:j<xs.length:=by rw[h.1];exact(List.getElem?_eq_some_iff.1 hj).1
 exact⟨xs[j],List.getElem_mem _,h.2 j _ y (List.getElem?_eq_getElem hjx) hj⟩
def pS(l:List (Bool×TC×Nat)):Bool:=l.all fun p=>Nat.ble (full p.2.1) p.2.2
theorem SE(t:TC)(g:Nat)(x:T t)(h:full t<=g):(enc t g x).all V.loc=true:=by
 rw[List.all_eq_true]
 intro y hy
 have hg:=rq t g x y hy
 have hl:=EP t g x y hy
 cases y with
 | sl t' o' q l=>
  have ho:o'=g:=by simpa [V.gr]using hg
  subst ho
  have hl:full t'+2<=full t:=Nat.le_of_ble_eq_true hl
  show uj t' o'=true
  match o',h with
  | 0,h=>omega
  | 1,h=>omega
  | n+2,h=>
   simp only[uj,Bool.or_eq_true]
   left
   exact Nat.ble_eq_true_of_le (by omega)
 | _=>rfl
theorem Mt:∀ (l:List (Bool×TC×Nat)) (ps:List Pt) (x:jI l),pS l=true->jJ l ps=some x->(pe l x).length=ps.length/\∀ (nm:Nat->Nat) (off:Nat) (vs:List Value),gM w B lab nm off ps vs->gM w B lab nm off (pe l x) vs
 | [],[],x,_,h=>⟨rfl,fun nm off vs hr=>hr⟩
 | [(b,t,g)],[(b',vs)],x,ho,h=>by
  unfold jJ at h
  cases hb:b==b' with
  | false=>rw[hb]at h;cases h
  | true=>
   rw[hb]at h
   have h:dec t g vs=some x:=h
   have hb:b=b':=by simpa using hb
   subst hb
   have hg:full t<=g:=by simpa [pS]using ho
   refine⟨rfl,fun nm off us hr=>?_⟩
   match us,hr with
   | [u],⟨⟨_,h1⟩,_⟩=>exact⟨⟨SE t g x hg,h1.pR (jC t g vs x h)⟩,trivial⟩
 | (b,t,g) :: q :: r,(b',vs) :: ps,x,ho,h=>by
  unfold jJ at h
  cases hb:b==b' with
  | false=>rw[hb]at h;cases h
  | true=>
   rw[hb,cond_true]at h
   have hb:b=b':=by simpa using hb
   subst hb
   have pP:full t<=g/\pS (q :: r)=true:=by
    simp only[pS,List.all_cons,Bool.and_eq_true]at ho ⊢
    exact⟨Nat.le_of_ble_eq_true ho.1,ho.2⟩
   split at h
   ·rename_i y ys h1 h2
    injection h with h
    subst h
    obtain⟨k1,k2⟩:=Mt (q :: r) ps ys pP.2 h2
    refine⟨by simp[pe,k1],fun nm off us hr=>?_⟩
    match us,hr with
    | u :: us,⟨⟨_,hp⟩,gL⟩=>
     have hlen:vs.length=(enc t g y).length:=(jC t g vs y h1).1
     refine⟨⟨SE t g y pP.1,hp.pR (jC t g vs y h1)⟩,?_⟩
     have rO:off+vs.length=off+(enc t g y).length:=by rw[hlen]
     have gL:gM w B lab nm (off+vs.length) ps us:=gL
     rw[rO]at gL
     exact k2 nm _ us gL
   ·cases h
 | [],_ :: _,x,_,h=>by simp[jJ]at h
 | [_],[],x,_,h=>by simp[jJ]at h
 | [_],_ :: _ :: _,x,_,h=>by simp[jJ]at h
 | _ :: _ :: _,[],x,_,h=>by simp[jJ]at h
theorem SF{l:List (Bool×TC×Nat)}{res:eM}{x:jI l}(ho:pS l=true)(h:lQ l res=some x){nm:Nat->Nat}{v:Value}(hr:mP w B lab nm res v):mP w B lab nm (dK l x) v:=by
 cases res with
 | one p=>
  obtain⟨k1,k2⟩:=Mt (w:=w) (B:=B) (lab:=lab) l [p] x ho h
  have hr:gM w B lab nm 0 [p] [v]:=hr
  have:=k2 nm 0 [v] hr
  unfold dK
  match hm:pe l x,k1,this with
  | [q],_,this=>exact this
  | [],k1,_=>cases k1
  | _ :: _ :: _,k1,_=>simp at k1
 | bJ ps=>
  simp only[lQ]at h
  cases hb:Nat.beq ps.length 1 with
  | true=>rw[hb]at h;cases h
  | false=>
   rw[hb,cond_false]at h
   obtain⟨k1,k2⟩:=Mt (w:=w) (B:=B) (lab:=lab) l ps x ho h
   obtain⟨vs,e,hr⟩:=hr
   have:=k2 nm 0 _ hr
   unfold dK
   match hm:pe l x,k1,this with
   | [q],k1,this=>simp only[List.length_singleton]at k1;rw[<-k1]at hb;cases hb
   | [],_,this=>exact⟨vs,e,this⟩
   | _ :: _ :: _,_,this=>exact⟨vs,e,this⟩
theorem SG:∀ (l:List (Bool×TC)) (x:k8 l),(fH l x).length=l.length
 | [],x=>rfl
 | (b,t) :: l,x=>by simp[fH,SG l]
theorem SH:∀ (l:List (Bool×TC)) (x:k8 l) (j:Nat) (p:Pt),(fH l x)[j]?=some p->∀ y∈p.2,y.ah=true
 | [],x,j,p,hp,_,_=>by simp[fH]at hp
 | (b,t) :: l,x,0,p,hp,y,hy=>by
  simp[fH]at hp
  subst hp
  obtain⟨i,hi⟩:=List.mem_iff_getElem?.1 hy
  exact hG t 0 x.1 (by omega) i y hi
 | (b,t) :: l,x,j+1,p,hp,y,hy=>SH l x.2 j p (by simpa [fH]using hp) y hy
theorem Cm{f:Nat}{fn:Func}{code:Code}{pT:List Pt}{ro:List (Bool×TC×Nat)}{y:jI ro}(hf:P.funcs[f]?=some fn)(hb:fn.body=some code)(hN:fn.ntmps=N)(hle:pT.length<=N)(bZ:pS ro=true)
  (aU:ej P Φ) (eZ:mW P N Λ (occs code)) (ae9:∀ (j:Nat) p,pT[j]?=some p->∀ y∈p.2,y.ah=true) (hy:qO P N Φ Λ code fn.results pT (lQ ro)=some y) (nm:Nat->Nat) (w:World) (aT:Array Value) (eW:nK w pT aT) (hQ:Hd w (fun _=>none)):
  Calls P f aT w fun e w'=>∃ v aj,e = .returned v/\Below w.heap.size w w'/\(∀ b k,aj b=some k->w.heap.size<=b/\b<w'.heap.size/\k≠[])/\mP w' w.heap.size aj nm (dK ro y) v:=by
 have hle:aT.size<=N:=by rw[eW.1];exact hle
 refine calls_of_wp hf hb ?_
 unfold qO at hy
 have hR:R (.of w hQ) N (SB pT) { tmps:=aT++Array.replicate (fn.ntmps-aT.size) undef,defers:=[] } w:=by
  refine⟨fun _=>none,fun _=>.blk 0 0,.of (Below.refl w.heap.size w) (Nat.le_refl _),(fun b k hk=>by cases hk),(fun n y hy=>by cases hy),fun j=>?_,by simp[hN];omega,rfl,(fun r l h=>by cases h),(fun _ _=>rfl)⟩
  show RA w w.heap.size _ _ (match pT[j]? with | some p=>Ms p | none=>.undef) _
  cases hp:pT[j]? with
  | none=>trivial
  | some p=>
   obtain⟨u,hu,pn⟩:=eW.2 j p hp
   have hj:j<aT.size:=(Array.getElem?_eq_some_iff.1 hu).1
   have e:(aT++Array.replicate (fn.ntmps-aT.size) undef).getD j undef=u:=by rw[Array.getD_eq_getD_getElem?,Array.getElem?_append_left hj,hu];rfl
   rw[e]
   exact pn.ra (ae9 j p hp)
 refine wp_mono (zp (w0:=.of w hQ) aU code _ _ hy eZ _ w hR) fun e a' w' he=>?_
 obtain⟨af,hk,lab,ρ,aA⟩:=he
 have fin:Bl P af fn.results (lQ ro)=some y->a'.defers=[]/\∃ v,(results fn a'.tmps).run P w' = .ok v w'/\∃ uQ aj,Ending.returned v=Ending.returned uQ/\Below w.heap.size w w'/\(∀ b k,aj b=some k->w.heap.size<=b/\b<w'.heap.size/\k≠[])/\mP w' w.heap.size aj nm (dK ro y) uQ:=by
  intro fe
  obtain⟨res,eX,aL⟩:=acz (w0:=.of w hQ) (N:=N) (fn:=fn) fe
  obtain⟨v,aj,h1,h2,h3⟩:=aL lab ρ a' w' aA nm
  exact⟨aA.defers,v,h1,v,aj,rfl,⟨aA.below.os,aA.below.tape,aA.below.output,aA.below.size,fun k hk=>aA.below.block k hk rfl⟩,fun b k hb=>⟨(h2 b k hb).1.resolve_right (fun h=>h rfl),(h2 b k hb).2⟩,SF bZ eX h3⟩
 split at hk
 ·rename_i he
  have he:=oJ he
  subst he
  exact fin hk
 ·rename_i he
  have he:=oJ he
  subst he
  exact fin hk
 ·cases hk
theorem afa{f:Nat}{fn:Func}{code:Code}{ai:List (Bool×TC)}{ro:List (Bool×TC×Nat)}{F:k8 ai->Option (jI ro)}(hf:P.funcs[f]?=some fn)(hb:fn.body=some code)(hN:fn.ntmps=N)(kJ:(fn.name == "runtime.NumGoroutine")=false)(pU:Nat.ble ai.length N=true)(bZ:pS ro=true)
  (aU:ej P Φ) (eZ:mW P N Λ (occs code)) (hF:∀ x,qO P N Φ Λ code fn.results (fH ai x) (lQ ro)=F x):enters P f/\aG P f (aH ai ro F):=by
 refine⟨⟨fn,hf,kJ,by rw[hb];rfl⟩,fun X args k r h=>?_⟩
 simp only[aH]at h
 split at h
 ·rename_i x hx
  split at h
  ·rename_i y hy
   refine⟨_,h,fun X' k'=>by simp only[aH,hx,hy],fun nm w aT eW hQ=>?_⟩
   obtain⟨k1,k2⟩:=Cl ai args x hx
   refine Cm hf hb hN (by rw[SG];exact Nat.le_of_ble_eq_true pU) bZ aU eZ (SH ai x) ((hF x).trans hy) nm w aT ⟨eW.1.trans k1.symm,fun j p hp=>?_⟩ hQ
   obtain⟨q,hq,mS,oC⟩:=k2 j p hp
   obtain⟨u,hu,pn⟩:=eW.2 j q hq
   refine⟨u,hu,?_⟩
   obtain⟨b,ys⟩:=p
   obtain⟨b',xs⟩:=q
   simp only at mS
   subst mS
   exact pn.pR oC
  ·cases h
 ·cases h
theorem afb{f:Nat}{fn:Func}{code:Code}{t:TC}{g:Nat}{F:List (T t)->Option (List (T t))}(hf:P.funcs[f]?=some fn)(hb:fn.body=some code)(hN:fn.ntmps=N)(kJ:(fn.name == "runtime.NumGoroutine")=false)(pU:Nat.ble 1 N=true)(bZ:pS [(false,.sl t,g)]=true)
  (aU:ej P Φ) (eZ:mW P N Λ (occs code)) (hF:∀ x:List (T t),qO P N Φ Λ code fn.results [(false,[.sl t 0 false x])] (lQ [(false,.sl t,g)])=F x)
  (h0:qO P N Φ Λ code fn.results [(false,[.nil])] (lQ [(false,.sl t,g)])=some ([]:List (T t))) (h1:qO P N Φ Λ code fn.results [(false,[.sl t 0 true []])] (lQ [(false,.sl t,g)])=some ([]:List (T t))):
  enters P f/\aG P f (aH [(false,.sl t)] [(false,.sl t,g)] fun x=>bif rU x.1 then some ([]:List (T t))else F x.1):=by
 refine⟨⟨fn,hf,kJ,by rw[hb];rfl⟩,fun X args k r h=>?_⟩
 simp only[aH]at h
 split at h
 ·rename_i x hx
  split at h
  ·rename_i y hy
   refine⟨_,h,fun X' k'=>by simp only[aH,hx,hy],fun nm w aT eW hQ=>?_⟩
   obtain⟨k1,k2⟩:=Cl _ args x hx
   obtain⟨l,_⟩:=x
   have Mv:nK w [(false,[.sl t 0 false l])] aT:=⟨eW.1.trans k1.symm,fun j p hp=>by
    obtain⟨q,hq,mS,oC⟩:=k2 j p hp
    obtain⟨u,hu,pn⟩:=eW.2 j q hq
    refine⟨u,hu,?_⟩
    obtain⟨b,ys⟩:=p
    obtain⟨b',xs⟩:=q
    simp only at mS
    subst mS
    exact pn.pR oC⟩
   have hle:1<=N:=Nat.le_of_ble_eq_true pU
   have Gs:∀ (v:V),v.ah=true->∀ (j:Nat) p,([(false,[v])]:List Pt)[j]?=some p->∀ y∈p.2,y.ah=true:=by
    intro v hv j p hp y hy
    rcases j with _ | j
    ·injection hp with hp
     subst hp
     rw[List.mem_singleton.1 hy]
     exact hv
    ·cases hp
   obtain⟨u,hu,hp⟩:=Mv.2 0 _ rfl
   obtain⟨us,e,_,hv⟩:=hp.pv
   have e:us = #[u]:=e
   subst e
   obtain⟨v,g1,hr⟩:=hv 0 _ rfl
   have g1:u=v:=by simpa using g1
   subst g1
   have one:∀ v:V,RV w w.heap.size (fun _=>none) [] v u->nK w [(false,[v])] aT:=fun v hr=>⟨Mv.1,fun j p hp=>by
    rcases j with _ | j
    ·injection hp with hp
     subst hp
     exact⟨u,hu,.v _ _ ⟨#[u],rfl,rfl,fun i x hx=>by
      rcases i with _ | i
      ·injection hx with hx
       subst hx
       exact⟨u,rfl,hr⟩
      ·cases hx⟩⟩
    ·cases hp⟩
   cases l with
   | cons a l=>exact Cm (pT:=[(false,[.sl t 0 false (a :: l)])]) hf hb hN hle bZ aU eZ (Gs _ rfl) ((hF _).trans hy) nm w aT Mv hQ
   | nil=>
    have hy:some ([]:List (T t))=some y:=hy
    injection hy with hy
    subst hy
    cases hr with
    | bO=>exact Cm (pT:=[(false,[.nil])]) hf hb hN hle bZ aU eZ (Gs _ rfl) h0 nm w aT (one _ (.nil _)) hQ
    | bY _ _ _ A c ho=>exact Cm (pT:=[(false,[.sl t 0 true []])]) hf hb hN hle bZ aU eZ (Gs _ rfl) h1 nm w aT (one _ (.cy _ _ _ _ _ ho)) hQ
    | ah _ _ _ qn l b off cap us ho hl EX hB hcap hc ji=>exact Cm (pT:=[(false,[.sl t 0 true []])]) hf hb hN hle bZ aU eZ (Gs _ rfl) h1 nm w aT (one _ (.cy _ _ _ _ _ ho)) hQ
  ·cases h
 ·cases h
end
end Go.Proofs.YtmffpkippmkjbaaGreatDoor
namespace Go.Proofs.YtmffpkippmkjbaaGreatDoor
open Go.RowKit
set_option linter.unusedVariables false
def Mw{X:Type}(P:Program)(N:Nat)(Φ:cY)(Λ:jS)(code:Code)(rv:Array ResultVar)(ins:List In)(args:List Ar)(k:List In->eM->Option X):Option X:=
 eY P N Φ Λ code (qv ins args) fun e σ=>match uN e with
  | some 0=>Bu P σ rv ins k
  | some 1=>Bu P σ rv ins k
  | _=>none
section
variable {P:Program} {w w':World} {w0:Wd} {B N:Nat} {lab aj:aQ} {ρ ρ':Nat->Loc} {σ:S} {a:Act} {X:Type} {d:Nat} {r:X} {o:Oper} {Φ:cY} {Λ:jS}
theorem fnM_core{f:Nat}{fn:Func}{code:Code}{ins:List In}{args:List Ar}{k:List In->eM->Option X}(hf:P.funcs[f]?=some fn)(hb:fn.body=some code)(hN:fn.ntmps=N)(uR:N<=20000)(hlen:args.length<=N)
  (aU:ej P Φ) (eZ:mW P N Λ (occs code)) (h:Mw P N Φ Λ code fn.results ins args k=some r) (nm:Nat->Nat) (w:World) (lab:aQ) (ρ:Nat->Loc) (aT:Array Value)
  (hE:lP w w.heap.size lab ρ 0 ins) (ij:∀ b k,lab b=some k->b<w.heap.size/\k≠[]) (hsz:aT.size=args.length) (hv:∀ i,RA w w.heap.size lab ρ ((qv ins args).t i) (aT.getD i undef)) (hQ:Hd w lab):
  Calls P f aT w fun e w'=>∃ v aj outs res,k outs res=some r/\e = .returned v/\gv ⟨w,lab,fun _=>none,hQ,fun _ _=>rfl⟩ w w'/\(∀ b k,aj b=some k->(w.heap.size<=b\/lab b≠none)/\b<w'.heap.size/\k≠[])/\mP w' w.heap.size aj nm res v/\nO w w' aj ρ nm 0 res.len ins outs:=by
 let W:Wd:=⟨w,lab,fun r=>if 20000<=r/\r<60000 then some (ρ r)else none,hQ,fun r hr=>if_neg (by omega)⟩
 refine calls_of_wp hf hb ?_
 unfold Mw at h
 have hR:R W N (qv ins args) { tmps:=aT++Array.replicate (fn.ntmps-aT.size) undef,defers:=[] } w:=by
  refine⟨lab,ρ,.of (Below.refl w.heap.size w) (Nat.le_refl _),fun b k hb=>⟨.inr (by rw[show W.L b=lab b from rfl,hb];simp),ij b k hb⟩,lP.roots ins 0 _ hE (fun r x hx=>by cases hx),fun j=>?_,by simp[hN];omega,rfl,fun r l hr=>?_,fun r hr=>?_⟩
  ·by_cases hj:j<aT.size
   ·have e:(aT++Array.replicate (fn.ntmps-aT.size) undef).getD j undef=aT.getD j undef:=by
     rw[Array.getD_eq_getD_getElem?,Array.getElem?_append_left hj,Array.getD_eq_getD_getElem?]
    show RA w w.heap.size lab ρ _ ((aT++Array.replicate (fn.ntmps-aT.size) undef).getD j undef)
    rw[e]
    exact hv j
   ·have e:(qv ins args).t j = .undef:=by
     simp only[qv,List.getElem?_eq_none (by omega:args.length<=j)]
    rw[e]
    trivial
  ·have hr:(if 20000<=r/\r<60000 then some (ρ r)else none)=some l:=hr
   split at hr
   ·injection hr
   ·cases hr
  ·show (if 20000<=r/\r<60000 then some (ρ r)else none)=none
   rw[if_neg (by omega)]
 refine wp_mono (zp (w0:=W) aU code _ _ h eZ _ w hR) fun e a' w' he=>?_
 obtain⟨af,hk,iq,oz,aA⟩:=he
 have fin:Bu P af fn.results ins k=some r->a'.defers=[]/\∃ v,(results fn a'.tmps).run P w' = .ok v w'/\∃ uQ aj outs res,k outs res=some r/\Ending.returned v=Ending.returned uQ/\gv ⟨w,lab,fun _=>none,hQ,fun _ _=>rfl⟩ w w'/\(∀ b k,aj b=some k->(w.heap.size<=b\/lab b≠none)/\b<w'.heap.size/\k≠[])/\mP w' w.heap.size aj nm res uQ/\nO w w' aj ρ nm 0 res.len ins outs:=by
  intro fe
  obtain⟨outs,res,hko,aL⟩:=acB (w0:=W) (N:=N) (fn:=fn) (w1:=w) (qw:=ρ) rfl (fun r h1 h2=>if_pos ⟨h1,h2⟩) (lP.uv ins 0 hE) fe
  obtain⟨v,aj,h1,h2,h3,h4⟩:=aL iq oz a' w' aA nm
  exact⟨aA.defers,v,h1,v,aj,outs,res,hko,rfl,⟨aA.below.os,aA.below.tape,aA.below.output,aA.below.size,fun k hk=>aA.below.block k hk⟩,h2,h3,h4⟩
 split at hk
 ·rename_i he
  have he:=oJ he
  subst he
  exact fin hk
 ·rename_i he
  have he:=oJ he
  subst he
  exact fin hk
 ·cases hk
end
end Go.Proofs.YtmffpkippmkjbaaGreatDoor
namespace Go.Proofs.YtmffpkippmkjbaaGreatDoor
open Go.RowKit
set_option linter.unusedVariables false
def nZ:(l:List (Bool×TC×Nat))->List In->Option (si l)
 | [],[]=>some ()
 | (true,t,g) :: r,.blk cs :: is=>match dec t g cs,nZ r is with
  | some x,some xs=>some (x,xs)
  | _,_=>none
 | (false,t,g) :: r,.sl y :: is=>match y.cR t (g+2),nZ r is with
  | some x,some xs=>some (x,xs)
  | _,_=>none
 | _,_=>none
def Gt:List In->List In->List In->Prop
 | [],[],[]=>True
 | .blk Gu :: r0,.blk cs :: r,.blk cz :: r'=>(aY cs cz/\Gu.map (fun v=>(v.plain,v.ah))=cz.map (fun v=>(v.plain,v.ah))/\∀ x∈cz,x.mI=true)/\Gt r0 r r'
 | .sl _ :: r0,.sl y :: r,.sl y' :: r'=>Wk y y'/\Gt r0 r r'
 | _,_,_=>False
theorem Gw:∀ (ps:List PK) (x0:kE ps) (is:List In) (x:si (dQ ps)),nZ (dQ ps) is=some x->Gt (nP ps x0) is (fZ (dQ ps) x)
 | [],_,[],x,_=>trivial
 | [],_,_ :: _,x,h=>by simp[nZ,dQ]at h
 | .v b t :: ps,x0,is,x,h=>Gw ps x0.2 is x h
 | .p t g off :: ps,x0,[],x,h=>by simp[nZ,dQ]at h
 | .s t g :: ps,x0,[],x,h=>by simp[nZ,dQ]at h
 | .p t g off :: ps,x0,.sl _ :: _,x,h=>by simp[nZ,dQ]at h
 | .s t g :: ps,x0,.blk _ :: _,x,h=>by simp[nZ,dQ]at h
 | .p t g off :: ps,x0,.blk cs :: is,x,h=>by
  have h:nZ ((true,t,g) :: dQ ps) (.blk cs :: is)=some x:=h
  unfold nZ at h
  split at h
  ·rename_i y ys h1 h2
   injection h with h
   subst h
   exact⟨⟨jC t g cs y h1,abE t g x0.1 y,fun z hz=>JV t g y z hz⟩,Gw ps x0.2 is ys h2⟩
  ·cases h
 | .s t g :: ps,x0,.sl y :: is,x,h=>by
  have h:nZ ((false,t,g) :: dQ ps) (.sl y :: is)=some x:=h
  unfold nZ at h
  split at h
  ·rename_i z zs h1 h2
   injection h with h
   subst h
   exact⟨V.de h1,Gw ps x0.2 is zs h2⟩
  ·cases h
theorem nO.typed{w w':World}{aj:aQ}{ρ:Nat->Loc}{nm:Nat->Nat}:∀ (ins:List In) (i pos:Nat) (outs zy:List In),nO w w' aj ρ nm i pos ins outs->Gt ins outs zy->Bt w w' aj ρ nm i pos ins zy
 | [],i,pos,[],[],h,hk=>trivial
 | .blk Gu :: ins,i,pos,.blk SI :: outs,.blk zh :: zy,h,hk=>by
  obtain⟨⟨b,off,cells,kD,e,e',h1,h2,h3,h4,h5,h6,h7⟩,hr⟩:=h
  obtain⟨⟨hw,hsh,hnn⟩,dm⟩:=hk
  refine⟨⟨b,off,cells,kD,e,e',h1,h2,h3,h4,by rw[<-hw.1];exact h5,by rw[<-hw.1];exact h6,fun j x hx=>?_⟩,nO.typed ins _ _ outs zy hr dm⟩
  have hj:j<SI.length:=by rw[hw.1];exact(List.getElem?_eq_some_iff.1 hx).1
  obtain⟨u,hu,hc⟩:=h7 j _ (List.getElem?_eq_getElem hj)
  have hk:=hw.2 j _ x (List.getElem?_eq_getElem hj) hx
  have Mx:∀ x0,Gu[j]?=some x0->x0.plain=x.plain/\x0.ah=x.ah:=by
   intro x0 h0
   have e1:(Gu.map (fun v=>(v.plain,v.ah)))[j]?=(zh.map (fun v=>(v.plain,v.ah)))[j]?:=by rw[hsh]
   rw[List.getElem?_map,List.getElem?_map,h0,hx]at e1
   simpa using e1
  have hxn:=hnn x (List.mem_of_getElem? hx)
  generalize SI[j]=y at hc hk
  refine⟨u,hu,?_⟩
  rcases hc with ⟨c1,c2⟩ | ⟨c1,c2,x0,c3,c4⟩ | ⟨c1,c2,c6,⟨x0,c3,c4⟩,c5⟩ | ⟨c1,c2⟩
  ·cases hk with
   | same=>exact .inl ⟨c1,c2⟩
   | nil t o=>cases c1
   | q t o l=>cases c1
   | gr=>cases c1
  ·subst c1 c2
   have hf:x.ah=false:=by rw[<-(Mx x0 c3).2];exact c4
   cases hk with
   | same=>cases hxn
   | nil t o=>exact .inr (.inr ⟨hf,.bO _ _ _⟩)
  ·cases hk with
   | same=>exact .inr (.inl ⟨c1,c2,c5⟩)
   | nil t o=>cases c6
   | q t o l=>exact .inr (.inl ⟨rfl,c2,c5⟩)
   | gr t o o' qn l h1 h2=>simp[V.ah]at c2;omega
  ·have hf:=hk.KU c1
   exact .inr (.inr ⟨hf,c2.wk hk⟩)
 | .sl y0 :: ins,i,pos,.sl y1 :: outs,.sl y2 :: zy,h,hk=>by
  obtain⟨⟨v,h1,h2⟩,hr⟩:=h
  obtain⟨hw,dm⟩:=hk
  exact⟨⟨v,h1,h2.wk hw⟩,nO.typed ins _ _ outs zy hr dm⟩
 | [],_,_,_ :: _,_,h,_=>h.elim
 | [],_,_,[],_ :: _,_,h=>h.elim
 | .blk _ :: _,_,_,[],_,h,_=>h.elim
 | .sl _ :: _,_,_,[],_,h,_=>h.elim
 | .blk _ :: _,_,_,.sl _ :: _,_,h,_=>h.elim
 | .sl _ :: _,_,_,.blk _ :: _,_,h,_=>h.elim
 | .blk _ :: _,_,_,.blk _ :: _,[],_,h=>h.elim
 | .blk _ :: _,_,_,.blk _ :: _,.sl _ :: _,_,h=>h.elim
 | .sl _ :: _,_,_,.sl _ :: _,[],_,h=>h.elim
 | .sl _ :: _,_,_,.sl _ :: _,.blk _ :: _,_,h=>h.elim
theorem SJ:∀ (l:List (Bool×TC×Nat)) (ps:List Pt) (x:jI l),jJ l ps=some x->(ps.map fun p=>p.2.length)=((pe l x).map fun p=>p.2.length)
 | [],[],x,h=>rfl
 | [(b,t,g)],[(b',vs)],x,h=>by
  unfold jJ at h
  cases hb:b==b' with
  | false=>rw[hb]at h;cases h
  | true=>
   rw[hb]at h
   have h:dec t g vs=some x:=h
   simp[pe,(jC t g vs x h).1]
 | (b,t,g) :: q :: r,(b',vs) :: ps,x,h=>by
  unfold jJ at h
  cases hb:b==b' with
  | false=>rw[hb]at h;cases h
  | true=>
   rw[hb,cond_true]at h
   split at h
   ·rename_i y ys h1 h2
    injection h with h
    subst h
    simp only[pe,List.map_cons]
    rw[SJ (q :: r) ps ys h2,(jC t g vs y h1).1]
   ·cases h
 | [],_ :: _,x,h=>by simp[jJ]at h
 | [_],[],x,h=>by simp[jJ]at h
 | [_],_ :: _ :: _,x,h=>by simp[jJ]at h
 | _ :: _ :: _,[],x,h=>by simp[jJ]at h
theorem afc{l:List (Bool×TC×Nat)}{res:eM}{x:jI l}(h:lQ l res=some x):res.len=(dK l x).len:=by
 have key:∀ ps,jJ l ps=some x->(ps.map fun p=>p.2.length).sum=(dK l x).len:=by
  intro ps h
  rw[SJ l ps x h]
  unfold dK
  match hm:pe l x with
  | [q]=>simp[eM.len]
  | []=>rfl
  | _ :: _ :: _=>rfl
 cases res with
 | one p=>have:=key [p] h;simpa [eM.len]using this
 | bJ ps=>
  simp only[lQ]at h
  cases hb:Nat.beq ps.length 1 with
  | true=>rw[hb]at h;cases h
  | false=>rw[hb,cond_false]at h;exact key ps h
section
variable {P:Program} {w w':World} {w0:Wd} {B N:Nat} {lab aj:aQ} {ρ ρ':Nat->Loc} {σ:S} {a:Act} {X:Type} {d:Nat} {r:X} {o:Oper} {Φ:cY} {Λ:jS}
def SK(l:List (Bool×TC×Nat))(ro:List (Bool×TC×Nat))(outs:List In)(res:eM):Option (jI ro×si l):=
 match lQ ro res,nZ l outs with
 | some x,some y=>some (x,y)
 | _,_=>none
theorem pV{f:Nat}{fn:Func}{code:Code}{ps:List PK}{ro:List (Bool×TC×Nat)}{F:kE ps->Option (jI ro×si (dQ ps))}(hf:P.funcs[f]?=some fn)(hb:fn.body=some code)(hN:fn.ntmps=N)(kJ:(fn.name == "runtime.NumGoroutine")=false)(pU:Nat.ble ps.length N=true)(uR:Nat.ble N 20000=true)(bZ:pS ro=true)
  (aU:ej P Φ) (eZ:mW P N Λ (occs code)) (hF:∀ x,Mw P N Φ Λ code fn.results (nP ps x) (jK ps 0 x) (SK (dQ ps) ro)=F x):enters P f/\kF P f ⟨ps,ro,F⟩:=by
 refine⟨⟨fn,hf,kJ,by rw[hb];rfl⟩,fun x y h nm w lab ρ aT hE ij hsz hv hQ=>?_⟩
 have h:F x=some y:=h
 rw[<-hF x]at h
 have hlen:∀ (ps:List PK) (i:Nat) (x:kE ps),(jK ps i x).length=ps.length:=by
  intro ps
  induction ps with
  | nil=>intro i x;rfl
  | cons p ps ih=>
   intro i x
   cases p with
   | v=>exact congrArg (· + 1) (ih _ _)
   | p=>exact congrArg (· + 1) (ih _ _)
   | s=>exact congrArg (· + 1) (ih _ _)
 have hsz:aT.size=(jK ps 0 x).length:=by rw[hlen];exact hsz
 refine(fnM_core hf hb hN (Nat.le_of_ble_eq_true uR) (by rw[hlen];exact Nat.le_of_ble_eq_true pU) aU eZ h nm w lab ρ aT hE ij hsz hv hQ).mono fun e w' kC=>?_
 obtain⟨v,aj,outs,res,hk,he,ep,hl,eX,K3⟩:=kC
 unfold SK at hk
 split at hk
 ·rename_i y1 y2 h1 h2
  injection hk with hk
  subst hk
  refine⟨v,aj,he,ep,hl,SF bZ h1 eX,?_⟩
  rw[<-afc h1]
  exact nO.typed _ _ _ _ _ K3 (Gw ps x outs y2 h2)
 ·cases hk
end
end Go.Proofs.YtmffpkippmkjbaaGreatDoor
namespace Go.Proofs.YtmffpkippmkjbaaGreatDoor
open Go.RowKit
set_option linter.unusedVariables false
set_option maxRecDepth 100000
def Gx(σ:S)(rv:Array ResultVar):Option Int:=
 match rv.toList with
 | [.tmp t]=>(match σ.t t with
  | .az r 0=>(match σ.m r with
   | some (.blk [.own [n],.v (.int .i64 z),.v (.int .i64 h)])=>bif Nat.beq n 20000&&z==0 then some h else none
   | _=>none)
  | _=>none)
 | _=>none
def SL(P:Program)(N:Nat)(Φ:cY)(Λ:jS)(code:Code)(rv:Array ResultVar)(l:List (T .u8)):Option Int:=
 eY P N Φ Λ code (qv [.sl (.sl .u8 0 false l)] [.mut 0 0]) fun e σ=>match uN e with
  | some 0=>Gx σ rv
  | some 1=>Gx σ rv
  | _=>none
section
variable {P:Program} {w w':World} {w0:Wd} {B N:Nat} {lab aj:aQ} {ρ ρ':Nat->Loc} {σ:S} {a:Act} {X:Type} {d:Nat} {r:X} {o:Oper} {Φ:cY} {Λ:jS}
theorem ar2{f:Nat}{fn:Func}{code:Code}{F:List Int->Option Int}(hf:P.funcs[f]?=some fn)(hb:fn.body=some code)(hN:fn.ntmps=N)(kJ:(fn.name == "runtime.NumGoroutine")=false)(SM:Nat.ble 1 N=true)(uR:Nat.ble N 20000=true)
  (aU:ej P Φ) (eZ:mW P N Λ (occs code)) (hF:∀ l,SL P N Φ Λ code fn.results l=F l):enters P f/\Li P f F:=by
 refine⟨⟨fn,hf,kJ,by rw[hb];rfl⟩,fun w l h v hh hv hQ=>?_⟩
 rw[<-hF l]at hh
 unfold SL at hh
 have SM:=Nat.le_of_ble_eq_true SM
 have uR:=Nat.le_of_ble_eq_true uR
 let W:Wd:=⟨w,fun _=>none,fun r=>if 20000<=r/\r<60000 then some (.cS v)else none,hQ,fun r hr=>if_neg (by omega)⟩
 refine calls_of_wp hf hb ?_
 have hR:R W N (qv [.sl (.sl .u8 0 false l)] [.mut 0 0]) { tmps:=#[v]++Array.replicate (fn.ntmps-(#[v]:Array Value).size) undef,defers:=[] } w:=by
  refine⟨fun _=>none,fun _=>.cS v,.of (Below.refl w.heap.size w) (Nat.le_refl _),(fun b k hb=>by cases hb),fun n y hy=>?_,fun j=>?_,by simp[hN];omega,rfl,fun r l hr=>?_,fun r hr=>?_⟩
  ·have hy:aX (fun _=>none) (nF 0) (some (.sl (.sl .u8 0 false l))) n=some y:=hy
   by_cases hn:n=nF 0
   ·subst hn
    rw[aZ]at hy
    injection hy with hy
    subst hy
    exact .sl v _ rfl (hv.key rfl)
   ·rw[bB _ _ _ hn]at hy
    cases hy
  ·cases j with
   | zero=>
    have e:(#[v]++Array.replicate (fn.ntmps-(#[v]:Array Value).size) undef).getD 0 undef=v:=by
     rw[Array.getD_eq_getD_getElem?,Array.getElem?_append_left (by simp)];rfl
    show RA w w.heap.size _ _ (.lf (.own [nF 0])) ((#[v]++Array.replicate (fn.ntmps-(#[v]:Array Value).size) undef).getD 0 undef)
    rw[e]
    exact⟨hv.iT rfl rfl,rfl⟩
   | succ j=>exact trivial
  ·have hr:(if 20000<=r/\r<60000 then some (Loc.cS v)else none)=some l:=hr
   split at hr
   ·injection hr
   ·cases hr
  ·show (if 20000<=r/\r<60000 then some (Loc.cS v)else none)=none
   rw[if_neg (by omega)]
 refine wp_mono (zp (w0:=W) aU code _ _ hh eZ _ w hR) fun e a' w' he=>?_
 obtain⟨af,hk,iq,oz,aA⟩:=he
 have fin:Gx af fn.results=some h->a'.defers=[]/\∃ u,(results fn a'.tmps).run P w' = .ok u w'/\∃ b off cells t,Ending.returned u = .returned (.pointer (some ⟨b,off,none⟩))/\Below w.heap.size w w'/\w.heap.size<=b/\w'.heap[b]?=some (.cells cells t (0,0))/\cells[off]?=some v/\cells[off+1]?=some (.int .i64 0)/\cells[off+2]?=some (.int .i64 h):=by
  intro fe
  unfold Gx at fe
  split at fe
  ·rename_i t ht
   split at fe
   ·rename_i r hr
    split at fe
    ·rename_i n z h' hm
     cases hb:(Nat.beq n 20000&&z==0)with
     | false=>rw[hb]at fe;cases fe
     | true=>
      rw[hb,cond_true]at fe
      injection fe with fe
      subst fe
      rw[Bool.and_eq_true]at hb
      have hn:=Nat.eq_of_beq_eq_true hb.1
      have hz:z=0:=by simpa using hb.2
      subst hn hz
      have h1:=aA.tmp t
      rw[hr]at h1
      obtain⟨b,off,e1,e2⟩:=h1
      have h2:=aA.root r _ hm
      generalize hx:ax.blk _=x at h2
      cases h2 with
      | sl=>cases hx
      | mp=>cases hx
      | gh=>cases hx
      | blk b' mj cells e cs us av hl yK hs hc=>
       injection hx with hx
       subst hx
       rw[av]at e1
       injection e1 with e3 e4
       subst e3 e4
       obtain⟨c0,d0⟩:=hc 0 _ rfl
       obtain⟨c1,d1⟩:=hc 1 _ rfl
       obtain⟨c2,d2⟩:=hc 2 _ rfl
       have d0:=d0.2
       have sj:=aA.fix 20000 (.cS v) rfl
       simp only[bC,sj]at d0
       injection d0 with d0
       rw[<-d0]at c0
       rw[d1.2.gk]at c1
       rw[d2.2.gk]at c2
       refine⟨aA.defers,_,?_,b',mj,cells,e,rfl,⟨aA.below.os,aA.below.tape,aA.below.output,aA.below.size,fun k hk=>aA.below.block k hk rfl⟩,?_,yK,c0,c1,c2⟩
       ·have eX:results fn a'.tmps=(do let vs <-fn.results.mapM (nM a'.tmps);pure (if h:vs.size=1 then vs[0]else .tuple vs)):=by
         unfold results
         congr 1
        have kI:fn.results = #[.tmp t]:=by apply Array.ext';exact ht
        rw[eX,kI,Array.mapM_eq_mapM_toList]
        simp[nM,e2]
       ·have:=(aA.bV b' _ hl).1
        exact this.resolve_right (fun h=>h rfl)
    ·cases fe
   ·cases fe
  ·cases fe
 split at hk
 ·rename_i he
  have he:=oJ he
  subst he
  exact fin hk
 ·rename_i he
  have he:=oJ he
  subst he
  exact fin hk
 ·cases hk
end
end Go.Proofs.YtmffpkippmkjbaaGreatDoor
namespace Go.Proofs.YtmffpkippmkjbaaGreatDoor
open Go.RowKit
set_option linter.unusedVariables false
set_option maxRecDepth 100000
def nV(i j:Nat):Nat:=20001+1000*i+j
def zz(i j:Nat)(x:V):Lf:=match x with
 | .sl ..=>.own [nV i j]
 | x=>.v x
def sK(i:Nat):Nat->List V->List Lf
 | _,[]=>[]
 | j,x :: xs=>zz i j x :: sK i (j+1) xs
def My(args:List Pt)(n:Nat):Option ax:=bif Nat.ble 20001 n&&Nat.blt n 60000 then (match args[(n-20001) / 1000]? with
 | some (_,xs)=>(match xs[(n-20001) % 1000]? with
  | some (.sl t g q l)=>some (.sl (.sl t g q l))
  | _=>none)
 | none=>none)else none
def SN(args:List Pt):S:=⟨fun i=>match args[i]? with
 | some (false,[x])=>.lf (zz i 0 x)
 | some (true,xs)=>.agg (sK i 0 xs)
 | _=>.undef,My args⟩
def Gy(σ:S)(rv:Array ResultVar)(a j:Nat)(t:TC):Option (Nat×Nat):=match rv.toList with
 | [.tmp s]=>(match σ.t s with
  | .view [n] sz i k=>bif Nat.beq n (nV a j)&&Nat.beq sz (aq t)then some (i,k)else none
  | _=>none)
 | _=>none
def SO(P:Program)(N:Nat)(Φ:cY)(Λ:jS)(code:Code)(rv:Array ResultVar)(a j:Nat)(t:TC)(args:List Pt):Option (Nat×Nat):=
 eY P N Φ Λ code (SN args) fun e σ=>match uN e with
  | some 0=>Gy σ rv a j t
  | some 1=>Gy σ rv a j t
  | _=>none
def Mz(ai:List (Bool×TC))(a j:Nat)(t:TC)(F:k8 ai->Option (Nat×Nat)):wz:=⟨a,j,t,fun args=>match uP ai args with
 | some x=>F x
 | none=>none⟩
section
variable {P:Program} {w w':World} {w0:Wd} {B N:Nat} {lab aj:aQ} {ρ ρ':Nat->Loc} {σ:S} {a:Act} {X:Type} {d:Nat} {r:X} {o:Oper} {Φ:cY} {Λ:jS}
theorem SP(i:Nat):∀ (xs:List V) (j0 j:Nat),(sK i j0 xs)[j]?=(xs[j]?).map fun x=>zz i (j0+j) x
 | [],j0,j=>by simp[sK]
 | x :: xs,j0,0=>by simp[sK]
 | x :: xs,j0,j+1=>by
  simp only[sK,List.getElem?_cons_succ,SP i xs (j0+1) j]
  rw[show j0+1+j=j0+(j+1) by omega]
theorem SQ(i:Nat):∀ (xs:List V) (j0:Nat),(sK i j0 xs).length=xs.length
 | [],_=>rfl
 | x :: xs,j0=>by simp[sK,SQ i xs (j0+1)]
theorem SR{i j:Nat}(h:j<1000):(nV i j-20001) / 1000=i/\(nV i j-20001) % 1000=j:=by
 unfold nV
 omega
def uS(aT:Array Value)(n:Nat):Loc:=.cS ((pF aT ((n-20001) / 1000) ((n-20001) % 1000)).getD undef)
theorem SS{aT:Array Value}{i j:Nat}{x:V}{u:Value}(hj:j<1000)(hu:pF aT i j=some u)(hf:x.ah=true)(hr:RV w B (fun _=>none) [] x u):cg w B (fun _=>none) (uS aT) (zz i j x) u:=by
 unfold zz
 split
 ·refine⟨hr.iT rfl rfl,?_⟩
  obtain⟨e1,e2⟩:=SR (i:=i) hj
  simp only[bC,uS,e1,e2,hu]
  rfl
 ·exact⟨hf,hr⟩
theorem afd{f:Nat}{fn:Func}{code:Code}{ai:List (Bool×TC)}{aa jj:Nat}{t:TC}{F:k8 ai->Option (Nat×Nat)}(hf:P.funcs[f]?=some fn)(hb:fn.body=some code)(hN:fn.ntmps=N)(kJ:(fn.name == "runtime.NumGoroutine")=false)(pU:Nat.ble ai.length N=true)(uR:Nat.ble N 20000=true)(hsz:(ai.all fun p=>Nat.blt (aq p.2) 1000&&(p.1 || Nat.beq (aq p.2) 1))=true)(SU:Nat.blt jj 1000=true)(haa:Nat.blt aa 30=true)
  (aU:ej P Φ) (eZ:mW P N Λ (occs code)) (hF:∀ x,SO P N Φ Λ code fn.results aa jj t (fH ai x)=F x):enters P f/\FA P f (Mz ai aa jj t F):=by
 refine⟨⟨fn,hf,kJ,by rw[hb];rfl⟩,fun args p h w aT eW hQ=>?_⟩
 simp only[Mz]at h
 split at h
 ·rename_i x hx
  obtain⟨k1,k2⟩:=Cl ai args x hx
  have hlen:∀ (l:List (Bool×TC)) (x:k8 l),(fH l x).length=l.length:=by
   intro l
   induction l with
   | nil=>intro x;rfl
   | cons p l ih=>obtain⟨b,t⟩:=p;intro x;simp[fH,ih]
  have ec:aT.size=ai.length:=by rw[eW.1,<-k1,hlen]
  have hle:aT.size<=N:=by rw[ec];exact Nat.le_of_ble_eq_true pU
  have uR:=Nat.le_of_ble_eq_true uR
  have kI:∀ (l:List (Bool×TC)) (x:k8 l),(l.all fun p=>Nat.blt (aq p.2) 1000&&(p.1 || Nat.beq (aq p.2) 1))=true->∀ (j:Nat) p,(fH l x)[j]?=some p->(∀ y∈p.2,y.ah=true)/\p.2.length<1000/\(p.1=true\/p.2.length=1):=by
   intro l
   induction l with
   | nil=>intro x _ j p hp;simp[fH]at hp
   | cons c l ih=>
    obtain⟨b,t⟩:=c
    intro x hs j p hp
    rw[List.all_cons,Bool.and_eq_true]at hs
    cases j with
    | zero=>
     simp[fH]at hp
     subst hp
     refine⟨fun y hy=>?_,?_⟩
     ·obtain⟨i,hi⟩:=List.mem_iff_getElem?.1 hy
      exact hG t 0 x.1 (by omega) i y hi
     ·show (enc t 0 x.1).length<1000/\(b=true\/(enc t 0 x.1).length=1)
      rw[jB]
      have h8:=hs.1
      rw[Bool.and_eq_true,Bool.or_eq_true]at h8
      have h9:aq t<1000:=Nat.le_of_ble_eq_true h8.1
      exact⟨h9,h8.2.imp id Nat.eq_of_beq_eq_true⟩
    | succ j=>exact ih x.2 hs.2 j p (by simpa [fH]using hp)
  have gI:∀ (i:Nat) (p:Pt),(fH ai x)[i]?=some p->∃ u:Value,aT[i]?=some u/\PV w w.heap.size (fun _=>none) (fun _=>[]) p u/\(∀ y∈p.2,y.ah=true)/\p.2.length<1000:=by
   intro i p hp
   obtain⟨q,hq,mS,oC⟩:=k2 i p hp
   obtain⟨u,hu,pn⟩:=eW.2 i q hq
   obtain⟨g1,g2,g3⟩:=kI ai x hsz i p hp
   refine⟨u,hu,?_,g1,g2⟩
   obtain⟨b,ys⟩:=p
   obtain⟨b',xs⟩:=q
   simp only at mS
   subst mS
   have hw:=pn.pR oC
   rcases g3 with g3 | g3
   ·simp only at g3
    subst g3
    exact hw.Qs
   ·obtain⟨y,rfl⟩:=List.length_eq_one_iff.1 g3
    cases b' with
    | true=>exact hw.Qs
    | false=>exact hw.pv
  have MA:∀ (i:Nat) (p:Pt),(fH ai x)[i]?=some p->∀ (j:Nat) y,p.2[j]?=some y->∃ u,pF aT i j=some u/\RV w w.heap.size (fun _=>none) [] y u/\y.ah=true/\j<1000:=by
   intro i p hp j y hy
   obtain⟨u,hu,⟨us,h1,h2,h3⟩,h4,h5⟩:=gI i p hp
   obtain⟨v,hv,hr⟩:=h3 j y hy
   refine⟨v,?_,hr,h4 y (List.mem_of_getElem? hy),by have:=(List.getElem?_eq_some_iff.1 hy).1;omega⟩
   unfold pF
   rw[hu]
   obtain⟨b,ys⟩:=p
   cases b with
   | true=>
    have h1:u = .agg us:=h1
    subst h1
    exact hv
   | false=>
    have h1:us = #[u]:=h1
    subst h1
    have hj:j=0:=by
     have:=(Array.getElem?_eq_some_iff.1 hv).1
     simpa using this
    subst hj
    have:u=v:=by simpa using hv
    subst this
    have qF:∀ us,u ≠ .agg us:=by
     rintro us rfl
     cases hr
    cases u <;>first | exact absurd rfl (qF _) | rfl
  let W:Wd:=⟨w,fun _=>none,fun r=>if 20000<=r/\r<60000 then some (uS aT r)else none,hQ,fun r hr=>if_neg (by omega)⟩
  refine calls_of_wp hf hb ?_
  rw[<-hF x]at h
  unfold SO at h
  have hR:R W N (SN (fH ai x)) { tmps:=aT++Array.replicate (fn.ntmps-aT.size) undef,defers:=[] } w:=by
   refine⟨fun _=>none,uS aT,.of (Below.refl w.heap.size w) (Nat.le_refl _),(fun b k hk=>by cases hk),(fun n y hy=>?_),fun i=>?_,by simp[hN];omega,rfl,fun r l hr=>?_,fun r hr=>?_⟩
   ·have hy:My (fH ai x) n=some y:=hy
    unfold My at hy
    cases hb:(Nat.ble 20001 n&&Nat.blt n 60000)with
    | false=>rw[hb]at hy;cases hy
    | true=>
     rw[hb,cond_true]at hy
     split at hy
     ·rename_i b xs hp
      split at hy
      ·rename_i t' g q l hl
       injection hy with hy
       subst hy
       obtain⟨u,hu,hr,mL,_⟩:=MA _ _ hp _ _ hl
       refine .sl u _ ?_ (hr.key mL)
       unfold uS
       rw[hu]
       rfl
      ·cases hy
     ·cases hy
   ·show RA w w.heap.size _ _ (match (fH ai x)[i]? with | some (false,[x])=>A.lf (zz i 0 x) | some (true,xs)=>.agg (sK i 0 xs) | _=>.undef) _
    have yw:∀ p:Pt,(fH ai x)[i]?=some p->∃ u:Value,aT[i]?=some u/\(aT++Array.replicate (fn.ntmps-aT.size) undef).getD i undef=u:=by
     intro p hp
     obtain⟨u,hu,_⟩:=gI i p hp
     have hi:i<aT.size:=(Array.getElem?_eq_some_iff.1 hu).1
     exact⟨u,hu,by rw[Array.getD_eq_getD_getElem?,Array.getElem?_append_left hi,hu];rfl⟩
    split
    ·rename_i x' bR
     obtain⟨u,hu,e⟩:=yw _ bR
     rw[e]
     obtain⟨v,hv,hr,mL,_⟩:=MA i _ bR 0 x' rfl
     have qq:u=v:=by
      unfold pF at hv
      rw[hu]at hv
      obtain⟨u2,nJ,⟨us,h1,h2,h3⟩,_⟩:=gI i _ bR
      rw[hu]at nJ
      injection nJ with nJ
      subst nJ
      have h1:us = #[u]:=h1
      subst h1
      obtain⟨v3,hv3,hr3⟩:=h3 0 x' rfl
      have:u=v3:=by simpa using hv3
      subst this
      have qF:∀ us,u ≠ .agg us:=by
       rintro us rfl
       cases hr3
      cases u <;>first | exact absurd rfl (qF _) | (simp only[show Nat.beq 0 0=true from rfl,cond_true,Option.some.injEq]at hv;exact hv)
     subst qq
     exact SS (by omega) hv mL hr
    ·rename_i xs bR
     obtain⟨u,hu,e⟩:=yw _ bR
     rw[e]
     obtain⟨u2,nJ,⟨us,h1,h2,h3⟩,_⟩:=gI i _ bR
     rw[hu]at nJ
     injection nJ with nJ
     subst nJ
     have h1:u = .agg us:=h1
     refine⟨us,h1,by rw[SQ];exact h2,fun j y hy=>?_⟩
     rw[SP]at hy
     cases hz:xs[j]? with
     | none=>rw[hz]at hy;cases hy
     | some z=>
      rw[hz]at hy
      injection hy with hy
      subst hy
      obtain⟨v,hv,hr,mL,hj⟩:=MA i _ bR j z hz
      have huj:us[j]?=some v:=by
       unfold pF at hv
       rw[hu,h1]at hv
       exact hv
      refine⟨v,huj,?_⟩
      rw[Nat.zero_add]
      exact SS hj hv mL hr
    ·trivial
   ·have hr:(if 20000<=r/\r<60000 then some (uS aT r)else none)=some l:=hr
    split at hr
    ·injection hr
    ·cases hr
   ·show (if 20000<=r/\r<60000 then some (uS aT r)else none)=none
    rw[if_neg (by omega)]
  refine wp_mono (zp (w0:=W) aU code _ _ h eZ _ w hR) fun e a' w' he=>?_
  obtain⟨af,hk,iq,oz,aA⟩:=he
  have fin:Gy af fn.results aa jj t=some p->a'.defers=[]/\∃ u,(results fn a'.tmps).run P w' = .ok u w'/\∃ A n cap,pF aT aa jj=some (.slice A n cap)/\p.1<=p.2/\p.2<=n/\Ending.returned u = .returned (sliced A p.1 p.2 cap (aq t))/\Below w.heap.size w w':=by
   intro fe
   unfold Gy at fe
   split at fe
   ·rename_i s hs
    split at fe
    ·rename_i n sz i k hv
     cases eK:(Nat.beq n (nV aa jj)&&Nat.beq sz (aq t))with
     | false=>rw[eK]at fe;cases fe
     | true=>
      rw[eK,cond_true]at fe
      injection fe with fe
      subst fe
      rw[Bool.and_eq_true]at eK
      have hn:=Nat.eq_of_beq_eq_true eK.1
      have afe:=Nat.eq_of_beq_eq_true eK.2
      subst hn afe
      have h1:=aA.tmp s
      rw[hv]at h1
      obtain⟨A,m,c,e1,e2,e3,e4⟩:=h1
      have SU:=Nat.le_of_ble_eq_true SU
      have qF:20000<=nV aa jj:=by unfold nV;omega
      by_cases bU:nV aa jj<60000
      ·have sj:=aA.fix (nV aa jj) (uS aT (nV aa jj)) (if_pos ⟨qF,bU⟩)
       have e1:(match oz (nV aa jj)with | .cS v=>some v | _=>none)=some (Value.slice A m c):=e1
       rw[sj]at e1
       obtain⟨d1,d2⟩:=SR (i:=aa) (j:=jj) (by omega)
       have e1:some ((pF aT ((nV aa jj-20001) / 1000) ((nV aa jj-20001) % 1000)).getD undef)=some (Value.slice A m c):=e1
       rw[d1,d2]at e1
       injection e1 with e1
       refine⟨aA.defers,_,?_,A,m,c,?_,e2,e3,congrArg Ending.returned e4,⟨aA.below.os,aA.below.tape,aA.below.output,aA.below.size,fun k hk=>aA.below.block k hk rfl⟩⟩
       ·have eX:results fn a'.tmps=(do let vs <-fn.results.mapM (nM a'.tmps);pure (if h:vs.size=1 then vs[0]else .tuple vs)):=by
         unfold results
         congr 1
        have kI:fn.results = #[.tmp s]:=by apply Array.ext';exact hs
        rw[eX,kI,Array.mapM_eq_mapM_toList]
        simp[nM]
       ·cases hl:pF aT aa jj with
        | none=>rw[hl]at e1;cases e1
        | some u=>rw[hl]at e1;exact congrArg some e1
      ·exfalso
       have:=Nat.le_of_ble_eq_true haa
       unfold nV at bU
       omega
    ·cases fe
   ·cases fe
  split at hk
  ·rename_i he
   have he:=oJ he
   subst he
   exact fin hk
  ·rename_i he
   have he:=oJ he
   subst he
   exact fin hk
  ·cases hk
 ·cases h
end
end Go.Proofs.YtmffpkippmkjbaaGreatDoor
namespace Go.Proofs.YtmffpkippmkjbaaGreatDoor
open Go.RowKit
set_option linter.unusedVariables false
def Wd.pin(d:Wd)(g:Nat)(l:Option Loc)(hg:20000<=g):Wd:=⟨d.w,d.L,fun r=>if r=g then l else d.F r,d.held,fun r hr=>by
 show (if r=g then l else d.F r)=none
 rw[if_neg (by omega)]
 exact d.low r hr⟩
def uT(g:Nat):List (Bool×List Lf)->A
 | [(false,[x])]=>.lf (x.drop g)
 | [(true,cs)]=>.agg (cs.map (Lf.drop g))
 | [(false,_)]=>.undef
 | ps=>.bJ (ps.map fun p=>(p.1,p.2.map (Lf.drop g)))
def wT{X:Type}(P:Program)(g:Nat)(rv:Array ResultVar)(τ:S)(k:S->A->Option X):Option X:=
 lM P τ rv.toList fun ps=>match τ.m g with
  | some (.gh ys)=>k ⟨fun j=>((ys.map (A.drop g))[j]?).getD .undef,(τ.drop g).m⟩ (uT g ps)
  | _=>none
def SV(g N:Nat)(σ:S)(xs:List A):S:=⟨fun j=>((xs.map (A.drop g))[j]?).getD .undef,aX (σ.drop g).m g (some (.gh ((List.range N).map fun j=>(σ.t j).drop g)))⟩
def Cn:jS:=fun _=>none
def Co{X:Type}(P:Program)(M g:Nat)(Φ:cY)(code:Code)(rv:Array ResultVar)(N:Nat)(σ:S)(xs:List A)(k:S->A->Option X):Option X:=
 bif Nat.ble xs.length M then eY P M Φ Cn code (SV g N σ xs) fun e τ=>match uN e with
  | some 0=>wT P g rv τ k
  | some 1=>wT P g rv τ k
  | _=>none
 else none
def SW(P:Program)(M g:Nat)(Φ:cY)(code:Code)(rv:Array ResultVar):pG:=⟨fun X N σ xs k=>Co P M g Φ code rv N σ xs k⟩
section
variable {P:Program} {w w':World} {w0:Wd} {B M N g:Nat} {lab aj:aQ} {ρ ρ':Nat->Loc} {σ:S} {a:Act} {X:Type} {d:Nat} {r:X} {o:Oper} {Φ:cY} {Λ:jS}
theorem Gz{dst:Option Tmp}{gd:Bool}{k:S->Option X}(h:lU σ dst gd k=some r):∃ τ,k τ=some r/\bD (fun X k=>lU (X:=X) σ dst gd k) τ:=by
 unfold lU at h
 cases gd with
 | false=>exact⟨σ,h,fun X k=>rfl⟩
 | true=>
  rw[cond_true]at h
  split at h
  ·rename_i d
   split at h
   ·rename_i b hb
    cases b with
    | true=>exact⟨_,h,fun X k=>by simp only[lU,cond_true,hb]⟩
    | false=>exact⟨_,h,fun X k=>by simp only[lU,cond_true,hb,cond_false]⟩
   ·rename_i hb
    exact⟨σ,h,fun X k=>by
     show lU σ (some d) true k=k σ
     unfold lU
     simp only[cond_true]⟩
  ·exact⟨σ,h,fun X k=>rfl⟩
theorem aff[Inhabited Wd]{ops:Array Oper}{L i:Nat}{k:S->Option X}(h:uK P N Φ ops L i σ o k=some r):∃ τ,k τ=some r/\bD (fun X k=>uK (X:=X) P N Φ ops L i σ o k) τ:=by
 unfold uK at h
 split at h
 ·rename_i hw
  obtain⟨v,h1,hd,_⟩:=yW (w0:=default) (N:=N) h
  cases hv:v.iz (qL Φ ops i L (waits ops i ops.size 0 0) σ) (sw σ ops i L (waits ops i ops.size 0 0))with
  | false=>rw[hv]at h1;cases h1
  | true=>
   rw[hv,cond_true]at h1
   obtain⟨h2,h3⟩:=iA h1
   exact⟨_,h2,fun X k=>by
    simp only[uK,hw]
    refine(hd.at_ _).trans ?_
    rw[hv,cond_true]
    exact(h3 σ).at_ _⟩
 ·rename_i hw
  obtain⟨h1,h2⟩:=iA h
  exact⟨_,h1,fun X k=>by simp only[uK,hw];exact(h2 σ).at_ _⟩
 ·cases h
theorem MB[Inhabited Wd](aU:ej P Φ){ops:Array Oper}{k:S->Option X}(h:cJ P N Φ ops σ o k=some r):∃ τ,k τ=some r/\bD (fun X k=>cJ (X:=X) P N Φ ops σ o k) τ:=by
 unfold cJ at h
 split at h
 ·rename_i hw
  obtain⟨τ,h1,h2⟩:=FR aU h
  exact⟨τ,h1,fun X k=>by simp only[cJ,hw];exact h2 X k⟩
 ·rename_i hw
  obtain⟨h1,h2⟩:=iA h
  exact⟨_,h1,fun X k=>by simp only[cJ,hw];exact(h2 σ).at_ _⟩
 ·cases h
theorem Cp[Inhabited Wd](aU:ej P Φ){ops:Array Oper}:∀ (f L:Nat) (σ:S) (k:S->Option X),jc P N Φ ops f L σ k=some r->∃ τ,k τ=some r/\bD (fun X k=>jc (X:=X) P N Φ ops f L σ k) τ
 | 0,L,σ,k,h=>by
  unfold jc at h
  split at h
  ·rename_i hr
   exact⟨σ,h,fun X k=>by simp only[jc,hr]⟩
  ·cases h
 | f+1,L,σ,k,h=>by
  unfold jc at h
  split at h
  ·rename_i hr
   exact⟨σ,h,fun X k=>by simp only[jc,hr]⟩
  ·rename_i i hr
   split at h
   ·rename_i o ho
    obtain⟨τ,h1,h2⟩:=MB aU h
    obtain⟨eU,h3,h4⟩:=Gz h1
    obtain⟨pW,h5,h6⟩:=Cp aU f _ eU k h3
    exact⟨pW,h5,fun X k=>by
     simp only[jc,hr,ho]
     exact(h2.at_ _).trans ((h4.at_ _).trans (h6.at_ _))⟩
   ·cases h
  ·rename_i rs hn hs
   split at h
   ·rename_i i hf
    split at h
    ·rename_i o ho
     obtain⟨τ,h1,h2⟩:=aff h
     obtain⟨eU,h3,h4⟩:=Gz h1
     obtain⟨pW,h5,h6⟩:=Cp aU f _ eU k h3
     refine⟨pW,h5,fun X k=>?_⟩
     show jc P N Φ ops (f+1) L σ k=k pW
     unfold jc
     split
     ·rename_i e;exact absurd e hn
     ·rename_i i e;exact absurd e (hs i)
     ·simp only[hf,ho]
      exact(h2.at_ _).trans ((h4.at_ _).trans (h6.at_ _))
    ·cases h
   ·rename_i hf
    split at h
    ·rename_i i hf2
     split at h
     ·rename_i o ho
      obtain⟨τ,h1,h2⟩:=MB aU h
      obtain⟨eU,h3,h4⟩:=Gz h1
      obtain⟨pW,h5,h6⟩:=Cp aU f _ eU k h3
      refine⟨pW,h5,fun X k=>?_⟩
      show jc P N Φ ops (f+1) L σ k=k pW
      unfold jc
      split
      ·rename_i e;exact absurd e hn
      ·rename_i i e;exact absurd e (hs i)
      ·simp only[hf,hf2,ho]
       exact(h2.at_ _).trans ((h4.at_ _).trans (h6.at_ _))
     ·cases h
    ·cases h
theorem afg[Inhabited Wd](aU:ej P Φ){ops:Array Oper}{k:S->Option X}(h:sA P N Φ ops σ k=some r):∃ τ,k τ=some r/\bD (fun X k=>sA (X:=X) P N Φ ops σ k) τ:=by
 unfold sA at h
 split at h
 ·rename_i i hi
  split at h
  ·rename_i o ho
   split at h
   ·rename_i e he
    obtain⟨τ,h1,h2⟩:=MB aU h
    obtain⟨eU,h3,h4⟩:=Cp aU _ _ _ _ h1
    exact⟨eU,h3,fun X k=>by
     simp only[sA,hi,ho,he]
     exact(h2.at_ _).trans (h4.at_ _)⟩
   ·cases h
  ·cases h
 ·rename_i hi
  obtain⟨τ,h1,h2⟩:=Cp aU _ _ _ _ h
  exact⟨τ,h1,fun X k=>by simp only[sA,hi];exact h2.at_ _⟩
theorem afh[Inhabited Wd](aU:ej P Φ){k:S->Option X}(h:mV P N Φ σ o k=some r):∃ τ,k τ=some r/\∀ (X':Type) (k':S->Option X'),mV P N Φ σ o k'=k' τ:=by
 have same:∀ σ2:S,(∀ (X':Type) (k':S->Option X'),mV P N Φ σ o k'=ct P N Φ σ2 o k')->∃ τ,k τ=some r/\∀ (X':Type) (k':S->Option X'),mV P N Φ σ o k'=k' τ:=by
  intro σ2 e
  rw[e]at h
  obtain⟨τ,h1,h2⟩:=FR aU h
  exact⟨τ,h1,fun X k=>(e X k).trans (h2 X k)⟩
 cases ho:o.op with
 | store t x y=>
  cases hd:o.dst with
  | some d=>exact same σ fun X' k'=>by simp only[mV,ho,hd]
  | none=>
   have e:∀ (X':Type) (k':S->Option X'),mV P N Φ σ o k'=(match ak σ y with
    | .view [q] s i j=>uE P σ q s i j t (ak σ x) k'
    | _=>ct P N Φ σ o k'):=fun X' k'=>by simp only[mV,ho,hd];rfl
   rw[e]at h
   split at h
   ·rename_i q s i j hy
    obtain⟨τ,h1,h2⟩:=adG h
    exact⟨τ,h1,fun X k=>by rw[e];simp only[hy];exact h2.at_ _⟩
   ·rename_i hn
    obtain⟨τ,h1,h2⟩:=FR aU h
    refine⟨τ,h1,fun X k=>?_⟩
    rw[e]
    split
    ·rename_i q s i j hy;exact(hn _ _ _ _ hy).elim
    ·exact h2 X k
 | slice t x lo hi mx=>
  cases hd:o.dst with
  | none=>exact same σ fun X' k'=>by simp only[mV,ho,hd]
  | some d=>
   cases mx with
   | some m=>exact same σ fun X' k'=>by simp only[mV,ho,hd]
   | none=>exact same (yR σ (ak σ x)) fun X' k'=>by simp only[mV,ho,hd]
 | _=>exact same σ fun X' k'=>by simp only[mV,ho]
theorem MC[Inhabited Wd](aU:ej P Φ){ops:Array Oper}:∀ (rest:List Oper) (j:Nat) (σ:S) (k:S->Option X),qI P N Φ ops j rest σ k=some r->∃ τ,k τ=some r/\bD (fun X k=>qI (X:=X) P N Φ ops j rest σ k) τ
 | [],j,σ,k,h=>⟨σ,h,fun X k=>rfl⟩
 | o :: rest,j,σ,k,h=>by
  unfold qI at h
  split at h
  ·rename_i hw
   obtain⟨τ,h1,h2⟩:=afh aU h
   obtain⟨eU,h3,h4⟩:=Gz h1
   obtain⟨pW,h5,h6⟩:=MC aU rest _ eU k h3
   exact⟨pW,h5,fun X k=>by
    simp only[qI,hw]
    exact(h2 _ _).trans ((h4.at_ _).trans (h6.at_ _))⟩
  ·rename_i hw
   obtain⟨h1,h2⟩:=iA h
   obtain⟨pW,h5,h6⟩:=MC aU rest _ _ k h1
   exact⟨pW,h5,fun X k=>by
    simp only[qI,hw]
    exact((h2 σ).at_ _).trans (h6.at_ _)⟩
  ·cases h
theorem afi[Inhabited Wd](aU:ej P Φ):∀ (c:Code) (σ:S) (k:Exit->S->Option X),eY P N Φ Cn c σ k=some r->∃ e τ,k e τ=some r/\∀ (X':Type) (k':Exit->S->Option X'),eY P N Φ Cn c σ k'=k' e τ:=by
 intro c
 induction c with
 | skip=>exact fun σ k h=>⟨_,_,h,fun _ _=>rfl⟩
 | label l=>exact fun σ k h=>⟨_,_,h,fun _ _=>rfl⟩
 | ret=>exact fun σ k h=>⟨_,_,h,fun _ _=>rfl⟩
 | exit id=>exact fun σ k h=>⟨_,_,h,fun _ _=>rfl⟩
 | region id ops draw=>
  intro σ k h
  cases draw with
  | true=>
   simp only[eY]at h
   cases hm:P.follows .mixedOrders with
   | false=>rw[hm]at h;cases h
   | true=>
    rw[hm,cond_true]at h
    obtain⟨τ,h1,h2⟩:=afg aU h
    exact⟨_,τ,h1,fun X k=>by simp only[eY,hm,cond_true];exact h2.at_ _⟩
  | false=>
   simp only[eY]at h
   obtain⟨τ,h1,h2⟩:=MC aU _ _ _ _ h
   exact⟨_,τ,h1,fun X k=>by simp only[eY];exact h2.at_ _⟩
 | seq x y wP wQ=>
  intro σ k h
  simp only[eY]at h
  obtain⟨e,τ,h1,h2⟩:=wP σ _ h
  cases e with
  | normal=>
   obtain⟨e',eU,h3,h4⟩:=wQ τ k h1
   exact⟨e',eU,h3,fun X k=>by simp only[eY];rw[h2];exact h4 X k⟩
  | _=>exact⟨_,τ,h1,fun X k=>by simp only[eY];rw[h2]⟩
 | cond c x y wP wQ=>
  intro σ k h
  simp only[eY]at h
  split at h
  ·rename_i b hb
   cases b with
   | true=>
    obtain⟨e,τ,h1,h2⟩:=wP σ k h
    exact⟨e,τ,h1,fun X k=>by simp only[eY,hb,cond_true];exact h2 X k⟩
   | false=>
    obtain⟨e,τ,h1,h2⟩:=wQ σ k h
    exact⟨e,τ,h1,fun X k=>by simp only[eY,hb,cond_false];exact h2 X k⟩
  ·cases h
 | block id c ih=>
  intro σ k h
  have e0:∀ (X':Type) (k':Exit->S->Option X'),eY P N Φ Cn (.block id c) σ k'=eY P N Φ Cn c σ fun e af=>match e with
   | .exit nU=>if nU=id then k' .normal af else k' (.exit nU) af
   | e=>k' e af:=fun X' k'=>rfl
  rw[e0]at h
  obtain⟨e,τ,h1,h2⟩:=ih σ _ h
  cases e with
  | exit nU=>
   by_cases hi:nU=id
   ·simp only[hi,if_true]at h1
    exact⟨_,τ,h1,fun X k=>by rw[e0,h2];simp only[hi,if_true]⟩
   ·simp only[hi,if_false]at h1
    exact⟨_,τ,h1,fun X k=>by rw[e0,h2];simp only[hi,if_false]⟩
  | _=>exact⟨_,τ,h1,fun X k=>by rw[e0,h2]⟩
 | _=>intro σ k h;simp[eY]at h
theorem MD:∀ (l:List ResultVar) (k:List (Bool×List Lf)->Option X),lM P σ l k=some r->∃ ps,k ps=some r/\bD (fun X k=>lM (X:=X) P σ l k) ps
 | [],k,h=>⟨[],h,fun X k=>rfl⟩
 | .tmp t :: rest,k,h=>by
  simp only[lM]at h
  split at h
  ·rename_i p hp
   obtain⟨ps,h2,h3⟩:=MD rest _ h
   exact⟨_,h2,fun X k=>by simp only[lM,hp];exact h3.at_ _⟩
  ·cases h
 | .cell c ty :: rest,k,h=>by
  simp only[lM]at h
  obtain⟨y,hy,hd⟩:=BH h
  split at hy
  ·rename_i p hp
   obtain⟨ps,h2,h3⟩:=MD rest _ hy
   exact⟨_,h2,fun X k=>by
    simp only[lM]
    refine(hd.at_ _).trans ?_
    simp only[hp]
    exact h3.at_ _⟩
  ·cases hy
theorem afj{rv:Array ResultVar}{k:S->A->Option X}(h:wT P g rv σ k=some r):∃ ys ps,σ.m g=some (.gh ys)/\lM P σ rv.toList some=some ps/\k ⟨fun j=>((ys.map (A.drop g))[j]?).getD .undef,(σ.drop g).m⟩ (uT g ps)=some r/\
  ∀ (X':Type) (k':S->A->Option X'),wT P g rv σ k'=k' ⟨fun j=>((ys.map (A.drop g))[j]?).getD .undef,(σ.drop g).m⟩ (uT g ps):=by
 unfold wT at h
 obtain⟨ps,h1,h2⟩:=MD _ _ h
 split at h1
 ·rename_i ys hy
  exact⟨ys,ps,hy,h2.at_ _,h1,fun X' k'=>by
   unfold wT
   refine(h2.at_ _).trans ?_
   simp only[hy]⟩
 ·cases h1
theorem List.SX(xs:List A)(g j:Nat):((xs.map (A.drop g))[j]?).getD .undef=A.drop g ((xs[j]?).getD .undef):=by
 rw[List.getElem?_map]
 cases xs[j]? <;>rfl
theorem RP.uT{ps:List (Bool×List Lf)}{vs:List Value}(av:∀ r,r≠g->ρ' r=ρ r)(hl:vs.length=ps.length)(h:∀ (i:Nat) p v,ps[i]?=some p->vs[i]?=some v->RP w B lab ρ p v):
  RA w B lab ρ' (uT g ps) (if h:vs.toArray.size=1 then vs.toArray[0]else .tuple vs.toArray):=by
 have bJ:ps.length≠1->RA w B lab ρ' (.bJ (ps.map fun p=>(p.1,p.2.map (Lf.drop g)))) (if h:vs.toArray.size=1 then vs.toArray[0]else .tuple vs.toArray):=by
  intro hn
  rw[dif_neg (by simpa [hl]using hn)]
  refine⟨vs.toArray,rfl,by simpa using hl,fun j p hp=>?_⟩
  rw[List.getElem?_map]at hp
  cases hq:ps[j]? with
  | none=>rw[hq]at hp;cases hp
  | some q=>
   rw[hq]at hp
   injection hp with hp
   subst hp
   have hj:j<vs.length:=by rw[hl];exact(List.getElem?_eq_some_iff.1 hq).1
   exact⟨vs[j],by simp[hj],(h j q vs[j] hq (List.getElem?_eq_getElem hj)).dj av⟩
 unfold Proofs.YtmffpkippmkjbaaGreatDoor.uT
 split
 ·rename_i x
  match vs,hl,h with
  | [v],_,h=>
   have:=h 0 _ v rfl rfl
   obtain⟨u,hu,hr⟩:=this.2 0 x rfl
   have:v=u:=by simpa using hu
   subst this
   exact hr.dj av
 ·rename_i cs
  match vs,hl,h with
  | [v],_,h=>exact RP.dj av (p:=(true,cs)) (h 0 _ v rfl rfl)
 ·trivial
 ·rename_i h1 h2 h3
  refine bJ fun e=>?_
  obtain⟨⟨b,cs⟩,rfl⟩:=List.length_eq_one_iff.1 e
  cases b with
  | true=>exact h2 cs rfl
  | false=>exact h3 cs rfl
theorem afk{f:Nat}{fn:Func}{code:Code}(hf:P.funcs[f]?=some fn)(hb:fn.body=some code)(hN:fn.ntmps=M)(hM:M<=20000)(kJ:(fn.name == "runtime.NumGoroutine")=false)(hg:20000<=g/\g<60000)(aU:ej P Φ):
  enters P f/\kG P f (SW P M g Φ code fn.results):=by
 refine⟨⟨fn,hf,kJ,by rw[hb];rfl⟩,fun X N σ xs k r h=>?_⟩
 have h:Co P M g Φ code fn.results N σ xs k=some r:=h
 unfold Co at h
 cases hl:Nat.ble xs.length M with
 | false=>rw[hl]at h;cases h
 | true=>
  rw[hl,cond_true]at h
  have eB:=Nat.le_of_ble_eq_true hl
  obtain⟨e,τ,h1,h2⟩:=afi aU _ _ _ h
  have h3:(e = .normal\/e = .ret)/\wT P g fn.results τ k=some r:=by
   split at h1
   ·rename_i he;exact⟨.inl (oJ he),h1⟩
   ·rename_i he;exact⟨.inr (oJ he),h1⟩
   ·cases h1
  obtain⟨hex,h3⟩:=h3
  obtain⟨ys,ps,hy,fq,hk,hd⟩:=afj h3
  refine⟨_,_,hk,fun X' k'=>?_,fun w0 lab ρ a w aT hR hsz hv=>?_⟩
  ·show Co P M g Φ code fn.results N σ xs k'=_
   unfold Co
   rw[hl,cond_true,h2]
   rcases hex with rfl | rfl
   ·exact hd X' k'
   ·exact hd X' k'
  ·let us:=a.tmps.toList
   let W:Wd:=w0.pin g (some (.aT us)) hg.1
   let oz:=aX ρ g (.aT us)
   have av:∀ r,r≠g->oz r=ρ r:=fun r hr=>bB _ _ _ hr
   have dN:∀ j,us.getD j undef=a.tmps.getD j undef:=fun j=>by
    show a.tmps.toList.getD j undef=_
    rw[List.getD_eq_getElem?_getD,Array.getElem?_toList,Array.getD_eq_getD_getElem?]
   have hle:aT.size<=M:=by rw[hsz];exact eB
   have mT:Rl W M lab oz (SV g N σ xs) { tmps:=aT++Array.replicate (fn.ntmps-aT.size) undef,defers:=[] } w:=by
    refine⟨⟨hR.below.os,hR.below.tape,hR.below.output,hR.below.size,hR.below.block⟩,hR.bV,fun r x hx=>?_,fun j=>?_,by simp[hN];omega,rfl,fun r l hr=>?_,fun r hr=>?_⟩
    ·have hx:aX (σ.drop g).m g (some (.gh ((List.range N).map fun j=>(σ.t j).drop g))) r=some x:=hx
     by_cases nh:r=g
     ·subst nh
      rw[aZ]at hx
      injection hx with hx
      subst hx
      refine .gh us _ (aZ _ _ _) fun j x hj=>?_
      rw[List.getElem?_map]at hj
      cases hr:(List.range N)[j]? with
      | none=>rw[hr]at hj;cases hj
      | some j'=>
       rw[hr]at hj
       injection hj with hj
       obtain⟨bU,oV⟩:=List.getElem?_eq_some_iff.1 hr
       rw[List.getElem_range]at oV
       subst oV hj
       rw[dN]
       exact(hR.tmp j).dj av
     ·rw[bB _ _ _ nh]at hx
      have hx:(bif Nat.beq r g then none else (σ.m r).map (ax.drop g))=some x:=hx
      cases hb:Nat.beq r g with
      | true=>rw[hb]at hx;cases hx
      | false=>
       rw[hb,cond_false]at hx
       cases hm:σ.m r with
       | none=>rw[hm]at hx;cases hx
       | some y=>
        rw[hm]at hx
        injection hx with hx
        subst hx
        exact(hR.root r y hm).dj av nh
    ·show RA w w0.heap.size lab oz (((xs.map (A.drop g))[j]?).getD .undef) _
     rw[List.SX]
     by_cases hj:j<aT.size
     ·have e1:(aT++Array.replicate (fn.ntmps-aT.size) undef).getD j undef=aT.getD j undef:=by
       rw[Array.getD_eq_getD_getElem?,Array.getElem?_append_left hj,Array.getD_eq_getD_getElem?]
      show RA w w0.heap.size lab oz _ ((aT++Array.replicate (fn.ntmps-aT.size) undef).getD j undef)
      rw[e1]
      exact(hv j).dj av
     ·rw[List.getElem?_eq_none (by omega:xs.length<=j)]
      trivial
    ·have hr:(if r=g then some (Loc.aT us)else w0.F r)=some l:=hr
     by_cases nh:r=g
     ·rw[if_pos nh]at hr
      injection hr with hr
      rw[nh,<-hr]
      exact aZ _ _ _
     ·rw[if_neg nh]at hr
      rw[av r nh]
      exact hR.fix r l hr
    ·show (if r=g then some (Loc.aT us)else w0.F r)=none
     rw[if_neg (by omega)]
     rcases hr with hr | hr
     ·exact w0.low r (by omega)
     ·exact hR.dM r (.inr hr)
   refine calls_of_wp hf hb ?_
   refine wp_mono (zp (w0:=W) aU code _ (fun e τ=>some (e,τ)) (h2 _ _) (fun p hp b hb=>by cases hb) _ w ⟨lab,oz,mT⟩) fun e' a' w' he=>?_
   obtain⟨af,dm,aj,ρ',aA⟩:=he
   injection dm with dm
   injection dm with k1 k2
   subst k1 k2
   have BA:ρ' g = .aT us:=aA.fix g _ (if_pos rfl)
   let dI:=aX ρ' g ((w0.F g).getD (.blk 0 0))
   have qt:∀ r,r≠g->dI r=ρ' r:=fun r hr=>bB _ _ _ hr
   obtain⟨lO,ME,kn⟩:=Bs (w0:=W) (N:=M) _ _ fq
   injection ME with ME
   subst ME
   obtain⟨vs,aL,hlen,eT⟩:=kn aj ρ' a' w' aA
   have afl:(fn.results.mapM (nM a'.tmps)).run P w' = .ok vs.toArray w':=by
    rw[Array.mapM_eq_mapM_toList]
    simp[aL]
   have eX:results fn a'.tmps=(do let vs <-fn.results.mapM (nM a'.tmps);pure (if h:vs.size=1 then vs[0]else .tuple vs)):=by
    unfold results
    congr 1
   have hRf:Rl w0 N aj dI ⟨fun j=>((ys.map (A.drop g))[j]?).getD .undef,(af.drop g).m⟩ a w':=by
    refine⟨⟨aA.below.os,aA.below.tape,aA.below.output,aA.below.size,aA.below.block⟩,aA.bV,fun r x hx=>?_,fun j=>?_,hR.size,hR.defers,fun r l hr=>?_,hR.dM⟩
    ·have hx:(bif Nat.beq r g then none else (af.m r).map (ax.drop g))=some x:=hx
     cases hb:Nat.beq r g with
     | true=>rw[hb]at hx;cases hx
     | false=>
      have nh:r≠g:=by rintro rfl;simp at hb
      rw[hb,cond_false]at hx
      cases hm:af.m r with
      | none=>rw[hm]at hx;cases hx
      | some y=>
       rw[hm]at hx
       injection hx with hx
       subst hx
       exact(aA.root r y hm).dj qt nh
    ·show RA w' w0.heap.size aj dI (((ys.map (A.drop g))[j]?).getD .undef) _
     rw[List.SX]
     cases hyj:ys[j]? with
     | none=>trivial
     | some y=>
      have bZ:=aA.root g _ hy
      generalize hz:ax.gh ys=z at bZ
      cases bZ with
      | blk=>cases hz
      | sl=>cases hz
      | mp=>cases hz
      | gh P6 xs' sq hx3=>
       injection hz with hz
       subst hz
       rw[BA]at sq
       injection sq with sq
       subst sq
       have:=hx3 j y hyj
       rw[dN]at this
       exact this.dj qt
    ·by_cases nh:r=g
     ·subst nh
      show aX ρ' r ((w0.F r).getD (.blk 0 0)) r=l
      rw[aZ,hr]
      rfl
     ·rw[qt r nh]
      exact aA.fix r l ((if_neg nh).trans hr)
   have fin:a'.defers=[]/\∃ v,(results fn a'.tmps).run P w' = .ok v w'/\∃ uQ aj ρ',Ending.returned v=Ending.returned uQ/\Rl w0 N aj ρ' ⟨fun j=>((ys.map (A.drop g))[j]?).getD .undef,(af.drop g).m⟩ a w'/\RA w' w0.heap.size aj ρ' (uT g lO) uQ:=
    ⟨aA.defers,_,by rw[eX,Sem.run_bind,afl,Result.andThen_ok,Sem.run_pure],_,aj,dI,rfl,hRf,RP.uT qt hlen eT⟩
   rcases hex with rfl | rfl
   ·exact fin
   ·exact fin
end
end Go.Proofs.YtmffpkippmkjbaaGreatDoor
namespace Go.Proofs.YtmffpkippmkjbaaGreatDoor
open Go.RowKit
set_option linter.unusedVariables false
def ni:Nat:=1000000000
def stays(n:Nat):Bool:=Nat.ble 20000 (n % ni)
theorem afm:60000<=ni:=Nat.le_of_ble_eq_true rfl
def nj(n:Nat):Nat:=bif stays n then n else n+ni
def uU(n:Nat):Option Nat:=bif stays n then some n else bif Nat.ble ni n && !stays (n-ni)then some (n-ni)else none
def jr:List Nat->List Nat
 | []=>[]
 | [r]=>[nj r]
 | x :: y :: k=>x :: jr (y :: k)
def Lf.up:Lf->Lf
 | .v x=>.v x
 | .own k=>.own (jr k)
 | .dead=>.dead
def A.up:A->A
 | .undef=>.undef
 | .skip=>.skip
 | .lf x=>.lf x.up
 | .agg cs=>.agg (cs.map Lf.up)
 | .bJ xs=>.bJ (xs.map fun p=>(p.1,p.2.map Lf.up))
 | .ptr k=>.ptr (jr k)
 | .az r j=>.az (nj r) j
 | .fL cs=>.fL cs
 | .jD f cs=>.jD f cs
 | .pk r n=>.pk (nj r) n
 | .view k s i j=>.view (jr k) s i j
 | .fn f cap=>.fn f (cap.map fun p=>(nj p.1,p.2))
def ax.up:ax->ax
 | .blk cs=>.blk (cs.map Lf.up)
 | .sl y=>.sl y
 | .mp l=>.mp l
 | .gh xs=>.gh (xs.map A.up)
def S.up(σ:S):S:=⟨fun k=>(σ.t k).up,fun n=>match uU n with
 | some r=>(σ.m r).map ax.up
 | none=>none⟩
def SY(c:pG):pG:=⟨fun X N σ xs k=>c.run X N σ.up (xs.map A.up) fun af y=>k af.up y.up⟩
section
variable {P:Program} {w w':World} {w0:Wd} {B N:Nat} {lab aj:aQ} {ρ ρ':Nat->Loc} {σ:S} {a:Act} {X:Type}
theorem afn(r:Nat):uU (nj r)=some r:=by
 unfold uU nj
 cases h:stays r with
 | true=>simp only[cond_true,h]
 | false=>
  have h2:stays (r+ni)=false:=by
   unfold stays at h ⊢
   rw[Nat.add_mod_right]
   exact h
  have h3:Nat.ble ni (r+ni)=true:=Nat.ble_eq_true_of_le (Nat.le_add_left _ _)
  have h4:r+ni-ni=r:=Nat.add_sub_cancel r ni
  rw[cond_false,h2,cond_false,h3,h4,h]
  rfl
theorem afo{n r:Nat}(h:uU n=some r):n=nj r:=by
 unfold uU at h
 cases hs:stays n with
 | true=>
  rw[hs,cond_true]at h
  injection h with h
  subst h
  simp[nj,hs]
 | false=>
  rw[hs,cond_false]at h
  cases hc:(Nat.ble ni n && !stays (n-ni))with
  | false=>rw[hc]at h;cases h
  | true=>
   rw[hc,cond_true]at h
   have h:=Option.some.inj h
   rw[Bool.and_eq_true]at hc
   have h1:=Nat.le_of_ble_eq_true hc.1
   have h2:stays r=false:=by rw[<-h];simpa using hc.2
   simp only[nj,h2,cond_false]
   omega
def jW(lab:aQ):aQ:=fun b=>(lab b).map jr
def qP(ρ:Nat->Loc):Nat->Loc:=fun n=>match uU n with
 | some r=>ρ r
 | none=>ρ n
theorem wU(r:Nat):qP ρ (nj r)=ρ r:=by unfold qP;rw[afn]
theorem afp{k:List Nat}(h:k≠[]):jr k≠[]:=by
 match k with
 | []=>exact absurd rfl h
 | [r]=>simp[jr]
 | x :: y :: k=>simp[jr]
theorem wV{x:Nat}{k:List Nat}(h:k≠[]):jr (x :: k)=x :: jr k:=by
 match k with
 | []=>exact absurd rfl h
 | y :: k=>rfl
theorem SZ(x y:Nat)(k:List Nat):∃ y' k',jr (x :: y :: k)=x :: y' :: k':=by
 rw[wV (by simp)]
 match k with
 | []=>exact⟨_,_,rfl⟩
 | z :: k=>exact⟨y,_,rfl⟩
theorem MF:∀ (k:List Nat) (ad:Addr),addrAt w lab ρ k=some ad->addrAt w (jW lab) (qP ρ) (jr k)=some ad
 | [],_,h=>by simp[addrAt]at h
 | [_],_,h=>by simp[addrAt]at h
 | [_,_],_,h=>by simp[addrAt]at h
 | [_,_,_],_,h=>by simp[addrAt]at h
 | [j,i,s,r],ad,h=>by
  simp only[addrAt]at h
  simp only[jr,addrAt,wU]
  split at h
  ·rename_i b n c hr
   split at h
   ·rename_i hl
    rw[if_pos (by simp[jW,hl,jr])]
    exact h
   ·cases h
  ·cases h
 | j :: i :: s :: x :: y :: q,ad,h=>by
  simp only[addrAt]at h
  split at h
  ·rename_i b n c hr
   split at h
   ·rename_i hl
    cases ha:addrAt w lab ρ (x :: y :: q)with
    | none=>rw[ha]at hr;cases hr
    | some lH=>
     have ih:=MF (x :: y :: q) lH ha
     have e:jW lab b=some (jr (x :: y :: q)):=by simp[jW,hl]
     rw[wV (by simp),wV (by simp),wV (by simp)]
     rw[ha]at hr
     obtain⟨y',q',hk⟩:=SZ x y q
     rw[hk]at ih e ⊢
     simp only[addrAt,ih,hr,e,if_true]
     exact h
   ·cases h
  ·cases h
theorem S0{k:List Nat}{u:Value}(h:bC w lab ρ k=some u):bC w (jW lab) (qP ρ) (jr k)=some u:=by
 match k with
 | []=>simp[bC,addrAt]at h
 | [r]=>
  simp only[bC]at h
  simp only[jr,bC,wU]
  exact h
 | x :: y :: k=>
  simp only[bC]at h
  cases ha:addrAt w lab ρ (x :: y :: k)with
  | none=>rw[ha]at h;cases h
  | some ad=>
   have:=MF _ _ ha
   obtain⟨y',q',hk⟩:=SZ x y k
   rw[hk]at this ⊢
   simp only[bC,this]
   rw[ha]at h
   exact h
theorem MG{b:Nat}(h:lab b=none):jW lab b=none:=by simp[jW,h]
theorem RV.up(aK:∀ b k,lab b=some k->k≠[]){k:List Nat}{x:V}{v:Value}(h:RV w B lab k x v):RV w B (jW lab) (jr k) x v:=by
 induction h with
 | int=>exact .int _ _ _
 | bool=>exact .bool _ _
 | str=>exact .str _ _
 | nil=>exact .nil _
 | bO=>exact .bO _ _ _
 | bY q t o A c ho=>exact .bY _ _ _ _ _ ho
 | cy q t o A c ho=>exact .cy _ _ _ _ _ ho
 | ah q t o qn l b off cap u ho hl hb h1 hcap hc hr ih=>
  exact .ah _ _ _ _ _ _ _ _ u ho (MG hl) hb h1 hcap hc ih
 | own q t o qn l b cap cs u hl hh hs hn hm hc hr ih=>
  have hq:=aK b q hl
  refine .own _ _ _ _ _ _ _ cs u (by simp[jW,hl]) hh hs hn hm hc fun i h j x hx=>?_
  have:=ih i h j x hx
  rw[wV (by simp),wV (by simp),wV hq]at this
  exact this
theorem cg.up(aK:∀ b k,lab b=some k->k≠[]){x:Lf}{u:Value}(h:cg w B lab ρ x u):cg w B (jW lab) (qP ρ) x.up u:=by
 cases x with
 | v x=>exact⟨h.1,RV.up aK h.2⟩
 | own k=>exact⟨h.1,S0 h.2⟩
 | dead=>trivial
theorem cG.up(aK:∀ b k,lab b=some k->k≠[]){cs:List Lf}{us:Array Value}(h:cG w B lab ρ cs us):cG w B (jW lab) (qP ρ) (cs.map Lf.up) us:=by
 refine⟨by rw[List.length_map];exact h.1,fun j x hx=>?_⟩
 rw[List.getElem?_map]at hx
 cases hz:cs[j]? with
 | none=>rw[hz]at hx;cases hx
 | some z=>
  rw[hz]at hx
  injection hx with hx
  subst hx
  obtain⟨u,h1,h2⟩:=h.2 j z hz
  exact⟨u,h1,h2.up aK⟩
theorem RP.up(aK:∀ b k,lab b=some k->k≠[]){p:Bool×List Lf}{u:Value}(h:RP w B lab ρ p u):RP w B (jW lab) (qP ρ) (p.1,p.2.map Lf.up) u:=by
 obtain⟨b,cs⟩:=p
 cases b with
 | true=>
  obtain⟨us,rfl,h⟩:=h
  exact⟨us,rfl,cG.up aK h⟩
 | false=>exact cG.up aK h
theorem RA.up(aK:∀ b k,lab b=some k->k≠[]){x:A}{u:Value}(h:RA w B lab ρ x u):RA w B (jW lab) (qP ρ) x.up u:=by
 cases x with
 | undef=>trivial
 | skip=>exact h
 | lf x=>exact cg.up aK h
 | agg cs=>exact RP.up aK (p:=(true,cs)) h
 | bJ xs=>
  obtain⟨us,rfl,h1,h2⟩:=h
  refine⟨us,rfl,by rw[List.length_map];exact h1,fun j p hp=>?_⟩
  rw[List.getElem?_map]at hp
  cases hz:xs[j]? with
  | none=>rw[hz]at hp;cases hp
  | some z=>
   rw[hz]at hp
   injection hp with hp
   subst hp
   obtain⟨v,h3,h4⟩:=h2 j z hz
   exact⟨v,h3,h4.up aK⟩
 | ptr k=>
  obtain⟨ad,rfl,h⟩:=h
  exact⟨ad,rfl,MF _ _ h⟩
 | az r j=>
  obtain⟨b,off,h1,h2⟩:=h
  exact⟨b,off,(wU r).trans h1,h2⟩
 | fL cs=>
  obtain⟨b,off,g1,g2,g3,g4⟩:=h
  refine⟨b,off,g1,g2,MG g3,fun j x hx=>?_⟩
  obtain⟨f1,v,f2,f3⟩:=g4 j x hx
  exact⟨f1,v,f2,RV.up aK f3⟩
 | jD f cs=>
  obtain⟨pv,e0,h⟩:=h
  refine⟨pv,e0,?_⟩
  obtain⟨b,off,g1,g2,g3,g4⟩:=h
  refine⟨b,off,g1,g2,MG g3,fun j x hx=>?_⟩
  obtain⟨f1,v,f2,f3⟩:=g4 j x hx
  exact⟨f1,v,f2,RV.up aK f3⟩
 | pk r n=>
  obtain⟨b,h1,h2⟩:=h
  exact⟨b,(wU r).trans h1,h2⟩
 | view k s i j=>
  obtain⟨A,n,c,h1,h2⟩:=h
  exact⟨A,n,c,S0 h1,h2⟩
 | fn f cap=>
  obtain⟨vs,rfl,h1,h2⟩:=h
  refine⟨vs,rfl,by rw[List.length_map];exact h1,fun j p hp=>?_⟩
  rw[List.getElem?_map]at hp
  cases hz:cap[j]? with
  | none=>rw[hz]at hp;cases hp
  | some z=>
   rw[hz]at hp
   injection hp with hp
   subst hp
   obtain⟨b,off,h3,h4⟩:=h2 j z hz
   exact⟨b,off,(wU _).trans h3,h4⟩
theorem cX.up(aK:∀ b k,lab b=some k->k≠[]){r:Nat}{x:ax}(h:cX w B lab ρ r x):cX w B (jW lab) (qP ρ) (nj r) x.up:=by
 have av:=wU (ρ:=ρ) r
 have hl:∀ {b},lab b=some [r]->jW lab b=some [nj r]:=fun h=>by simp[jW,h,jr]
 cases h with
 | blk b off cells e cs us h1 h2 hh hs hc=>
  refine .blk b off cells e _ us (av.trans h1) (hl h2) hh (by rw[List.length_map];exact hs) fun j x hx=>?_
  rw[List.getElem?_map]at hx
  cases hz:cs[j]? with
  | none=>rw[hz]at hx;cases hx
  | some z=>
   rw[hz]at hx
   injection hx with hx
   subst hx
   exact⟨(hc j z hz).1,(hc j z hz).2.up aK⟩
 | sl v y h1 h2=>exact .sl v y (av.trans h1) (RV.up aK h2)
 | mp b c es l h1 h2 hh he=>exact .mp b c es l (av.trans h1) (hl h2) hh he
 | gh us xs h1 hx=>
  refine .gh us _ (av.trans h1) fun j x hj=>?_
  rw[List.getElem?_map]at hj
  cases hz:xs[j]? with
  | none=>rw[hz]at hj;cases hj
  | some z=>
   rw[hz]at hj
   injection hj with hj
   subst hj
   exact RA.up aK (hx j z hz)
theorem Rl.up(h:Rl w0 N lab ρ σ a w):Rl w0 N (jW lab) (qP ρ) σ.up a w:=by
 have aK:∀ b k,lab b=some k->k≠[]:=fun b k hk=>(h.bV b k hk).2.2
 refine⟨h.below,fun b k hk=>?_,fun n x hx=>?_,fun k=>RA.up aK (h.tmp k),h.size,h.defers,fun r l hr=>?_,h.dM⟩
 ·unfold jW at hk
  cases hl:lab b with
  | none=>rw[hl]at hk;cases hk
  | some q=>
   rw[hl]at hk
   injection hk with hk
   obtain⟨h1,h2,h3⟩:=h.bV b q hl
   exact⟨h1,h2,by rw[<-hk];exact afp h3⟩
 ·have hx:(match uU n with | some r=>(σ.m r).map ax.up | none=>none)=some x:=hx
  cases hd:uU n with
  | none=>rw[hd]at hx;cases hx
  | some r=>
   rw[hd]at hx
   have hx:(σ.m r).map ax.up=some x:=hx
   cases hm:σ.m r with
   | none=>rw[hm]at hx;cases hx
   | some y=>
    rw[hm]at hx
    injection hx with hx
    subst hx
    rw[afo hd]
    exact(h.root r y hm).up aK
 ·have hs:stays r=true:=by
   have h1:20000<=r:=Nat.le_of_not_lt fun bU=>by rw[w0.low r bU]at hr;cases hr
   have h2:r<60000:=Nat.lt_of_not_le fun hle=>by rw[h.dM r (.inr hle)]at hr;cases hr
   unfold stays
   rw[Nat.mod_eq_of_lt (Nat.lt_of_lt_of_le h2 afm)]
   exact Nat.ble_eq_true_of_le h1
  have hu:nj r=r:=by simp[nj,hs]
  have:=wU (ρ:=ρ) r
  rw[hu]at this
  rw[this]
  exact h.fix r l hr
theorem afq{f:Nat}{c:pG}(h:kG P f c):kG P f (SY c):=by
 intro hi X N σ xs k r hr
 obtain⟨af,y,h1,h2,h3⟩:=h X N σ.up (xs.map A.up) _ r hr
 refine⟨af.up,y.up,h1,fun X' k'=>h2 X' _,fun w0 lab ρ a w aT hR hs hv=>?_⟩
 have aK:∀ b k,lab b=some k->k≠[]:=fun b k hk=>(hR.bV b k hk).2.2
 refine(h3 w0 _ _ a w aT hR.up (by rw[List.length_map];exact hs) fun i=>?_).mono fun e w' hp=>?_
 ·rw[List.getElem?_map]
  have:=hv i
  cases hx:xs[i]? with
  | none=>trivial
  | some x=>
   rw[hx]at this
   exact RA.up aK this
 ·obtain⟨v,aj,ρ',he,aA,hy⟩:=hp
  exact⟨v,_,_,he,aA.up,RA.up (fun b k hk=>(aA.bV b k hk).2.2) hy⟩
end
end Go.Proofs.YtmffpkippmkjbaaGreatDoor
namespace Go.Proofs.YtmffpkippmkjbaaGreatDoor
open Go.RowKit
set_option linter.unusedVariables false
def big:Nat:=4611686018427387904
def bq(c:Code)(id:Nat):Code:=match (occs c).lookup id with
 | some (.loop b)=>b
 | _=>.skip
def aW(fn:Func):Code:=fn.body.getD .skip
def js(l:List (Nat×oE)):cY:=fun f=>l.lookup f
def zA(P:Program):List (Nat×oE)->Prop
 | []=>True
 | (f,c) :: l=>(enters P f/\Rr P f c)/\zA P l
theorem kK{P:Program}:∀ (l:List (Nat×oE)),zA P l->ej P (js l)
 | [],_=>fun f c h=>by cases h
 | (f',c') :: l,⟨h1,h2⟩=>fun f c h=>by
  have h':List.lookup f ((f',c') :: l)=some c:=h
  clear h
  rw[List.lookup_cons]at h'
  split at h'
  ·rename_i he
   have he:f=f':=by simpa using he
   subst he
   injection h' with h'
   subst h'
   exact h1
  ·exact kK l h2 f c h'
def iB(l:List (Nat×bh)):jS:=fun id=>l.lookup id
def S1(P:Program)(N:Nat)(code:Code):List (Nat×bh)->Prop
 | []=>True
 | (id,b) :: l=>(∃ c,(occs code).lookup id=some c/\br P N (.block id c) b)/\S1 P N code l
def ids(l:List (Nat×Code)):Bool:=(l.map (·.1)).all fun i=>Nat.beq ((l.filter fun p=>Nat.beq p.1 i).length) 1
theorem S2:∀ (l:List (Nat×Code)) (p:Nat×Code),(∀ q∈l,q.1=p.1->q=p)->p∈l->l.lookup p.1=some p.2
 | [],p,_,h=>by cases h
 | q :: l,p,hu,h=>by
  rw[List.lookup_cons]
  by_cases he:p.1=q.1
  ·have:q=p:=hu q (.head _) he.symm
   subst this
   simp
  ·have hb:(p.1==q.1)=false:=by simpa using he
   rw[hb]
   rcases List.mem_cons.1 h with rfl | h
   ·exact absurd rfl he
   ·exact S2 l p (fun q hq=>hu q (.tail _ hq)) h
theorem afr{l:List (Nat×Code)}(h:ids l=true){p q:Nat×Code}(hp:p∈l)(hq:q∈l)(he:q.1=p.1):q=p:=by
 have h1:=List.all_eq_true.1 h p.1 (List.mem_map_of_mem hp)
 have h1:=Nat.eq_of_beq_eq_true h1
 have xL:p∈l.filter fun r=>Nat.beq r.1 p.1:=List.mem_filter.2 ⟨hp,by simp⟩
 have jh:q∈l.filter fun r=>Nat.beq r.1 p.1:=List.mem_filter.2 ⟨hq,by simp[he]⟩
 obtain⟨z,hz⟩:=List.length_eq_one_iff.1 h1
 rw[hz]at xL jh
 rw[List.mem_singleton.1 xL,List.mem_singleton.1 jh]
theorem bH{P:Program}{N:Nat}{code:Code}(hi:ids (occs code)=true):∀ (l:List (Nat×bh)),S1 P N code l->mW P N (iB l) (occs code)
 | [],_=>fun p hp b h=>by cases h
 | (id,b') :: l,⟨⟨c,hc,h1⟩,h2⟩=>fun p hp b h=>by
  have h':List.lookup p.1 ((id,b') :: l)=some b:=h
  clear h
  rw[List.lookup_cons]at h'
  split at h'
  ·rename_i he
   have he:p.1=id:=by simpa using he
   injection h' with h'
   subst h'
   have:=S2 (occs code) p (fun q hq e=>afr hi hp hq e) hp
   rw[he,hc]at this
   injection this with this
   rw[he,<-this]
   exact h1
  ·exact bH hi l h2 p hp b h'
theorem aF{P:Program}{N:Nat}{l:List (Nat×Code)}:mW P N (iB []) l:=fun p hp b h=>by cases h
def ci(P:Program)(fn:Func)(sL:Nat)(l:List (Nat×oE)):pG:=SW P fn.ntmps (59000+sL) (js l) (aW fn) fn.results
theorem uV{P:Program}{f:Nat}{fn:Func}(sL:Nat)(l:List (Nat×oE))(hf:P.funcs[f]?=some fn)(hl:zA P l)(hb:fn.body=some (aW fn):=by kernel_rfl)(hN:Nat.ble fn.ntmps 20000=true:=by kernel_rfl)(hv:Nat.ble sL 900=true:=by kernel_rfl)(kJ:(fn.name == "runtime.NumGoroutine")=false:=by kernel_rfl):enters P f/\kG P f (ci P fn sL l):=
 afk hf hb rfl (Nat.le_of_ble_eq_true hN) kJ ⟨by omega,by have:=Nat.le_of_ble_eq_true hv;omega⟩ (kK l hl)
def cj(P:Program)(fn:Func)(sL:Nat)(l:List (Nat×oE)):pG:=SY (ci P fn sL l)
theorem uW{P:Program}{f:Nat}{fn:Func}{sL:Nat}{l:List (Nat×oE)}(h:enters P f/\kG P f (ci P fn sL l)):enters P f/\kG P f (cj P fn sL l):=⟨h.1,afq h.2⟩
theorem aJ{P:Program}{f:Nat}{fn:Func}{ai:List (Bool×TC)}{ro:List (Bool×TC×Nat)}{F:k8 ai->Option (jI ro)}(N:Nat)(l:List (Nat×oE))(b:List (Nat×bh))(hf:P.funcs[f]?=some fn)(hl:zA P l)(eZ:mW P N (iB b) (occs (aW fn)))(hF:∀ x,qO P N (js l) (iB b) (aW fn) fn.results (fH ai x) (lQ ro)=F x)(hb:fn.body=some (aW fn):=by kernel_rfl)(hN:fn.ntmps=N:=by kernel_rfl)(kJ:(fn.name == "runtime.NumGoroutine")=false:=by kernel_rfl)(pU:Nat.ble ai.length N=true:=by kernel_rfl)(bZ:pS ro=true:=by kernel_rfl):enters P f/\aG P f (aH ai ro F):=afa hf hb hN kJ pU bZ (kK l hl) eZ hF
theorem fnE{P:Program}{f:Nat}{fn:Func}{t:TC}{g:Nat}{F:List (T t)->Option (List (T t))}(N:Nat)(l:List (Nat×oE))(b:List (Nat×bh))(hf:P.funcs[f]?=some fn)(hl:zA P l)(eZ:mW P N (iB b) (occs (aW fn)))(hF:∀ x:List (T t),qO P N (js l) (iB b) (aW fn) fn.results [(false,[.sl t 0 false x])] (lQ [(false,.sl t,g)])=F x)
  (h0:qO P N (js l) (iB b) (aW fn) fn.results [(false,[.nil])] (lQ [(false,.sl t,g)])=some ([]:List (T t)):=by kernel_rfl) (h1:qO P N (js l) (iB b) (aW fn) fn.results [(false,[.sl t 0 true []])] (lQ [(false,.sl t,g)])=some ([]:List (T t)):=by kernel_rfl)
  (hb:fn.body=some (aW fn):=by kernel_rfl) (hN:fn.ntmps=N:=by kernel_rfl) (kJ:(fn.name == "runtime.NumGoroutine")=false:=by kernel_rfl) (pU:Nat.ble 1 N=true:=by kernel_rfl) (bZ:pS [(false,.sl t,g)]=true:=by kernel_rfl):enters P f/\aG P f (aH [(false,.sl t)] [(false,.sl t,g)] fun x=>bif rU x.1 then some ([]:List (T t))else F x.1):=afb hf hb hN kJ pU bZ (kK l hl) eZ hF h0 h1
theorem bA{P:Program}{id:Nat}{body:Code}{τ:aC}{lZ:List (Nat×aC)}{F:τ.St->Option (τ.St⊕uO lZ)}{fuel:τ.St->Nat}(N:Nat)(l:List (Nat×oE))(b:List (Nat×bh))(hl:zA P l)(eZ:mW P N (iB b) (occs body))(hF:∀ x,Gn P N (js l) (iB b) body τ lZ x=F x):br P N (.block id (.loop body)) (bu id τ lZ F fuel):=ae7 (kK l hl) eZ hF
end Go.Proofs.YtmffpkippmkjbaaGreatDoor
