/-
  Running the program over pure contents, and that it follows (part 4). Nothing here is a claim.
-/
import Derived.Test.YtgjfmljpdnnihaaGreatV3
set_option linter.unusedSimpArgs false
namespace Go.Proofs.YtgjfmljpdnnihaaGreat
set_option linter.defProp false
open Go.RowKit
set_option linter.unusedVariables false
def fX(σ:S):ah Tmp->A->S
 |none,_=>σ
 |some d,v=>σ.set d v
section
variable {P:Program} {w w':World} {w0:Wd} {B N:Nat} {af az:bh} {ρ ρ':Nat->Loc} {σ:S} {a:Act} {X:Type} {d:Nat} {r:X} {o:Oper} {Φ:dX} {p pb:Nat->Bool} {e:Nat} {x:aQ} {u:A} {ops:Array Oper}
def sL{C:ah Tmp}{x:A}{k:S -> ah X}(h:gM N σ C x k=some r):k (fX σ C x)=some r /\ ∀ (σ2:S),lZ (λX k=>gM (X:=X) N σ2 C x k) (fX σ2 C x):=by
 unfold gM at h;split at h
 ·exact⟨h,λ_ X k=>rfl⟩
 ·rename_i d;cases D:Nat.blt d N with
  |false=>simp_all
  |true=>rw[D]at h;exact⟨h,λ_ X k=>by simp[gM,D];rfl⟩
def GQ{f:Nat}{c:jf}(C:fC P Φ)(h:Φ f=some (.p c)):iL P f c:=(C f _ h).2
def Yu{f:Nat}{c:jf}(C:fC P Φ)(h:Φ f=some (.q c)):iL P f c:=(C f _ h).2
def ajc{f:Nat}{C:ah Tmp}{c:uv}{xs:aa A}(D:fC P Φ)(h:Φ f=some (.i c)):cq λX k=>Gy (X:=X) N σ C c xs k:=λX Y k g=>
 ((D f _ h).2.1 N σ xs X Y _ g).trans (bz (c.run Y N σ xs) (funext λE=>funext λy=>xN X Y k g))
def Yv(C:fC P Φ):cq λX k=>dy (X:=X) P N Φ σ o k:=λX Y k g=>by
 unfold dy
 refine cW ((Rg.comp λv=>xN) X Y k g) ?_
 unfold gY gu qV zJ zg xO zb
 repeat' first
  |rfl
  |exact KI _ _ _ _
  |exact XW _ _ _ _
  |exact aiu _ _ _ _
  |exact XZ (GQ C (by assumption)) DO _ _ _ _
  |exact QZ _ _ _ _
  |exact aiz _ _ _ _
  |exact aiw _ _ _ _
  |exact ajc C (by assumption) _ _ _ _
  |exact ah0 (λ_=>QZ) _ _ _ _
  |exact XZ (Yu C (by assumption)) XY _ _ _ _
  |exact aiG _ _ _ _
  |exact ais _ _ _ _
  |exact aiX _ _ _ _
  |exact aie _ _ _ _
  |exact aiM _ _ _ _
  |exact(aiN.comp λv=>xN) X Y k g
  |exact aiO _ _ _ _
  |exact xN _ _ _ _
  |exact(agX.comp λv=>xN) X Y k g
  |refine cW ?_ ?_
  |split
def gH.bp{σ C:S}(h:gH p pb σ C){t r j:Nat}(D:σ.t t = .aJ r j)(E:pb r=false):C.t t = .aJ r j:=by
 rw[<-D];exact h.t (by rw[D];simpa [A.nR,A.fr,uo]using E)
def jz(p:Nat->Bool):A->Prop
 |.aJ r _=>p r=true
 |.ptr _=>False
 |_=>True
def gH.st{D:Nat->Bool}{σ C:S}(h:gH p pb σ C){t:Nat}(E:jz D (σ.t t)):jz D (C.t t):=by
 rcases h.nw t with e|e
 ·rw[e];exact E
 ·revert e;cases C.t t<;>simp[A.xS,jz]
def gH.Rt{σ C:S}(h:gH p pb σ C){x:Operand}(D:(aG σ x).nR p pb=true):aG C x=aG σ x:=by
 cases x with
 |tmp t=>exact h.t D
 |const v=>rfl
 |global g=>rfl
 |func f=>rfl
def gH.val{σ U:S}(h:gH p pb σ U){E:Op}{v:A}(D:lZ (λX k=>me (X:=X) P σ E k) v)(T:∀ y∈E.operands,(aG σ y).nR p pb=true)(Z:v.nR p pb=true)(O:∀ t y r j,E = .load t y->aG σ y = .aJ r j->p r=false):lZ (λX k=>me (X:=X) P U E k) v:=by
 intro X k
 refine(Yl E (λy I=>⟨h.Rt (T y I),λq e X k=>K7 h.sl q k (Yr (T y I) e)⟩) (λt y e k=>?_) k).trans (D X k)
 subst e;have D:lZ (λX k=>nI (X:=X) P σ t (aG σ y) k) v:=D;have I:=T y (by simp[Op.operands]);have O:=λr j=>O t y r j rfl
 generalize aG σ y=u at D I O;by_cases Y:∃r j,u = .aJ r j
 ·obtain⟨r,j,rfl⟩:=Y;have C:nI P σ t (.aJ r j) some=some v:=D A some;rw[D.at_ k];simp only[nI]at C ⊢;split at C
  ·cases C
  ·split at C
   next cs fV=>obtain⟨f,e1,e2⟩:=h.aA r (O r j rfl) cs fV;obtain⟨z,⟨⟩,e4⟩:=KH.lD C;rw[e1];simp only[];rw[<-List.map_drop,<-List.map_take,List.map_congr_left λl hl=>e2 l (ai9 C Z l hl),List.map_id'];exact e4.at_ k
   ·cases C
 ·exact Sm.load (λq e X k=>K7 h.sl q k (Yr I e)) (λr j e=>absurd ⟨r,j,e⟩ Y) k
def Ru:∀ (xs:aa V) (c:Nat) (σ:S),(∀ n,c <= n -> p n=true/\pb n=true) -> gH p pb σ (l8 c σ xs)
 |[],c,σ,h=>.refl σ
 | x :: xs,c,σ,h=>by
  simp[l8];cases D:x.aF with
  |true=>exact Ru xs _ σ (λn C=>h n (by omega))
  |false=>exact .trans (.root c (.sl x) (h c (dH _)).1 (h c (dH _)).2 (.refl σ)) (Ru xs (c+1) _ (λn C=>h n (by omega)))
def GR:∀ (ps:aa Pt) (c:Nat) (σ:S),(∀ n,c<=n->p n=true/\pb n=true)->gH p pb σ (nN c σ ps)
 |[],c,σ,h=>.refl σ
 |q::ps,c,σ,h=>(Ru q.2 c σ h).trans (GR ps _ _ (λn C=>h n (by omega)))
def zP{σ2:S}{ops:Array Oper}(h:∀ g b t,o.guard=some (g,b) -> (ops[g]?).bind (·.dst)=some t -> σ2.t t=σ.t t):fJ σ2 ops o=fJ σ ops o:=by
 unfold fJ
 grind
def rj(p pb:Nat->Bool)(x:A):Prop:=∀r,x = .lf (.own [r])->p r=true/\pb r=true
def gH.tg{C D:Nat->Bool}{σ E:S}(h:gH p pb σ E){t:Nat}(I:rj C D (σ.t t)):rj C D (E.t t):=by
 rcases h.nw t with e|e
 ·rw[e];exact I
 ·intro r O;rw[O]at e;cases e
structure rm (P:Program) (N:Nat) (Φ:dX) (o:Oper) (p pb:Nat->Bool) (p7 τ:S) where
 G:S->S
 u:A
 eq:τ=fX (G p7) o.dst u
 run:∀σ2:S,(∀x∈o.op.operands,aG σ2 x=aG p7 x)->σ2.m=p7.m->dy P N Φ σ2 o some=some (fX (G σ2) o.dst u)
 grow:∀σ,gH p pb σ (G σ)
 set:∀(σ:S) d v,(A.nR p pb v)=true->G (σ.set d v)=(G σ).set d v
 bp:isApp o=false->∀(σ:S) t r j,σ.t t = .aJ r j->eM o r=false->(G σ).t t = .aJ r j
theorem rm.new{D:S}{d:Nat}(E:o.dst=some d)(C:p d=true/\pb d=true)(T:eM o d=true)(x:aQ)(u:A){I:S}(e:I=((D.drop d).root d x).set d u)
  (U:∀σ2:S,(∀x∈o.op.operands,aG σ2 x=aG D x)->dy P N Φ σ2 o some=some (((σ2.drop d).root d x).set d u)):Nonempty (rm P N Φ o p pb D I):=
 ⟨{ G:=λσ=>(σ.drop d).root d x,u:=u,eq:=by rw[E];exact e,run:=λσ2 h _=>by rw[U σ2 h,E];rfl,grow:=λσ=>.root d x C.1 C.2 (.refl σ),
    set:=λσ e v Y=>by rw[S.drop_set d (A.BG Y C.1 C.2)];rfl
    bp:=λ_ σ t r j Z O=>by
     show A.drop d (σ.t t)=_;rw[Z];exact A.ou (by simp only[A.fr,wV];rw[ow (by rintro rfl;rw[T]at O;cases O)];rfl) }⟩
def Rw{d:Nat}{C:fL}{D:S}(h:m6 σ d C some=some D):∃ (ps:aa Pt) (u:A),∀ σ,m6 σ d C some=some ((nN (1000000000100000+1000*d) σ ps).set d u):=by
 unfold m6 at h ⊢;split at h
 ·rename_i q;split at h
  next y E=>exact⟨[q],y,λσ=>rfl⟩
  ·cases h
 ·exact⟨_,_,λσ=>rfl⟩
theorem Yw{f d:Nat}{c:jf}{T:S}{ev:S->(X:Type)->(aa Pt->ah X)->ah X}(U:o.dst=some d)(E:∀ n,1000000000100000+1000*d<=n->eM o n=true)(Z:∀ n,eM o n=true->p n=true/\pb n=true)(hc:iL P f c)(C:cq (ev σ))
  (Q1:∀σ2:S,(∀x∈o.op.operands,aG σ2 x=aG σ x)->σ2.m=σ.m->∀(X:Type) (k:aa Pt->ah X),ev σ2 X k=ev σ X k) (cY:∀σ2,dy P N Φ σ2 o some=sx N σ2 d c (ev σ2 S) some) (h:sx N σ d c (ev σ S) some=some T):Nonempty (rm P N Φ o p pb σ T):=by
 obtain⟨res,sk,D,I,h3⟩:=KM hc C h;injection I with I;subst I;obtain⟨ps,u,Y⟩:=Rw D;have O:∀n,1000000000100000+1000*d<=n->p n=true/\pb n=true:=λn C=>Z n (E n C)
 rw[Y]at D;injection D with D;exact⟨{ G:=λσ=>nN (1000000000100000+1000*d) σ ps,u:=u,eq:=by rw[U];exact D.symm,run:=λσ2 sM hm=>by rw[cY,U];exact(h3 σ2 _ _ (Q1 σ2 sM hm) (Y σ2)).at_ _,grow:=λσ=>GR ps _ σ O,set:=λσ e v hv=>QM v ps _ σ λn C=>A.BG hv (O n C).1 (O n C).2,bp:=λ_ σ t r j ht hr=>(GR (p:=eM o) (pb:=eM o) ps _ σ (λn C=>⟨E n C,E n C⟩)).bp ht hr }⟩
theorem ajd[Inhabited Wd](dL:fC P Φ){τ:S}(E:K1 Φ o.op=true)(hp:∀ n,eM o n=true->p n=true/\pb n=true)(h:dy P N Φ σ o some=some τ):Nonempty (rm P N Φ o p pb σ τ):=by
 have h0:=h;unfold dy at h;cases hv:fD o.op with
 | true=>
  rw[hv,aq]at h;obtain⟨v,I,D,_⟩:=Rh (w0:=default) (N:=N) h;obtain⟨T,h3⟩:=sL I;injection T with T
  refine⟨{ G:=λσ=>σ,u:=v,eq:=T.symm,run:=λσ2 C hm=>?_,grow:=.refl,set:=λ_ _ _ _=>rfl,bp:=λ_ _ _ _ _ h _=>h }⟩
  unfold dy;rw[hv,aq,Ym o.op hm C];refine(D.at_ _).trans ?_;exact(h3 σ2).at_ _
 | false=>
  rw[hv,av]at h;have Z:∀σ2,dy P N Φ σ2 o some=gY P N Φ σ2 o some:=λσ2=>by unfold dy;rw[hv,av]
  unfold gY at h Z;unfold K1 at E;rw[hv,Bool.false_or]at E;split at h
  ·rename_i e C;obtain⟨d,D,h⟩:=jy h;obtain⟨x,y,I,_,T⟩:=aid h;injection I with I;have U:eM o d=true:=by unfold eM;rw[D,C];exact Nat.beq_refl d
   refine rm.new D (hp d U) U x y I.symm λσ2 _=>?_
   rw[Z,C];simp only[gu,D];exact(T σ2).at_ _
  ·rename_i e x C;obtain⟨d,D,h⟩:=jy h;obtain⟨y,u,I,T⟩:=aij h;injection I with I;have U:eM o d=true:=by unfold eM;rw[D,C];exact Nat.beq_refl d
   refine rm.new D (hp d U) U _ _ I.symm λσ2 O=>?_
   rw[Z,C];simp only[gu,D];rw[O x (by rw[C];simp[Op.operands])];exact(T σ2).at_ _
  ·rename_i t len parts C;obtain⟨d,D,h⟩:=jy h;have U:eM o d=true:=by unfold eM;rw[D,C];exact Nat.beq_refl d
   cases hn:p9 t with
   | true=>
    rw[hn,aq]at h;obtain⟨y,u,I,T⟩:=aim h;injection I with I
    refine rm.new D (hp d U) U _ _ I.symm λσ2 O=>?_
    rw[Z,C];simp only[gu,D,hn,aq]
    refine(T σ2 λq hq=>O _ ?_).at_ _
    rw[C];simp only[Op.operands];exact List.mem_toArray.2 (List.mem_map_of_mem (f:=(·.2)) hq)
   | false=>
    rw[hn,av]at h;obtain⟨y,I,T⟩:=XU h;injection I with I
    refine rm.new D (hp d U) U _ _ I.symm λσ2 O=>?_
    rw[Z,C];simp only[gu,D,hn,av]
    refine(T σ2 λq hq=>O _ ?_).at_ _
    rw[C];simp only[Op.operands];exact List.mem_toArray.2 (List.mem_map_of_mem (f:=(·.2)) hq)
  next t x y C=>rw[C]at E;cases E
  ·rename_i t l c C;obtain⟨d,D,h⟩:=jy h;obtain⟨y,I,T⟩:=XT h;injection I with I;have U:eM o d=true:=by unfold eM;rw[D,C];exact Nat.beq_refl d
   refine rm.new D (hp d U) U _ _ I.symm λσ2 O=>?_
   rw[Z,C];simp only[gu,D];rw[O l (by rw[C];simp[Op.operands]),O c (by rw[C];simp[Op.operands])];exact(T σ2).at_ _
  ·rename_i f args iM C;have Yx:∀ σ2:S,(∀ x∈o.op.operands,aG σ2 x=aG σ x)->∀ x∈args.toList,aG σ2 x=aG σ x:=λσ2 O x hx=>O x (by
    rw[C];simp only[Op.operands,Call.operands,Array.mem_append]
    first
     |exact .inr (by simpa using hx)
     |exact .inl (by simpa using hx))
   have nm:∀d,o.dst=some d->∀n,1000000000100000+1000*d<=n->eM o n=true:=λd D n hn=>by unfold eM;rw[D,C];exact jc hn
   split at h
   next c Y=>obtain⟨d,D,h⟩:=jy h;exact Yw D (nm d D) hp (GQ dL Y) (ev:=λσ X k=>su σ args.toList k) DO (λσ2 O hm X k=>ai2 hm _ _ (Yx σ2 O)) (λσ2=>by rw[Z,C];simp only[Y,gu,D];rfl) h
   iterate 5 (rename_i c Y;rw[C]at E;simp[Y]at E)
   next c Y=>obtain⟨d,D,h⟩:=jy h;exact Yw D (nm d D) hp (Yu dL Y) (ev:=λσ X k=>Br σ args.toList k) XY (λσ2 O hm X k=>ai4 hm _ _ (Yx σ2 O)) (λσ2=>by rw[Z,C];simp only[Y,gu,D];rfl) h
   next c Y=>rw[C]at E;simp[Y]at E
   ·cases h
  next x y t t' C=>rw[C]at E;cases E
  next t C=>rw[C]at E;cases E
  next t x i C=>rw[C]at E;cases E
  next t x i v C=>rw[C]at E;cases E
  next t args iM C=>rw[C]at E;cases E
  next f Yk C=>rw[C]at E;cases E
  next x t C=>rw[C]at E;cases E
  ·cases h
def Yy(C:fC P Φ){ops:Array Oper}:cq λX k=>dn (X:=X) P N Φ ops σ o k:=λX Y k g=>by
 unfold dn;split
 ·exact Yv C _ _ _ _
 ·exact xN _ _ _ _
 ·rfl
theorem Rx[Inhabited Wd](D:fC P Φ){ops:Array Oper}{k:S->ah X}(h:dn P N Φ ops σ o k=some r):∃ C,k C=some r/\dn P N Φ ops σ o some=some C:=
 let ⟨C,E,I⟩:=(Yy D).lD h
 ⟨C,E,I S some⟩
def Ry{ops:Array Oper}{b:Bool}(h:fJ σ ops o=some b):∀ g c t,o.guard=some (g,c) -> (ops[g]?).bind (·.dst)=some t -> (σ.t t).nR p pb=true:=by
 intro g c t D E;unfold fJ at h;rw[D]at h;simp[E]at h;split at h
 next C=>rw[C];rfl
 next C=>rw[C];rfl
 ·cases h
def DU{ops:Array Oper}{d:Nat}(h:d ∉ o.looksAt ops)(v:A){x:Operand}(C:x∈o.op.operands):aG (σ.set d v) x=aG σ x:=by
 cases x with
 | tmp t=>
  have:t≠d:=by
   rintro rfl;exact h (List.mem_append_left _ (List.mem_filterMap.2 ⟨.tmp t,by simpa using C,rfl⟩))
  exact ck _ _ _ this
 |_=>rfl
def Rz{ops:Array Oper}{d:Nat}(h:d ∉ o.looksAt ops)(v:A):∀ g b t,o.guard=some (g,b) -> (ops[g]?).bind (·.dst)=some t -> (σ.set d v).t t=σ.t t:=by
 intro g b t C D;have:t≠d:=by
  rintro rfl;refine h (List.mem_append_right _ ?_);simp_all
 exact ck _ _ _ this
def mm(P:Program)(ops:Array Oper)(C:Oper)(p pb:Nat->Bool)(v:A)(σ:S):Prop:=
 (fJ σ ops C=some true/\fD C.op=true/\lZ (λX k=>me (X:=X) P σ C.op k) v/\(∀y∈C.op.operands,(aG σ y).nR p pb=true)/\v.nR p pb=true/\∀t y r j,C.op = .load t y->aG σ y = .aJ r j->p r=false)\/(fJ σ ops C=some false/\v = .skip)
def mm.grow{ops:Array Oper}{U:Oper}{v:A}(h:mm P ops U p pb v σ){Y:S}(C:gH p pb σ Y):mm P ops U p pb v Y:=by
 rcases h with ⟨D,I,h3,E,Z,h6⟩|⟨D,I⟩
 ·refine .inl ⟨?_,I,C.val h3 E Z h6,λy hy=>?_,Z,λt y r j e h=>?_⟩
  ·rw[zP λg b t O T=>C.t (Ry D g b t O T)];exact D
  ·rw[C.Rt (E y hy)];exact E y hy
  ·exact h6 t y r j e (by rw[<-C.Rt (E y (by rw[e];simp[Op.operands]))];exact h)
 ·refine .inr ⟨?_,I⟩;rw[zP λg b t O T=>C.t (Ry D g b t O T)];exact D
def mm.set{ops:Array Oper}{D:Oper}{v u:A}(h:mm P ops D p pb v σ){d:Nat}(C:d ∉ D.looksAt ops):mm P ops D p pb v (σ.set d u):=by
 rcases h with ⟨E,I,T,U,Y,Z⟩|⟨E,I⟩
 ·refine .inl ⟨?_,I,λX k=>?_,λy O=>?_,Y,λt y r j e h=>?_⟩
  ·rw[zP (Rz C u)];exact E
  ·exact(Ym (σ:=σ) (σ2:=σ.set d u) D.op rfl (λx hx=>DU C u hx) k).trans (T.at_ k)
  ·rw[DU C u O];exact U y O
  ·exact Z t y r j e (by rw[<-DU C u (by rw[e];simp[Op.operands])];exact h)
 ·refine .inr ⟨?_,I⟩;rw[zP (Rz C u)];exact E
def mm.put{ops:Array Oper}{C:Oper}{v u:A}(h:mm P ops C p pb v σ){D:ah Tmp}(E:∀ d,D=some d->d ∉ C.looksAt ops):mm P ops C p pb v (fX σ D u):=by
 cases D with
 |none=>exact h
 |some d=>exact h.set (E d rfl)
def mm.nr{ops:Array Oper}{C:Oper}{v:A}(h:mm P ops C p pb v σ):v.nR p pb=true:=by
 rcases h with ⟨_,_,_,_,D,_⟩|⟨_,E⟩
 ·exact D
 ·rw[E];rfl
def Yz{x y:ah Tmp}(v u:A)(h:∀ d,x=some d->y≠some d):fX (fX σ x v) y u=fX (fX σ y u) x v:=by
 cases x with
 |none=>rfl
 | some d=>cases y with
  |none=>rfl
  |some e=>exact S.set_set (λC=>h d rfl (bz some C)) v u
def aje(x:ah Tmp)(v:A):(fX σ x v).m=σ.m:=by cases x<;>rfl
def K8{ops:Array Oper}{C:ah Tmp}(h:∀ d,C=some d->d ∉ o.looksAt ops)(v:A){x:Operand}(D:x∈o.op.operands):aG (fX σ C v) x=aG σ x:=by
 cases C with
 |none=>rfl
 |some d=>exact DU (h d rfl) v D
def ajf{ops:Array Oper}{C:ah Tmp}(h:∀ d,C=some d->d ∉ o.looksAt ops)(v:A):fJ (fX σ C v) ops o=fJ σ ops o:=by
 cases C with
 |none=>rfl
 |some d=>exact zP (Rz (h d rfl) v)
/-! Calls that write blocks alone. -/
def YA{σ2:S}(C:σ2.m=σ.m)(ns:aa Nat):∀ (xs:aa Lf) (k:aa V -> ah X),sB σ2 ns xs k=sB σ ns xs k
 |[],k=>rfl
 | x :: xs,k=>by
  simp[sB,Rj C];congr 2;funext y;exact YA C ns xs _
def ajg{σ2:S}(C:σ2.m=σ.m)(ns:aa Nat)(x:A)(k:Pt->ah X):q8 σ2 ns x k=q8 σ ns x k:=by
 unfold q8;split<;>simp only[YA C,C]
def ajh{σ2:S}(C:σ2.m=σ.m)(p:PK)(x:A):vG σ2 p x=vG σ p x:=by
 cases p<;>simp only[vG,C]
def YB{σ2:S}(C:σ2.m=σ.m):∀ (ps:aa PK) (xs:aa Operand),(∀ x∈xs,aG σ2 x=aG σ x)->jg σ2 ps xs=jg σ ps xs
 |[],[],_=>rfl
 |[],_::_,_=>rfl
 |_::_,[],_=>rfl
 | p :: ps,x :: xs,h=>by
  simp only[jg];rw[h x (.head _),ajh C,YB C ps xs (λy D=>h y (.tail _ D))]
def K9{σ2:S}(E:σ2.m=σ.m)(ns:aa Nat):∀ (ps:aa PK) (xs:aa Operand) (C:aa Mu) (k:kR ps->ah X),(∀ x∈xs,aG σ2 x=aG σ x)->jh σ2 ns ps xs C k=jh σ ns ps xs C k
 |[],[],[],k,_=>rfl
 | .v b t :: ps,x :: xs,C,k,h=>by
  simp only[jh];rw[h x (.head _),ajg E];congr 1;funext p;congr 1;split
  ·exact K9 E ns ps xs C _ (λy D=>h y (.tail _ D))
  ·rfl
 | .p t g off :: ps,x :: xs,.aA I cs O :: C,k,h=>by
  simp only[jh];split
  ·exact K9 E ns ps xs C _ (λy D=>h y (.tail _ D))
  ·rfl
 | .s t g :: ps,x :: xs,.sl q T :: C,k,h=>by
  simp only[jh];split
  ·exact K9 E ns ps xs C _ (λy D=>h y (.tail _ D))
  ·rfl
 |[],[],_::_,k,_=>rfl
 |[],_::_,_,k,_=>rfl
 |.v _ _::_,[],_,k,_=>rfl
 |.p _ _ _::_,[],_,k,_=>rfl
 |.s _ _::_,[],_,k,_=>rfl
 |.p _ _ _::_,_::_,[],k,_=>rfl
 |.s _ _::_,_::_,[],k,_=>rfl
 |.p _ _ _::_,_::_,.sl _ _::_,k,_=>rfl
 |.s _ _::_,_::_,.aA _ _ _::_,k,_=>rfl
def aji{m:Nat -> ah aQ}{l:Lf}{v:V}{q:Nat}(h:vF m l=some (v,some q)):v.aF=false:=by
 unfold vF at h
 grind
def YC{m:Nat->ah aQ}:∀ {cs:aa Lf} {C:aa (V×ah Nat)},q7 m cs=some C->(∀ v∈C,v.1.aF=true)->∀ v∈C,v.2=none
 |[],C,h,_=>by injection h with h;subst h;simp
 | c :: cs,C,h,D=>by
  unfold q7 at h;split at h
  ·rename_i v T E I;injection h with h;subst h;intro u hu;rcases gp.1 hu with rfl | hu
   ·obtain⟨x,q⟩:=u;cases q with
    |none=>rfl
    |some q=>have:=aji E;rw[D _ (.head _)]at this;cases this
   ·exact YC I (λv O=>D v (.tail _ O)) u hu
  ·cases h
def YD{i:Nat}:∀ (C:aa (V×ah Nat)) (j:Nat),(∀ v∈C,v.2=none) -> DF i j C=[]
 |[],_,_=>rfl
 | (x,q) :: C,j,h=>by
  have:=h _ (.head _);subst this;exact YD C _ (λv D=>h v (.tail _ D))
def RB:∀ (C:aa Nat) (xs:aa V),(∀ x∈xs,x.aF=true)->vI C xs=[]/\uk C xs=[]
 |[],[],_=>⟨rfl,rfl⟩
 |[],_::_,_=>⟨rfl,rfl⟩
 |_::_,[],_=>⟨rfl,rfl⟩
 | n :: C,x :: xs,h=>by
  simp only[vI,uk,h x (.head _),aq];exact RB C xs (λx D=>h x (.tail _ D))
def DV(ps:aa PK):Bool:=ps.all λp=>match p with
 |.v _ _=>true
 |.p _ g _=>Nat.beq g 0
 |.s _ _=>false
def RC{ns:aa Nat}:∀ (ps:aa PK) (xs:aa Operand) (D:aa Mu) (k:kR ps->ah X),DV ps=true->jg σ ps xs=some D->jh σ ns ps xs D k=some r->∀ (i E c0:Nat) (y:q5 (ez ps)),
  (∀p∈kS i D,p.1∈iy σ ps xs)/\nc c0 E D (iN (ez ps) y)=[]/\∀(Z cn:aa Nat),∀p∈kT Z cn c0 E D (iN (ez ps) y),p.1∈iy σ ps xs
 | [],[],D,k,_,C,h=>by
  injection C with C;subst C;intro i E c0 y;exact⟨(λp hp=>by cases hp),by simp[nc],(λ_ _ p hp=>by simp[kT]at hp)⟩
 | .v b t :: ps,x :: xs,D,k,U,C,h=>by
  have sj:jg σ ps xs=some D:=by
   unfold jg at C;split at C
   next mu Y I O=>exact(vH I).elim
   next Y I O=>rw[O];exact C
   ·cases C
  have sg:DV ps=true:=by simpa [DV]using U
  unfold jh at h;obtain⟨p,O,_⟩:=X8.lD h;cases hb:p.1==b with
  |false=>rw[hb]at O;cases O
  | true=>
   rw[hb,aq]at O;split at O
   ·intro i E c0 y;exact RC ps xs D _ sg sj O i E c0 y
   ·cases O
 | .p t g off :: ps,x :: xs,D,k,U,C,h=>by
  unfold jg at C;split at C
  ·rename_i mu Y I O;injection C with C;subst C;have I:=vH I;cases mu with
   |sl=>exact I.elim
   | aA r' cs T=>
    have I:aG σ x = .aJ r' off/\zC σ (.aA r' cs T):=I;have U:Nat.beq g 0=true/\DV ps=true:=by simpa [DV]using U
    have hg:=cH U.1;subst hg;unfold jh at h;split at h
    ·rename_i z hz;have hz:dec t 0 (T.map (·.1))=some z:=hz;have hw:=lC t 0 _ z hz;have RD:∀ v∈T,v.1.aF=true:=by
      intro v hv;obtain⟨j,hj⟩:=List.mem_iff_getElem?.1 hv;have Lb:(T.map (·.1))[j]?=some v.1:=by rw[ef,hj];rfl
      have wX:j<(enc t 0 z).length:=by rw[<-hw.1];exact(dI.1 Lb).1
      have hk:=hw.2 j _ _ Lb (bK wX);have qd:=pn t 0 z (by omega) j _ (bK wX);cases RD:v.1.aF with
      |true=>rfl
      |false=>rw[hk.Qn RD]at qd;cases qd
     have hn:=YC I.2.2.1 RD;intro i E c0 y;obtain⟨k1,k2,k3⟩:=RC ps xs Y _ U.2 O h (i+1) (E+1+T.length) c0 y.2;have YE:∀ u∈enc t 0 y.1,u.aF=true:=by
      intro u hu;obtain⟨j,hj⟩:=List.mem_iff_getElem?.1 hu;exact pn t 0 y.1 (by omega) j u hj
     have BI:iy σ (.p t 0 off::ps) (x::xs)=r'::iy σ ps xs:=by simp only[iy,I.1]
     rw[BI]
     refine⟨λp hp=>?_,?_,λZ cn p hp=>?_⟩
     ·simp only[kS,YD T 0 hn,List.nil_append]at hp;rcases gp.1 hp with rfl | hp
      ·exact .head _
      ·exact .tail _ (k1 p hp)
     ·show vI (mb c0 (E+1) T) (enc t 0 y.1)++nc c0 (E+1+T.length) Y (iN (ez ps) y.2)=[]
      rw[(RB _ _ YE).1,k2];rfl
     ·have hp:p∈(r',aQ.aA (oL Z cn (mb c0 (E+1) T) cs (enc t 0 y.1))) :: (uk (mb c0 (E+1) T) (enc t 0 y.1)++kT Z cn c0 (E+1+T.length) Y (iN (ez ps) y.2)):=hp;rw[(RB _ _ YE).2,List.nil_append]at hp;rcases gp.1 hp with rfl | hp
      ·exact .head _
      ·exact .tail _ (k3 Z cn p hp)
    ·cases h
  next Y I O=>exact(vH I).elim
  ·cases C
 |.s t g::ps,x::xs,D,k,U,C,h=>by simp[DV]at U
 |[],_::_,D,k,_,C,h=>by cases C
 |_::_,[],D,k,_,C,h=>by cases C
def S.RE{ns:aa Nat}{nr:aa (Nat×aQ)}(v:A)(h:v.c8 ns []=v):(σ.set d v).c8 ns [] nr=(σ.c8 ns [] nr).set d v:=by
 refine S.ext' (λk=>?_) λ_=>rfl
 show (bD σ.t d v k).c8 ns []=bD (λk=>(σ.t k).c8 ns []) d v k;by_cases C:k=d
 ·subst C;rw[bI,bI];exact h
 ·rw[ck _ _ _ C,ck _ _ _ C]
def Lc{n:Nat}{x:aQ}:∀ {l:aa (Nat×aQ)},l.lookup n=some x -> (n,x)∈l
 |[],h=>by cases h
 | q :: l,h=>by
  rw[List.lookup_cons]at h;cases C:n==q.1 with
  |true =>grind
  |false=>rw[C]at h;exact .tail _ (Lc h)
theorem ajj{τ:S}{f:Nat}{args:Array Operand}{iM:Array TypeId}{c:m9}(Z:o.op = .call { callee:=.value (.func f),args,argTypes:=iM })(hc:Φ f=some (.m c))(hfl:K2 c=true)(hp:∀ n,eM o n=true->p n=true/\pb n=true)(zG:∀ n∈iy σ c.ps args.toList,p n=true)
  (h:dy P N Φ σ o some=some τ):Nonempty (rm P N Φ o p pb σ τ):=by
 have cY:∀ σ2,dy P N Φ σ2 o some=nO N σ2 o.dst c args.toList some:=by
  intro σ2;unfold dy;rw[show fD o.op=false by rw[Z];rfl,av];simp only[gY,Z,hc]
 rw[cY]at h;have YF:∀ σ2:S,(∀ x∈o.op.operands,aG σ2 x=aG σ x)->∀ x∈args.toList,aG σ2 x=aG σ x:=by
  intro σ2 E x U;refine E x ?_;rw[Z];simp only[Op.operands,Call.operands];simp only[Array.mem_append]
  first
   |exact .inr (by simpa using U)
   |exact .inl (by simpa using U)
 unfold nO at h;split at h
 ·rename_i O um;cases jO:(once (kS 0 O)&&Nat.ble O.length 40)with
  |false=>rw[jO]at h;cases h
  | true=>
   rw[jO,aq]at h;have ajk:=RC c.ps args.toList O _ hfl um h;obtain⟨x,C,hd⟩:=(KS _ _ _).lD h;split at C
   ·rename_i y hy;obtain⟨k1,k2,k3⟩:=ajk 0 (eP c.ro y.1).len (gW o.dst) y.2;unfold DI at C;rw[k2]at C;generalize fk:DH N O (iN (ez c.ps) y.2) []=ok at C;cases ok with
    |false=>cases C
    | true=>
     rw[aq]at C;generalize yT:(kS 0 O).map (·.1)=ns at C hd;generalize sG:kT ns [] (gW o.dst) (eP c.ro y.1).len O (iN (ez c.ps) y.2)=nr at C;have Ld:Rp p ns nr:=by
      refine⟨λn D=>?_,λn x U=>?_⟩
      ·rw[<-yT]at D;obtain⟨q,hq,e⟩:=List.mem_map.1 (uf.1 D);rw[<-e];exact zG _ (k1 q hq)
      ·rw[<-sG]at U;exact zG _ (k3 ns [] _ (Lc U))
     have oO:∀ σ2:S,(∀ x∈o.op.operands,aG σ2 x=aG σ x)->σ2.m=σ.m->nO N σ2 o.dst c args.toList some=pX N (σ2.c8 ns [] nr) o.dst (eP c.ro y.1) some:=by
      intro σ2 E T;simp only[nO];rw[YB T _ _ (YF σ2 E),um];simp only[jO,aq];rw[yT,K9 T _ _ _ _ _ (YF σ2 E)];refine(hd S _).trans ?_;simp only[hy,DI,k2,fk,aq,sG]
     have YG:∀ (σ:S) t r j,σ.t t = .aJ r j->(σ.c8 ns [] nr).t t = .aJ r j:=by
      intro σ t r j Y;show A.c8 ns [] (σ.t t)=_;rw[Y];rfl
     generalize jM:eP c.ro y.1=res at C oO;cases I:o.dst with
     | none=>
      rw[I]at C;have C:some (σ.c8 ns [] nr)=some τ:=C;injection C with C;exact⟨{ G:=λσ=>σ.c8 ns [] nr,u:=.undef,eq:=by rw[I];exact C.symm,run:=λσ2 E T=>by rw[cY,oO σ2 E T,I];rfl,grow:=λσ=>.c8 ns nr Ld (.refl σ),set:=λσ e v hv=>S.RE v (A.Rs hv Ld.ns),bp:=λ_ σ t r j Y _=>YG σ t r j Y }⟩
     | some d=>
      rw[I]at C;have lI:∀n,1000000000100000+1000*d<=n->eM o n=true:=λn D=>by unfold eM;rw[I,Z];exact jc D
      have rq:∀n,1000000000100000+1000*d<=n->p n=true/\pb n=true:=λn D=>hp n (lI n D)
      cases hN:Nat.blt d N with
      |false=>simp only[pX,hN,av]at C;cases C
      | true=>
       have e:∀σ,pX N σ (some d) res some=m6 σ d res some:=λσ=>by simp only[pX,hN,aq]
       rw[e]at C;obtain⟨ps,u,hG⟩:=Rw C;rw[hG]at C;injection C with C;exact⟨{ G:=λσ=>nN (1000000000100000+1000*d) (σ.c8 ns [] nr) ps,u:=u,eq:=by rw[I];exact C.symm,run:=λσ2 E T=>by rw[cY,oO σ2 E T,I,e,hG];rfl,grow:=λσ=>(gH.c8 ns nr Ld (.refl σ)).trans (GR ps _ _ rq),set:=λσ e v hv=>by rw[S.RE v (A.Rs hv Ld.ns),QM v ps _ _ λn D=>A.BG hv (rq n D).1 (rq n D).2],bp:=λ_ σ t r j Y hr=>(GR (p:=eM o) (pb:=eM o) ps _ _ (λn D=>⟨lI n D,lI n D⟩)).bp (YG σ t r j Y) hr }⟩
   ·cases C
 ·cases h
def Calm(Φ:dX)(ok:Nat->Nat->Bool)(ru mg p pb:Nat->Bool)(σ:S)(o:Oper):Prop:=
 K1 Φ o.op=true\/(∃f args D c,o.op = .call { callee:=.value (.func f),args:=args,argTypes:=D }/\Φ f=some (.m c)/\K2 c=true/\sJ ok σ c.ps args.toList=true/\∀n∈iy σ c.ps args.toList,p n=true)\/
 (∃ty t y,o.op = .store ty (.tmp t) y/\o.dst=none/\ru t=true/\jz p (σ.t t))\/
 ∃x y t C,o.op = .call ⟨.builtin .append,⟨[.tmp x,y]⟩,⟨[t,C]⟩⟩/\mg x=true/\(p9 t=false/\Nat.beq t C=true/\BQ o.dst t (.tmp x)=false)/\rj p pb (σ.t x)
theorem ajl{Z:S}{ty:TypeId}{t:Tmp}{y:Operand}(I:o.op = .store ty (.tmp t) y)(Y:o.dst=none)(C:jz p (σ.t t))(h:dy P N Φ σ o some=some Z):Nonempty (rm P N Φ o p pb σ Z):=by
 have Gn:∀ (x:A) (z:A),(∀ k,x ≠ .ptr k) -> xP x z=false:=by
  intro x z E;unfold xP;split
  ·grind
  ·rfl
 have cY:∀ σ2:S,(∀ k,σ2.t t ≠ .ptr k) -> dy P N Φ σ2 o some=pL P σ2 ty (σ2.t t) (aG σ2 y) some:=by
  intro σ2 Le;unfold dy;rw[show fD o.op=false by rw[I];rfl,av];simp only[gY,I,Y];rw[show xP (aG σ2 (.tmp t)) (aG σ2 y)=false from Gn _ _ Le,av];rfl
 rw[cY σ (λk O=>by rw[O]at C;exact C)]at h;cases E:σ.t t with
 | aJ D j=>
  rw[E]at h C;have hp:p D=true:=C;have key:∃ x,∀ σ2:S,σ2.m=σ.m -> ∀ v,v=aG σ y -> pL P σ2 ty (.aJ D j) v some=some (σ2.root D x):=by
   unfold pL at h;split at h
   ·rename_i n xs hn mY;split at h
    ·rename_i hlen;simp only at h;split at h
     ·rename_i cs fV;split at h
      ·rename_i hj;cases hl:xs.all Lf.live with
       |false=>grind
       | true=>
        refine⟨.aA (splice cs j xs),λσ2 T v hv=>?_⟩
        subst hv;simp only[pL,hn,mY,aW hlen,T,fV,aW hj,hl,aq];simp only[S.root,T]
      ·cases h
     ·cases h
    ·cases h
   ·cases h
  obtain⟨x,lE⟩:=key;have U:=lE σ rfl _ rfl;rw[h]at U;injection U with U
  refine⟨{ G:=λσ=>σ.root D x,u:=.undef,eq:=by rw[Y];exact U,run:=λσ2 sM T=>?_,grow:=λσ=>.rt D x hp (.refl σ),set:=λσ d v hv=>rfl,bp:=λ_ σ t r j ht _=>ht }⟩
  have e1:σ2.t t = .aJ D j:=(sM (.tmp t) (by rw[I];simp[Op.operands])).trans E;rw[cY σ2 (λk O=>by rw[e1]at O;cases O),e1,lE σ2 T _ (sM y (by rw[I];simp[Op.operands])),Y];rfl
 |ptr k=>rw[E]at C;exact C.elim
 | _=>
  rw[E]at h;exfalso;revert h;unfold pL;split
  ·grind
  ·grind
def cr(e:Nat)(x:aQ)(u:A)(σ:S):S:=((σ.drop e).root e x).set e u
def mq(e:Nat)(u:A):Prop:=u = .aJ e 0\/u = .lf (.own [e])
structure jQ (x:aQ):Prop where
 cg:∀K:mX,x.cg K=x
def jQ.drop{x:aQ}(h:jQ x)(n:Nat):x.drop n=x:=h.cg _
def jQ.c8{x:aQ}(h:jQ x)(ns cn:aa Nat):x.c8 ns cn=x:=h.cg _
def jQ.zero(C:aa Value):jQ (.aA (C.map nK)):=⟨λK=>bz aQ.aA (qS.ou (bS.2 λc D=>by
 obtain⟨v,_,rfl⟩:=List.mem_map.1 D;unfold nK;split<;>rfl))⟩
def YH(h:vM o=true):∃ t,∃ e:Nat,o.op = .alloc t/\o.guard=none/\o.dst=some e/\e<20000:=by
 unfold vM at h;rw[aK,aK]at h;obtain⟨⟨C,E⟩,D⟩:=h;split at C
 ·rename_i t I;split at D
  ·simp_all
  ·cases D
 ·cases C
def ajm{ops:Array Oper}{t:TypeId}{e:Nat}(D:o.op = .alloc t)(O:o.guard=none)(T:o.dst=some e){E:S}(h:dn P N Φ ops σ o some=some E):∃ x,jQ x/\E=cr e x (.aJ e 0) σ/\∀ σ2,dn P N Φ ops σ2 o some=some (cr e x (.aJ e 0) σ2):=by
 have I:∀ σ2,dn P N Φ ops σ2 o some=qV P N σ2 e t some:=by
  intro σ2;unfold dn fJ;rw[O];simp only;unfold dy;rw[show fD o.op=false by rw[D];rfl,av];simp only[gY,D,gu,T]
 rw[I]at h;unfold qV at h;split at h
 ·rename_i z U;unfold gO at h;cases C:Nat.blt e N with
  |false=>rw[C]at h;cases h
  | true=>
   rw[C,aq]at h;injection h with h
   refine⟨_,.zero _,h.symm,λσ2=>(I σ2).trans ?_⟩
   unfold qV gO;rw[U,C];rfl
 ·cases h
def GS{σ2:S}:∀ (ps:aa PK) (xs:aa Operand),(∀ x∈xs,aG σ2 x=aG σ x) -> iy σ2 ps xs=iy σ ps xs
 |[],[],_=>rfl
 |[],_::_,_=>rfl
 |.v _ _::_,[],_=>rfl
 |.p _ _ _::_,[],_=>rfl
 |.s _ _::_,[],_=>rfl
 |.v _ _::ps,x::xs,h=>by simp[iy];exact GS ps xs (λy C=>h y (.tail _ C))
 |.s _ _::ps,x::xs,h=>by simp only[iy];exact GS ps xs (λy C=>h y (.tail _ C))
 | .p _ _ _ :: ps,x :: xs,h=>by
  simp only[iy];rw[h x (.head _),GS ps xs (λy C=>h y (.tail _ C))]
def RG{ok:Nat -> Nat -> Bool}{σ2:S}(D:∀ t r j,σ.t t = .aJ r j -> ok t r=true -> σ2.t t = .aJ r j):∀ (ps:aa PK) (xs:aa Operand),sJ ok σ ps xs=true -> sJ ok σ2 ps xs=true/\iy σ2 ps xs=iy σ ps xs
 |[],[],_=>⟨rfl,rfl⟩
 | .v _ _ :: ps,x :: xs,h=>by
  exact RG D ps xs h
 | .p _ _ _ :: ps,x :: xs,h=>by
  cases x with
  | tmp t=>
   simp[sJ,aK]at h;obtain⟨C,I⟩:=h;obtain⟨O,T⟩:=RG D ps xs I;split at C
   ·rename_i U j E;have e:=D t U j E C;refine⟨?_,?_⟩
    ·simp only[sJ,aK];exact⟨by rw[e];exact C,O⟩
    ·simp only[iy,aG,e,E,T]
   ·cases C
  |const v=>simp[sJ]at h
  |global g=>simp[sJ]at h
  |func f=>simp[sJ]at h
def Calm.iQ{ok:Nat->Nat->Bool}{ru mg:Nat->Bool}{σ2:S}(h:Calm Φ ok ru mg p pb σ o)(O:∀ t r j,σ.t t = .aJ r j->ok t r=true->σ2.t t = .aJ r j)(T:∀ t,ru t=true->jz p (σ.t t)->jz p (σ2.t t))(U:∀ t,mg t=true->rj p pb (σ.t t)->rj p pb (σ2.t t)):Calm Φ ok ru mg p pb σ2 o:=by
 rcases h with h|⟨f,args,Y,c,E,C,D,I,Z⟩|⟨ty,t,y,E,C,D,I⟩|⟨x,y,t,t',E,C,hn,D⟩
 ·exact .inl h
 ·obtain⟨k1,k2⟩:=RG O _ _ I;exact .inr (.inl ⟨f,args,Y,c,E,C,D,k1,by rw[k2];exact Z⟩)
 ·exact .inr (.inr (.inl ⟨ty,t,y,E,C,D,T t D I⟩))
 ·exact .inr (.inr (.inr ⟨x,y,t,t',E,C,hn,U x C D⟩))
def Lg{ops:Array Oper}(U:nQ o=true)(Y:fJ σ ops o=some true){τ:S}(h:dn P N Φ ops σ o some=some τ):∃ (e:Nat) (x:aQ) (u:A),o.dst=some e/\e<20000/\jQ x/\mq e u/\τ=cr e x u σ/\
  ∀σ2,fJ σ2 ops o=some true->(∀y∈o.op.operands,aG σ2 y=aG σ y)->dn P N Φ ops σ2 o some=some (cr e x u σ2):=by
 have Z:fD o.op=false->∀ σ2,fJ σ2 ops o=some true->dn P N Φ ops σ2 o some=gY P N Φ σ2 o some:=by
  intro hv σ2 I;unfold dn;rw[I];simp only;unfold dy;rw[hv,av]
 have YI:∀y:V,jQ (.sl y):=λy=>⟨λ_=>rfl⟩
 unfold nQ at U;rw[aK]at U;obtain⟨GU,qe⟩:=U;split at qe
 ·rename_i e D;have de:e<20000:=cu qe;split at GU
  ·rename_i t C;have E:=Z (by rw[C];rfl);rw[E σ Y]at h;simp only[gY,C,gu,D]at h;unfold qV at h;split at h
   ·rename_i z hz;unfold gO at h;cases hN:Nat.blt e N with
    |false=>rw[hN]at h;cases h
    | true=>
     rw[hN,aq]at h;injection h with h
     refine⟨e,.aA (z.cells.toList.map nK),.aJ e 0,D,de,.zero _,.inl rfl,h.symm,λσ2 I _=>(E σ2 I).trans ?_⟩
     simp only[gY,C,gu,D];unfold qV gO;rw[hz,hN];rfl
   ·cases h
  ·rename_i t len parts C;have E:=Z (by rw[C];rfl);rw[E σ Y]at h;have hn:p9 t=false:=by simpa using GU
   simp only[gY,C,gu,D,hn,av]at h;obtain⟨y,O,h2⟩:=XU h;injection O with O
   refine⟨e,.sl y,.lf (.own [e]),D,de,YI y,.inr rfl,O.symm,λσ2 I T=>(E σ2 I).trans ?_⟩
   simp only[gY,C,gu,D,hn,av]
   refine(h2 σ2 λq hq=>T _ ?_).at_ _
   rw[C];simp only[Op.operands];exact List.mem_toArray.2 (List.mem_map_of_mem (f:=(·.2)) hq)
  ·rename_i t l c C;have E:=Z (by rw[C];rfl);rw[E σ Y]at h;simp only[gY,C,gu,D]at h;obtain⟨y,O,h2⟩:=XT h;injection O with O
   refine⟨e,.sl y,.lf (.own [e]),D,de,YI y,.inr rfl,O.symm,λσ2 I T=>(E σ2 I).trans ?_⟩
   simp only[gY,C,gu,D];rw[T l (by rw[C];simp[Op.operands]),T c (by rw[C];simp[Op.operands])];exact(h2 σ2).at_ _
  ·cases GU
 ·cases qe
def Lh{d:Nat}{t:TypeId}{y z:A}{U:S}(h:tX P N σ d t y z some=some U):∃ (r:Nat) (v:V),U=((σ.drop r).root r (.sl v)).set d (.lf (.own [r]))/\(r=d\/y = .lf (.own [r]))/\
  ∀σ2:S,(∀(k:V->ah S),r9 σ2 z k=r9 σ z k)->(∀r v,y = .lf (.own [r])->σ.m r=some (.sl v)->σ2.m r=some (.sl v))->tX P N σ2 d t y z some=some (((σ2.drop r).root r (.sl v)).set d (.lf (.own [r]))):=by
 unfold tX at h;split at h
 ·rename_i e tc Y;cases I:(Nat.beq (full tc) 0&&(zeroOf P e).any (λz=>Nat.beq z.cells.size (aC tc)))with
  |false=>rw[I]at h;cases h
  | true=>
   rw[I,aq]at h;obtain⟨yv,C,Z⟩:=QH.lD h;clear h;split at C
   ·cases C
   ·rename_i l2 ko;split at C
    ·cases D:bV l2.length with
     |false=>rw[D]at C;cases C
     | true=>
      rw[D,aq]at C;cases O:Nat.blt d N with
      |false=>unfold gO at C;rw[O]at C;cases C
      | true=>
       have E:=C;unfold gO at E;rw[O,aq]at E;injection E with E
       refine⟨d,.sl tc 2 false l2,E.symm,.inl rfl,λσ2 T qe=>?_⟩
       simp only[tX,Y,I,aq];refine(T _).trans ((Z.at_ _).trans ?_);simp only[ko,D,aq];unfold gO;rw[O,aq]
    ·rename_i rr;split at C
     ·rename_i t' o q l hm;split at C
      ·rename_i mZ;cases D:(Nat.blt d N&&(Nat.blt rr N || Nat.ble 60000 rr)&&bV (l.length+l2.length))with
       |false=>rw[D]at C;cases C
       | true=>
        rw[D,aq]at C;injection C with C
        refine⟨rr,_,C.symm,.inr rfl,λσ2 T qe=>?_⟩
        simp only[tX,Y,I,aq];refine(T _).trans ((Z.at_ _).trans ?_);simp only[ko,qe rr _ rfl hm,aO mZ,D,aq]
      ·cases C
     ·cases C
    ·cases C
 ·cases h
def RH(h:isApp o=true):∃ x y t C,o.op = .call ⟨.builtin .append,⟨[x,y]⟩,⟨[t,C]⟩⟩/\p9 t=false/\Nat.beq t C=true/\BQ o.dst t x=false:=by
 unfold isApp at h
 grind
def GV{x y:Operand}{t D:TypeId}(E:o.op = .call ⟨.builtin .append,⟨[x,y]⟩,⟨[t,D]⟩⟩)(I:p9 t=false)(O:Nat.beq t D=true)(C:BQ o.dst t x=false)(σ:S):dy P N Φ σ o some=gu o λd=>tX P N σ d t (aG σ x) (aG σ y) some:=by
 unfold dy;rw[show fD o.op=false by rw[E];rfl];simp[gY,E,I,O,aq];unfold gu;cases T:o.dst with
 |none=>rfl
 | some d=>
  rw[T]at C;have C:K0 t d x=false:=C;simp_all
theorem ajn{U:S}{x:Tmp}{y:Operand}{t Y:TypeId}(C:o.op = .call ⟨.builtin .append,⟨[.tmp x,y]⟩,⟨[t,Y]⟩⟩)(E:p9 t=false)(I:Nat.beq t Y=true)(O:BQ o.dst t (.tmp x)=false)(hp:∀ n,eM o n=true->p n=true/\pb n=true)(jL:rj p pb (σ.t x))(h:dy P N Φ σ o some=some U):Nonempty (rm P N Φ o p pb σ U):=by
 rw[GV C E I O]at h;obtain⟨d,T,h⟩:=jy h;obtain⟨r,v,gX,hr,oO⟩:=Lh h;have D:p r=true/\pb r=true:=by
  rcases hr with hr|hr
  ·rw[hr];exact hp d (by unfold eM;rw[T,C];exact Nat.beq_refl d)
  ·exact jL r hr
 refine⟨{ G:=λσ=>(σ.drop r).root r (.sl v),u:=.lf (.own [r]),eq:=by rw[T];exact gX,run:=λσ2 Z hm=>?_,grow:=λσ=>.root r _ D.1 D.2 (.refl σ),set:=λσ e v' hv=>(by rw[S.drop_set r (A.BG hv D.1 D.2)];rfl),bp:=λha=>(by rw[isApp,C]at ha;simp[E,I,O]at ha) }⟩
 rw[GV C E I O];unfold gu;rw[T];simp only;rw[Z (.tmp x) (by rw[C];simp[Op.operands,Call.operands]),Z y (by rw[C];simp[Op.operands,Call.operands]),oO σ2 (λk=>ai1 hm _ k) (λr' v' _ h'=>by rw[hm];exact h')];rfl
theorem ajo[Inhabited Wd](dL:fC P Φ){ok:Nat->Nat->Bool}{ru mg mh:Nat->Bool}(hX:∀ x,mh x=true->jz p (σ.t x)){ops:Array Oper}{oi D:Oper}{v:A}{τ:S}(hF:mm P ops oi p pb v σ)(ha:oi.apart ops D=true)(O:Calm Φ ok ru mg p pb σ D)(hp:∀ n,eM D n=true->p n=true/\pb n=true)
  (h:dn P N Φ ops (fX σ oi.dst v) D some=some τ):∃ U,dn P N Φ ops σ D some=some U/\τ=fX U oi.dst v/\mm P ops oi p pb v U/\(isApp D=false->∀ t r j,σ.t t = .aJ r j->D.dst≠some t->eM D r=false->U.t t = .aJ r j)/\
   (∀t,jz p (σ.t t)->(D.dst≠some t\/(vM D=true/\p t=true)\/∃s x f,D.op = .fieldAddr s (.tmp x) f/\mh x=true)->jz p (U.t t))/\
   ∀t,rj p pb (σ.t t)->(D.dst≠some t\/(nQ D=true/\p t=true/\pb t=true)\/(isApp D=true\/zO Φ D=true))->rj p pb (U.t t):=by
 obtain⟨a1,a2,a3⟩:=Oper.apart_spec ha;have DW:∀ (σ:S) (u:A) t,D.dst≠some t->(fX σ D.dst u).t t=σ.t t:=by
  intro σ u t O;cases T:D.dst with
  |none=>rfl
  |some d=>exact ck _ _ _ (by rintro rfl;exact O T)
 have DX:∀ U,dn P N Φ ops σ D some=some U->∀ t,vM D=true->D.dst=some t->p t=true->jz p (U.t t):=by
  intro U C t DX T Q3;obtain⟨ty,e,E,Y,h3,_⟩:=YH DX;rw[h3]at T;injection T with T;subst T;obtain⟨x,_,e1,_⟩:=ajm E Y h3 C;rw[e1];show jz p (bD _ e (.aJ e 0) e);rw[bI];exact Q3
 have fin:∀ U,dn P N Φ ops σ D some=some U->(∀ t,D.dst≠some t->jz p (σ.t t)->jz p (U.t t))->∀ t,jz p (σ.t t)->(D.dst≠some t\/(vM D=true/\p t=true)\/∃ s x f,D.op = .fieldAddr s (.tmp x) f/\mh x=true)->jz p (U.t t):=by
  intro U C hk t O RI;rcases RI with cm|⟨E,Y⟩|⟨s,x,f,E,Y⟩
  ·exact hk t cm O
  ·by_cases T:D.dst=some t
   ·exact DX U C t E T Y
   ·exact hk t T O
  ·by_cases T:D.dst=some t
   ·unfold dn at C;split at C
    ·unfold dy at C;rw[show fD D.op=true by rw[E];rfl,aq]at C;rw[E]at C;simp only[me]at C;have hx:=hX x Y;have hx:jz p (aG σ (.tmp x)):=hx;generalize aG σ (.tmp x)=z at hx C;have key:∀ v,gM N σ D.dst v some=some U->jz p v->jz p (U.t t):=by
      intro v hv hA;obtain⟨I,_⟩:=sL hv;injection I with I;rw[<-I,T];show jz p (bD σ.t t v t);rw[bI];exact hA
     unfold Dn at C;split at C
     ·cases C
     ·split at C
      ·split at C
       ·exact key _ C hx
       ·exact key _ C trivial
       ·exact hx.elim
       ·cases C
      ·cases C
    ·obtain⟨I,_⟩:=sL C;injection I with I;rw[<-I,T];show jz p (bD σ.t t .skip t);rw[bI];trivial
    ·cases C
   ·exact hk t T O
 have ajp:=O;have YJ:∀ U,dn P N Φ ops σ D some=some U->(∀ t,D.dst≠some t->rj p pb (σ.t t)->rj p pb (U.t t))->∀ t,rj p pb (σ.t t)->(D.dst≠some t\/(nQ D=true/\p t=true/\pb t=true)\/(isApp D=true\/zO Φ D=true))->rj p pb (U.t t):=by
  intro U C hk t O RI;rcases RI with cm|⟨E,Y⟩|ajq|BV
  ·exact hk t cm O
  ·by_cases T:D.dst=some t
   ·cases hw:fJ σ ops D with
    |none=>unfold dn at C;rw[hw]at C;cases C
    | some b=>
     cases b with
     | true=>
      obtain⟨e,x,u,I,g2,g3,g4,g5,_⟩:=Lg E hw C;rw[T]at I;injection I with I;subst I;rw[g5];intro r hr;have hr:bD _ t u t = .lf (.own [r]):=hr;rw[bI]at hr;rcases g4 with g4|g4
      ·rw[g4]at hr;cases hr
      ·rw[g4]at hr;injection hr with hr;injection hr with hr;injection hr with hr;subst hr;exact Y
     | false=>
      unfold dn at C;rw[hw]at C;obtain⟨I,_⟩:=sL C;injection I with I;rw[<-I,T];intro r hr;have hr:bD σ.t t .skip t = .lf (.own [r]):=hr;rw[bI]at hr;cases hr
   ·exact hk t T O
  ·by_cases T:D.dst=some t
   ·obtain⟨x,y,t1,t2,I,g2,g3,g4⟩:=RH ajq;have hT:rj p pb (aG σ x):=by
     rcases ajp with q|⟨f,args,iM,c,q1,_⟩|⟨ty,tt,yy,q1,_⟩|⟨x',y',t1',t2',q1,q2,q3,q4⟩
     ·rw[I]at q;cases q
     ·rw[I]at q1;cases q1
     ·rw[I]at q1;cases q1
     ·rw[I]at q1;injection q1 with q1;injection q1 with _ q1 _;injection q1 with q1;injection q1 with q1 _;subst q1;exact q4
    cases hw:fJ σ ops D with
    |none=>unfold dn at C;rw[hw]at C;cases C
    | some b=>
     cases b with
     | true=>
      unfold dn at C;rw[hw]at C;have C:dy P N Φ σ D some=some U:=C;rw[GV I g2 g3 g4]at C;obtain⟨d,uw,C⟩:=jy C;rw[T]at uw;injection uw with uw;subst uw;obtain⟨r,v,gX,hr,_⟩:=Lh C;rw[gX];intro r' fo;have fo:bD ((σ.drop r).root r (.sl v)).t t (.lf (.own [r])) t = .lf (.own [r']):=fo;rw[bI]at fo;injection fo with fo;injection fo with fo;injection fo with fo;subst fo;rcases hr with hr|hr
      ·rw[hr];exact hp t (by unfold eM;rw[T,I];exact Nat.beq_refl t)
      ·exact hT r hr
     | false=>
      unfold dn at C;rw[hw]at C;obtain⟨I,_⟩:=sL C;injection I with I;rw[<-I,T];intro r hr;have hr:bD σ.t t .skip t = .lf (.own [r]):=hr;rw[bI]at hr;cases hr
   ·exact hk t T O
  ·by_cases T:D.dst=some t
   ·cases hw:fJ σ ops D with
    |none=>unfold dn at C;rw[hw]at C;cases C
    | some b=>
     cases b with
     | true=>
      unfold dn at C;rw[hw]at C;have C:dy P N Φ σ D some=some U:=C;unfold zO at BV;split at BV
      ·rename_i f args iM ho;split at BV
       ·rename_i c hc;unfold dy at C;rw[show fD D.op=false by rw[ho];rfl,av]at C;simp only[gY,ho,hc]at C;obtain⟨d,uw,C⟩:=jy C;rw[T]at uw;injection uw with uw;subst uw;obtain⟨res,sk,E,Y,_⟩:=KM (GQ dL hc) DO C;injection Y with Y;subst Y;have lI:∀ n,1000000000100000+1000*t<=n->p n=true/\pb n=true:=λn hn=>hp n (by unfold eM;rw[T,ho];exact jc hn)
        intro r hr;unfold m6 at E;cases res with
        | one q=>
         simp only at E;split at E
         ·rename_i y Z;injection E with E;rw[<-E]at hr;have hr:bD _ t y t=A.lf (Lf.own [r]):=hr;rw[bI]at hr;subst hr;obtain⟨b,vs⟩:=q;cases b with
          |true=>cases Z
          | false=>
           match vs,Z with
           | [v],Z=>
            have Z:some (A.lf (bif v.aF then Lf.v v else Lf.own [1000000000100000+1000*t]))=some (A.lf (Lf.own [r])):=Z;injection Z with Z;injection Z with Z;cases hf:v.aF with
            |true=>rw[hf]at Z;cases Z
            | false=>
             rw[hf]at Z;injection Z with Z;injection Z with Z;subst Z;exact lI _ (dH _)
         ·cases E
        | eU ps=>
         injection E with E;rw[<-E]at hr;have hr:bD _ t _ t=A.lf (Lf.own [r]):=hr;rw[bI]at hr;cases hr
       ·cases BV
      ·cases BV
     | false=>
      unfold dn at C;rw[hw]at C;obtain⟨I,_⟩:=sL C;injection I with I;rw[<-I,T];intro r hr;have hr:bD σ.t t .skip t = .lf (.own [r]):=hr;rw[bI]at hr;cases hr
   ·exact hk t T O
 unfold dn at h;rw[ajf a1]at h;split at h
 ·rename_i hw;have ajr:Nonempty (rm P N Φ D p pb (fX σ oi.dst v) τ):=by
   rcases O with O|⟨f,args,iM,c,E,Y,h3,h4,h5⟩|⟨ty,t,y,E,Y,h3,h4⟩|⟨x,y,t1,t2,E,Y,hn,h3⟩
   ·exact ajd dL O hp h
   ·refine ajj E Y h3 hp ?_ h;rw[GS]
    ·exact h5
    ·intro x hx;refine K8 a1 v ?_;rw[E];simp only[Op.operands,Call.operands];simp only[Array.mem_append]
     first
      |exact .inr (by simpa using hx)
      |exact .inl (by simpa using hx)
   ·refine ajl E Y ?_ h;have e1:aG (fX σ oi.dst v) (.tmp t)=aG σ (.tmp t):=K8 a1 v (by rw[E];simp[Op.operands]);have e1:(fX σ oi.dst v).t t=σ.t t:=e1;rw[e1];exact h4
   ·refine ajn E hn.1 hn.2.1 hn.2.2 hp ?_ h;have e1:aG (fX σ oi.dst v) (.tmp x)=aG σ (.tmp x):=K8 a1 v (by rw[E];simp[Op.operands,Call.operands]);have e1:(fX σ oi.dst v).t x=σ.t x:=e1;rw[e1];exact h3
  obtain⟨G,u,e,hr,hg,hs,RJ⟩:=ajr;have rz:dn P N Φ ops σ D some=some (fX (G σ) D.dst u):=by
   unfold dn;rw[hw];exact hr σ (λx hx=>(K8 a1 v hx).symm) (aje _ _).symm
  refine⟨fX (G σ) D.dst u,rz,?_,(hF.grow (hg σ)).put a3,λvL t r j O cm lI=>?_,fin _ rz λt cm O=>?_,YJ _ rz λt cm O=>?_⟩
  ·refine e.trans ?_;have:∀ dst,G (fX σ dst v)=fX (G σ) dst v:=by
    intro dst;cases dst with
    |none=>rfl
    |some d=>exact hs σ d v hF.nr
   rw[this];exact Yz _ _ a2
  ·rw[DW _ _ t cm];exact RJ vL σ t r j O lI
  ·rw[DW _ _ t cm];exact(hg σ).st O
  ·rw[DW _ _ t cm];exact(hg σ).tg O
 ·rename_i hw;obtain⟨E,Y⟩:=sL h;injection E with E;have rz:dn P N Φ ops σ D some=some (fX σ D.dst .skip):=by
   unfold dn;rw[hw];exact(Y σ).at_ _
  exact⟨fX σ D.dst .skip,rz,by rw[<-E];exact Yz _ _ a2,hF.put a3,λ_ t r j O cm _=>(by rw[DW _ _ t cm];exact O),fin _ rz λt cm O=>(by rw[DW _ _ t cm];exact O),YJ _ rz λt cm O=>(by rw[DW _ _ t cm];exact O)⟩
 ·cases h
def Any(P:Program)(N:Nat)(Φ:dX)(ops:Array Oper)(K:S->Prop):Nat->Nat->S->Prop
 |0,L,σ=>(∀j,lJ ops L j=false)/\K σ
 |f+1,L,σ=>((∀j,lJ ops L j=false)->K σ)/\∀j,lJ ops L j=true->∃o C,ops[j]?=some o/\dn P N Φ ops σ o some=some C/\Any P N Φ ops K f (L |||2 ^ j) C
def zR(L i j:Nat):(L ||| 2 ^ i).testBit j=(L.testBit j || decide (i=j)):=by
 rw[Nat.testBit_or,Nat.testBit_two_pow]
def GW{ops:Array Oper}{L j:Nat}:lJ ops L j=true ↔ L.testBit j=false /\ ∃ o,ops[j]?=some o /\ ∀ e∈o.after,Region.binds .any e=true -> L.testBit e.on=true:=by
 unfold lJ
 grind
def RK{ops:Array Oper}{L i j:Nat}(h:lJ ops L j=true)(C:j≠i):lJ ops (L ||| 2 ^ i) j=true:=by
 rw[GW]at h ⊢
 grind
def mm.step{ops:Array Oper}{C:Oper}{v:A}(I:mm P ops C p pb v σ)(O:∀ σ:S,gM N σ C.dst v some=some (fX σ C.dst v)):dn P N Φ ops σ C some=some (fX σ C.dst v):=by
 unfold dn;rcases I with ⟨D,E,T,_,_,_⟩|⟨D,E⟩
 ·rw[D];unfold dy;rw[E,aq];exact(T.at_ _).trans (O σ)
 ·simp_all
def RL{K:S -> Prop}{ops:Array Oper}{i W:Nat}{U:Oper}(hi:ops[i]?=some U)(hW:∀ j C,ops[j]?=some C -> W.testBit j=true -> ∃ e∈C.after,Region.binds .any e=true/\(e.on=i \/ W.testBit e.on=true))(E:S -> S)(I:Nat -> S -> Prop)
  (r1:∀L σ,I L σ -> dn P N Φ ops σ U some=some (E σ))
  (r2:∀L σ j C Y,I L σ -> ops[j]?=some C -> j≠i -> L.testBit j=false -> W.testBit j=false -> dn P N Φ ops (E σ) C some=some Y -> ∃O,dn P N Φ ops σ C some=some O/\Y=E O/\I (L |||2 ^ j) O):
  ∀(f L:Nat) (σ:S),(∀j,W.testBit j=true -> L.testBit j=false) -> lJ ops L i=true -> I L σ -> Any P N Φ ops K f (L |||2 ^ i) (E σ) -> Any P N Φ ops K (f+1) L σ:=by
 intro f
 induction f with
 | zero=>
  intro L σ vN T Z H
  refine⟨λh=>absurd (h i) (by rw[T];simp),λj hj=>?_⟩
  by_cases D:j=i
  ·subst D;exact⟨U,_,hi,r1 L σ Z,H⟩
  ·have:=RK hj D;rw[H.1]at this;cases this
 | succ f ih=>
  intro L σ vN T Z H
  refine⟨λh=>absurd (h i) (by rw[T];simp),λj hj=>?_⟩
  by_cases D:j=i
  ·subst D;exact⟨U,_,hi,r1 L σ Z,H⟩
  ·obtain⟨C,Y,xT,gX,H'⟩:=H.2 j (RK hj D);obtain⟨DY,oj',Li,oO⟩:=GW.1 hj;rw[xT]at Li;injection Li with Li;subst Li;have zS:W.testBit j=false:=by
    cases zS:W.testBit j with
    |false=>rfl
    | true=>
     obtain⟨e,he,hb,jO⟩:=hW j C xT zS;have h1:=oO e he hb;rcases jO with jO|jO
     ·rw[jO,(GW.1 T).1]at h1;cases h1
     ·rw[vN _ jO]at h1;cases h1
   obtain⟨O,hs,zU,hI'⟩:=r2 L σ j C Y Z xT D DY zS gX
   refine⟨C,O,xT,hs,ih (L |||2 ^ j) O (λk hk=>?_) (RK T (Ne.symm D)) hI' ?_⟩
   ·grind
   ·rw[<- zU]
    grind
theorem ajs[Inhabited Wd](dL:fC P Φ){ok:Nat -> Nat -> Bool}{ru mg mh:Nat -> Bool}{K:S -> Prop}{ops:Array Oper}{i W:Nat}{I:Oper}{v:A}(hi:ops[i]?=some I)(hN:∀ σ:S,gM N σ I.dst v some=some (fX σ I.dst v))
  (hW:∀j C,ops[j]?=some C -> W.testBit j=true -> ∃e∈C.after,Region.binds .any e=true/\(e.on=i \/ W.testBit e.on=true)) (f L:Nat) (σ:S)
  (fk:∀t r,ok t r=true -> ∀j C,ops[j]?=some C -> j≠i -> L.testBit j=false -> W.testBit j=false -> C.dst≠some t/\eM C r=false/\isApp C=false)
  (Lj:∀x,mh x=true -> ∀j C,ops[j]?=some C -> j≠i -> L.testBit j=false -> W.testBit j=false -> C.dst≠some x) (hX:∀x,mh x=true -> jz p (σ.t x))
  (Lk:∀t,ru t=true -> ∀j C,ops[j]?=some C -> j≠i -> L.testBit j=false -> W.testBit j=false -> C.dst≠some t \/ (vM C=true/\p t=true) \/ ∃s x f,C.op = .fieldAddr s (.tmp x) f/\mh x=true)
  (Ll:∀t,mg t=true -> ∀j C,ops[j]?=some C -> j≠i -> L.testBit j=false -> W.testBit j=false -> C.dst≠some t \/ (nQ C=true/\p t=true/\pb t=true) \/ (isApp C=true \/ zO Φ C=true))
  (BW:∀j C,ops[j]?=some C -> j≠i -> L.testBit j=false -> W.testBit j=false -> I.apart ops C=true/\Calm Φ ok ru mg p pb σ C /\ ∀n,eM C n=true -> p n=true/\pb n=true)
  (vN:∀j,W.testBit j=true -> L.testBit j=false) (hr:lJ ops L i=true) (hF:mm P ops I p pb v σ) (H:Any P N Φ ops K f (L |||2 ^ i) (fX σ I.dst v)):Any P N Φ ops K (f+1) L σ:=by
 refine RL hi hW (λσ=>fX σ I.dst v)
  (λL σ=>mm P ops I p pb v σ/\(∀ t r,ok t r=true -> ∀ j C,ops[j]?=some C -> j≠i -> L.testBit j=false -> W.testBit j=false -> C.dst≠some t/\eM C r=false/\isApp C=false) /\
   ((∀x,mh x=true -> ∀j C,ops[j]?=some C -> j≠i -> L.testBit j=false -> W.testBit j=false -> C.dst≠some x) /\ ∀x,mh x=true -> jz p (σ.t x)) /\
   (∀t,ru t=true -> ∀j C,ops[j]?=some C -> j≠i -> L.testBit j=false -> W.testBit j=false -> C.dst≠some t \/ (vM C=true/\p t=true) \/ ∃s x f,C.op = .fieldAddr s (.tmp x) f/\mh x=true) /\
   (∀t,mg t=true -> ∀j C,ops[j]?=some C -> j≠i -> L.testBit j=false -> W.testBit j=false -> C.dst≠some t \/ (nQ C=true/\p t=true/\pb t=true) \/ (isApp C=true \/ zO Φ C=true)) /\
   ∀j C,ops[j]?=some C -> j≠i -> L.testBit j=false -> W.testBit j=false -> I.apart ops C=true/\Calm Φ ok ru mg p pb σ C /\ ∀n,eM C n=true -> p n=true/\pb n=true)
  (λL σ h=>h.1.step hN) (λL σ j C τ h xT GX DY zS gX=>?_) f L σ vN hr ⟨hF,fk,⟨Lj,hX⟩,Lk,Ll,BW⟩ H
 obtain⟨hF,fk,⟨Lj,hX⟩,Lk,Ll,BW⟩:=h;obtain⟨c1,c2,c3⟩:=BW j C xT GX DY zS;obtain⟨cB,hs,zU,hF',QX,jL,hta⟩:=ajo (mh:=mh) dL hX hF c1 c2 c3 gX;have Z:∀ k,(L ||| 2 ^ j).testBit k=false -> L.testBit k=false:=by
  intro k D;rw[zR,mO]at D;exact D.1
 refine⟨cB,hs,zU,hF',λt r E k O D T U Y=>fk t r E k O D T (Z k U) Y,⟨λx hx k O D T U Y=>Lj x hx k O D T (Z k U) Y,λx hx=>jL x (hX x hx) (.inl (Lj x hx j C xT GX DY zS))⟩,λt E k O D T U Y=>Lk t E k O D T (Z k U) Y,λt E k O D T U Y=>Ll t E k O D T (Z k U) Y,λk O D T U Y=>?_⟩
 obtain⟨d1,d2,d3⟩:=BW k O D T (Z k U) Y
 refine⟨d1,d2.iQ (λt r j' E h=>?_) (λt h E=>jL t E (Lk t h j C xT GX DY zS)) (λt h E=>hta t E (Ll t h j C xT GX DY zS)),d3⟩
 grind
def A.RM(y:A)(a b:Nat):(y.drop a).drop b=(y.drop b).drop a:=A.ov y _ _
def aQ.RM(y:aQ)(a b:Nat):(y.drop a).drop b=(y.drop b).drop a:=aQ.ov y _ _
def mq.drop(h:mq e u){n:Nat}(C:e≠n):u.drop n=u:=by
 rcases h with rfl|rfl
 ·simp only[A.drop,ow C,av,A.cg,wV]
 ·have:cD n [e]=false:=by simp[cD,C]
  simp only[A.drop,Lf.drop,this,av,A.cg,wV,Lf.cg]
def mq.c8(h:mq e u){ns cn:aa Nat}(D:cP e ns=false)(C:cP e cn=false):u.c8 ns cn=u:=by
 rcases h with rfl|rfl
 ·simp only[A.c8,C,av,A.cg,vE]
 ·have E:fI [e] ns=false:=D;have I:fI [e] cn=false:=C;simp only[A.c8,Lf.c8,E,I,A.cg,vE,Lf.cg];rfl
def rA(k:Nat):(cr e x u σ).t k=if k=e then u else (σ.t k).drop e:=by
 by_cases C:k=e
 ·subst C;rw[aW rfl];exact bI _ _ _
 ·rw[aX C];exact ck _ _ _ C
def oP(n:Nat):(cr e x u σ).m n=if n=e then some x else (σ.m n).map (aQ.drop e):=by
 show bD (λr=>bif Nat.beq r e then none else (σ.m r).map (aQ.drop e)) e (some x) n=_;by_cases C:n=e
 ·subst C;rw[aW rfl,bI]
 ·rw[aX C,ck _ _ _ C,ow C];rfl
def RN(c:Nat)(y:aQ)(k:Nat):((σ.drop c).root c y).t k=(σ.t k).drop c:=rfl
def YK(c:Nat)(y:aQ)(n:Nat):((σ.drop c).root c y).m n=if n=c then some y else (σ.m n).map (aQ.drop c):=by
 show bD (λr=>bif Nat.beq r c then none else (σ.m r).map (aQ.drop c)) c (some y) n=_;by_cases C:n=c
 ·subst C;rw[aW rfl,bI]
 ·rw[aX C,ck _ _ _ C,ow C];rfl
def YL{c:Nat}(z:V)(I:jQ x)(O:mq e u)(T:e≠c):((cr e x u σ).drop c).root c (.sl z)=cr e x u ((σ.drop c).root c (.sl z)):=by
 refine S.ext' (λk=>?_) λn=>?_
 ·rw[RN,rA,rA,RN];by_cases C:k=e
  ·rw[aW C,aW C];exact O.drop T
  ·rw[aX C,aX C];exact A.ov _ _ _
 ·rw[YK,oP,oP,YK];by_cases D:n=c
  ·rw[aW D,aX,aW D];rfl
  ·rw[aX D];by_cases E:n=e
   ·rw[aW E,aW E];simp only[Option.map_some,I.drop]
   ·rw[aX E,aX E,aX D,Option.map_map,Option.map_map];congr 1;funext y;exact aQ.ov y _ _
def Ln(C:jQ x)(D:mq e u):∀ (xs:aa V) (c:Nat) (σ:S),e<c -> l8 c (cr e x u σ) xs=cr e x u (l8 c σ xs)
 |[],c,σ,_=>rfl
 | y :: xs,c,σ,h=>by
  simp[l8];cases E:y.aF with
  |true=>exact Ln C D xs _ σ (by omega)
  | false=>
   rw[YL y C D (by omega)];exact Ln C D xs _ _ (by omega)
def YM(C:jQ x)(D:mq e u):∀ (ps:aa Pt) (c:Nat) (σ:S),e<c -> nN c (cr e x u σ) ps=cr e x u (nN c σ ps)
 |[],c,σ,_=>rfl
 | q :: ps,c,σ,h=>by
  simp[nN];rw[Ln C D _ _ _ h];exact YM C D ps _ _ (by omega)
def Lo{v:A}(D:d≠e)(E:v.drop e=v):(cr e x u σ).set d v=cr e x u (σ.set d v):=by
 refine S.ext' (λk=>?_) λn=>?_
 ·show bD (cr e x u σ).t d v k=_;rw[rA];show _=if k=e then u else (bD σ.t d v k).drop e;by_cases C:k=d
  ·subst C;rw[bI,aX D,bI,E]
  ·rw[ck _ _ _ C,ck _ _ _ C,rA]
 ·rfl
def ajt{v:A}{C:ah Tmp}(D:C≠some e)(E:v.drop e=v):fX (cr e x u σ) C v=cr e x u (fX σ C v):=by
 cases C with
 |none=>rfl
 |some d=>exact Lo (by rintro rfl;exact D rfl) E
def aju{ns cn:aa Nat}{nr:aa (Nat×aQ)}(U:jQ x)(Y:mq e u)(I:cP e ns=false)(O:cP e cn=false)(T:∀ q∈nr,q.1≠e/\q.2.drop e=q.2):(cr e x u σ).c8 ns cn nr=cr e x u (σ.c8 ns cn nr):=by
 have D:nr.lookup e=none:=by
  cases D:nr.lookup e with
  |none=>rfl
  |some y=>exact absurd rfl (T _ (Lc D)).1
 refine S.ext' (λk=>?_) λn=>?_
 ·show ((cr e x u σ).t k).c8 ns cn=_;rw[rA,rA];by_cases C:k=e
  ·rw[aW C,aW C];exact Y.c8 I O
  ·rw[aX C,aX C];exact A.ov _ _ _
 ·rw[oP];show (match nr.lookup n with | some x=>some x | none=>bif cP n ns || cP n cn then none else ((cr e x u σ).m n).map (aQ.c8 ns cn))=if n=e then some x else (match nr.lookup n with | some x=>some x | none=>bif cP n ns || cP n cn then none else (σ.m n).map (aQ.c8 ns cn)).map (aQ.drop e);by_cases E:n=e
  ·subst E;rw[aW rfl,D,I,O];simp only[Bool.or_false,av,oP,if_true,Option.map_some,U.c8]
  ·rw[aX E];cases Z:nr.lookup n with
   |some y=>simp only[Option.map_some];rw[(T _ (Lc Z)).2]
   | none=>
    simp only;cases (cP n ns ||cP n cn)with
    |true=>rfl
    | false=>
     simp only[av];rw[oP,aX E,Option.map_map,Option.map_map];congr 1;funext y;exact aQ.ov y _ _
/-! What a call reads. -/
def YN{q:aa Nat}{k:V->ah X}(h:cD e q=false):iU (cr e x u σ).m q k=iU σ.m q k:=ai7 q k h
def xU{y:Operand}(h:(aG σ y).nr p=true)(C:p e=true)(D:y ≠ .tmp e):aG (cr e x u σ) y=aG σ y:=by
 cases y with
 | tmp t=>
  show (cr e x u σ).t t=σ.t t;rw[rA,aX (by rintro rfl;exact D rfl)];exact A.zI h C
 |_=>rfl
def RO{l:Lf}{k:V->ah X}(h:l.nr p=true)(C:p e=true):oA (cr e x u σ) l k=oA σ l k:=by
 cases l with
 |own q=>exact YN (X3 h C)
 |_=>rfl
def YO{q:aa Nat}{s i j:Nat}{k:V->ah X}(h:nP p q=true)(C:p e=true):vo (cr e x u σ) q s i j k=vo σ q s i j k:=by
 unfold vo;exact YN (X3 h C)
def ajv{y:A}{k:V->ah X}(h:y.nr p=true)(C:p e=true):r9 (cr e x u σ) y k=r9 σ y k:=by
 cases y with
 |lf l=>exact RO h C
 |view q s i j=>exact YO h C
 |_=>rfl
def RQ(C:p e=true):∀ (xs:aa Lf) (k:aa V -> ah X),xs.all (Lf.nr p)=true -> qW (cr e x u σ) xs k=qW σ xs k
 |[],k,_=>rfl
 | y :: xs,k,h=>by
  rw[List.all_cons,aK]at h;simp[qW,RO h.1 C];congr 1;funext z;exact RQ C xs _ h.2
def ajw{y:A}{k:Pt->ah X}(h:y.nr p=true)(C:p e=true):nL (cr e x u σ) y k=nL σ y k:=by
 cases y with
 |lf l=>simp only[nL];exact RQ C _ _ (by rw[List.all_cons,show l.nr p=true from h];rfl)
 |agg cs=>simp only[nL];exact RQ C _ _ h
 |view q s i j=>simp only[nL];exact YO h C
 |iR cs=>cases cs<;>rfl
 |_=>rfl
def YP(C:p e=true):∀ (xs:aa Operand) (k:aa Pt->ah X),(∀ y∈xs,(aG σ y).nr p=true/\y ≠ .tmp e)->su (cr e x u σ) xs k=su σ xs k
 |[],k,_=>rfl
 | y :: xs,k,h=>by
  obtain⟨D,E⟩:=h y (.head _);unfold su vA;rw[xU D C E,ajw D C];congr 1;funext z;exact YP C xs _ (λy I=>h y (.tail _ I))
def RR{ns:aa Nat}(C:p e=true):∀ (xs:aa Lf) (k:aa V -> ah X),xs.all (Lf.nr p)=true -> sB (cr e x u σ) ns xs k=sB σ ns xs k
 |[],k,_=>rfl
 | y :: xs,k,h=>by
  rw[List.all_cons,aK]at h;simp[sB,RO h.1 C];congr 2;funext z;exact RR C xs _ h.2
def YQ{d:Nat}:∀ (xs:aa Lf),qU (xs.map (Lf.drop d))=qU xs
 |[]=>rfl
 | x :: xs=>by
  have C:(x.drop d).pl=x.pl:=by
   cases x with
   | own k=>
    show (bif cD d k then _ else Lf.own k).pl=_;cases cD d k<;>rfl
   |_=>rfl
  simp[List.map_cons,qU,C,YQ]
def ajx{ns:aa Nat}{y:A}{k:Pt->ah X}(h:y.nr p=true)(C:p e=true):q8 (cr e x u σ) ns y k=q8 σ ns y k:=by
 cases y with
 |lf l=>simp only[q8];exact RR C _ _ (by rw[List.all_cons,show l.nr p=true from h];rfl)
 |agg cs=>simp only[q8];exact RR C _ _ h
 |mW f cs=>cases cs<;>rfl
 | fn f cap=>
  match cap,h with
  |[],_=>rfl
  |_::_::_,_=>rfl
  | [(D,j)],h=>
   have E:p D=false:=by simpa [A.nr,A.fr,uo]using h
   have I:D≠e:=by rintro rfl;rw[C]at E;cases E
   simp only[q8,oP,aX I];cases σ.m D with
   |none=>rfl
   | some z=>
    cases z with
    |aA cs=>simp only[Option.map_some,aQ.GO,<-List.map_drop,YQ]
    |_=>rfl
 |_=>rfl
def ajy{l:Lf}(h:l.nr p=true)(C:p e=true):vF (cr e x u σ).m l=vF σ.m l:=by
 cases l with
 | own k=>
  match k with
  |[]=>rfl
  | [q]=>
   have D:q≠e:=by
    have h:(!p q)=true:=by simpa [Lf.nr,Lf.fr,nP,iJ]using h
    rintro rfl;rw[C]at h;cases h
   simp only[vF];rw[oP,aX D];cases σ.m q with
   |none=>rfl
   |some y=>cases y<;>rfl
  |_::_::_=>rfl
 |v x=>rfl
 |dead=>rfl
def YR(D:p e=true):∀ (C:aa Lf),C.all (Lf.nr p)=true -> q7 (cr e x u σ).m C=q7 σ.m C
 |[],_=>rfl
 | l :: C,h=>by
  rw[List.all_cons,aK]at h;simp[q7,ajy h.1 D,YR D C h.2]
def YS{m:Nat->ah aQ}:∀ {cs:aa Lf} {E:aa (V×ah Nat)},q7 m cs=some E->cs.all (Lf.nr p)=true->∀ v∈E,∀ q,v.2=some q->p q=false
 |[],E,h,_=>by injection h with h;subst h;simp
 | c :: cs,E,h,I=>by
  rw[List.all_cons,aK]at I;unfold q7 at h;split at h
  ·rename_i v Y C T;injection h with h;subst h;intro u hu q D;rcases gp.1 hu with rfl | hu
   ·unfold vF at C;split at C
    ·injection C with C;rw[<-C]at D;cases D
    ·rename_i Z;split at C
     ·rename_i y _;cases O:y.aF with
      |true=>rw[O]at C;injection C with C;rw[<-C]at D;cases D
      | false=>
       rw[O,av]at C;injection C with C;rw[<-C]at D;injection D with D;subst D;have U:=I.1
       simpa [Lf.nr,Lf.fr,nP,iJ]using U
     ·cases C
    ·cases C
   ·exact YS T I.2 u hu q D
  ·cases h
def Lp(p:Nat->Bool):Mu->Prop
 |.aA r cs C=>p r=false/\cs.all (Lf.nr p)=true/\∀v∈C,∀q,v.2=some q->p q=false
 |.sl q _=>p q=false
def RS(I:p e=true):∀ (ps:aa PK) (xs:aa Operand) (O:aa Mu),(∀ y∈xs,(aG σ y).nr p=true/\y ≠ .tmp e)->(∀ n∈iy σ ps xs,xR σ p n=true)->jg σ ps xs=some O->jg (cr e x u σ) ps xs=some O/\∀ C∈O,Lp p C
 |[],[],O,_,_,h=>⟨h,by injection h with h;subst h;simp⟩
 |[],_::_,O,_,_,h=>by cases h
 |_::_,[],O,_,_,h=>by cases h
 | q :: ps,y :: xs,O,hy,hl,h=>by
  obtain⟨E,h2⟩:=hy y (.head _);have vu:∀ n∈iy σ ps xs,xR σ p n=true:=by
   intro n Z;refine hl n ?_;cases q with
   |v=>exact Z
   |s=>exact Z
   | p t g off=>
    simp only[iy];split
    ·exact .tail _ Z
    ·exact Z
  unfold jg at h;have D:∀ z,vG σ q (aG σ y)=some z->vG (cr e x u σ) q (aG (cr e x u σ) y)=some z/\∀ C,z=some C->Lp p C:=by
   intro z hz;rw[xU E I h2];have T:=vH hz;cases q with
   | v=>
    cases z with
    |some C=>exact T.elim
    |none=>exact⟨hz,by simp⟩
   | p t g off=>
    cases z with
    |none=>exact T.elim
    | some C=>
     cases C with
     |sl=>exact T.elim
     | aA Y cs vs=>
      obtain⟨U,hm,hg,hlen⟩:=T;have fo:p Y=false:=by
       rw[U]at E;have E:(!p Y)=true:=E
       simpa using E
      have cm:Y≠e:=by rintro rfl;rw[I]at fo;cases fo
      have fV:cs.all (Lf.nr p)=true:=by
       have:=hl Y (by simp only[iy,U];exact .head _);unfold xR at this;rw[hm]at this;exact this
      have sj:(cr e x u σ).m Y=some (.aA cs):=by
       rw[oP,aX cm,hm];simp only[Option.map_some,aQ.GO,qS.zI fV I]
      refine⟨?_,λC D=>?_⟩
      ·rw[U];simp only[vG,Nat.beq_refl,aq,sj,YR I cs fV,hg];have:Nat.blt cs.length 999=true:=jc hlen;rw[this];rfl
      ·injection D with D;subst D;exact⟨fo,fV,YS hg fV⟩
   | s t g=>
    cases z with
    |none=>exact T.elim
    | some C=>
     cases C with
     |aA=>exact T.elim
     | sl q y0=>
      obtain⟨U,hm,hf⟩:=T;have hq:p q=false:=by
       rw[U]at E;have E:(!p q)=true:=by simpa [A.nr,A.fr,uo,Lf.nr,Lf.fr,nP,iJ]using E
       simpa using E
      have cm:q≠e:=by rintro rfl;rw[I]at hq;cases hq
      refine⟨?_,λC D=>?_⟩
      ·rw[U];simp only[vG];rw[oP,aX cm,hm];simp only[Option.map_some,aQ.drop,hf,av,aQ.cg]
      ·injection D with D;subst D;exact hq
  split at h
  ·rename_i C sD k1 k2;injection h with h;subst h;obtain⟨g1,g2⟩:=D _ k1;obtain⟨f1,f2⟩:=RS I ps xs sD (λy h=>hy y (.tail _ h)) vu k2
   refine⟨by simp only[jg,g1,f1],λm hm=>?_⟩
   rcases gp.1 hm with rfl|hm
   ·exact g2 _ rfl
   ·exact f2 m hm
  next sD k1 k2=>injection h with h;subst h;obtain⟨g1,g2⟩:=D _ k1;obtain⟨f1,f2⟩:=RS I ps xs sD (λy h=>hy y (.tail _ h)) vu k2;exact⟨by simp only[jg,g1,f1],f2⟩
  ·cases h
def Lq(D:p e=true)(ns:aa Nat):∀ (ps:aa PK) (xs:aa Operand) (C:aa Mu) (k:kR ps->ah X),(∀ y∈xs,(aG σ y).nr p=true/\y ≠ .tmp e)->jh (cr e x u σ) ns ps xs C k=jh σ ns ps xs C k
 |[],[],[],k,_=>rfl
 | .v b t :: ps,y :: xs,C,k,h=>by
  obtain⟨I,O⟩:=h y (.head _);simp only[jh];rw[xU I D O,ajx I D];congr 1;funext z;congr 1;split
  ·exact Lq D ns ps xs C _ (λy E=>h y (.tail _ E))
  ·rfl
 | .p t g off :: ps,y :: xs,.aA T cs U :: C,k,h=>by
  simp only[jh];split
  ·exact Lq D ns ps xs C _ (λy E=>h y (.tail _ E))
  ·rfl
 | .s t g :: ps,y :: xs,.sl q Y :: C,k,h=>by
  simp only[jh];split
  ·exact Lq D ns ps xs C _ (λy E=>h y (.tail _ E))
  ·rfl
 |[],[],_::_,k,_=>rfl
 |[],_::_,_,k,_=>rfl
 |.v _ _::_,[],_,k,_=>rfl
 |.p _ _ _::_,[],_,k,_=>rfl
 |.s _ _::_,[],_,k,_=>rfl
 |.p _ _ _::_,_::_,[],k,_=>rfl
 |.s _ _::_,_::_,[],k,_=>rfl
 |.p _ _ _::_,_::_,.sl _ _::_,k,_=>rfl
 |.s _ _::_,_::_,.aA _ _ _::_,k,_=>rfl
def RT{i:Nat}:∀ (C:aa (V×ah Nat)) (j:Nat),(∀ v∈C,∀ q,v.2=some q -> p q=false) -> ∀ u∈DF i j C,p u.1=false
 |[],_,_,u,hu=>by cases hu
 |(y,none)::C,j,h,u,hu=>RT C (j+1) (λv D=>h v (.tail _ D)) u hu
 | (y,some q) :: C,j,h,u,hu=>by
  rcases gp.1 hu with rfl|hu
  ·simp_all
  ·exact RT C (j+1) (λv D=>h v (.tail _ D)) u hu
def RU:∀ (C:aa Mu) (i:Nat),(∀ E∈C,Lp p E) -> ∀ u∈kS i C,p u.1=false
 |[],_,_,u,hu=>by cases hu
 | .aA U cs I :: C,i,h,u,hu=>by
  obtain⟨O,Y,T⟩:=h _ (.head _);rcases gp.1 hu with rfl|hu
  ·exact O
  ·rcases lz.1 hu with hu | hu
   ·exact RT I 0 T u hu
   ·exact RU C _ (λm D=>h m (.tail _ D)) u hu
 | .sl q y :: C,i,h,u,hu=>by
  rcases gp.1 hu with rfl|hu
  ·exact h _ (.head _)
  ·exact RU C (i+1) (λm D=>h m (.tail _ D)) u hu
def RX{c0:Nat}(E:∀ n,c0 <= n -> p n=false):∀ (C:aa (V×ah Nat)) (n:Nat),(∀ v∈C,∀ q,v.2=some q -> p q=false) -> ∀ u∈mb c0 n C,p u=false
 |[],_,_,u,hu=>by cases hu
 | (y,none) :: C,n,h,u,hu=>by
  rcases gp.1 hu with rfl|hu
  ·simp_all
  ·exact RX E C (n+1) (λv D=>h v (.tail _ D)) u hu
 | (y,some q) :: C,n,h,u,hu=>by
  rcases gp.1 hu with rfl|hu
  ·simp_all
  ·exact RX E C (n+1) (λv D=>h v (.tail _ D)) u hu
def RY:∀ (C:aa Nat) (xs:aa V),∀ u∈vI C xs,u∈C
 |[],[],u,hu=>by cases hu
 | n :: C,y :: xs,u,hu=>by
  simp[vI]at hu;cases D:y.aF with
  |true=>rw[D]at hu;exact .tail _ (RY C xs u hu)
  | false=>
   rw[D]at hu;rcases gp.1 hu with rfl|hu
   ·simp_all
   ·exact .tail _ (RY C xs u hu)
def YT{ns cn:aa Nat}:∀ (C:aa Nat) (D:aa Lf) (xs:aa V),(∀ n∈C,p n=false)->D.all (Lf.nr p)=true->(oL ns cn C D xs).all (Lf.nr p)=true
 |[],_,_,_,_=>by simp[oL]
 |_::_,[],_,_,_=>by simp[oL]
 |_::_,_::_,[],_,_=>by simp[oL]
 | n :: C,l :: D,y :: xs,I,E=>by
  rw[List.all_cons,aK]at E;simp only[oL,List.all_cons,aK]
  refine⟨?_,YT C D xs (λn O=>I n (.tail _ O)) E.2⟩
  cases y.plain with
  |true=>rfl
  | false=>
   simp only[av];cases y.aF with
   | true=>
    simp only[aq];cases l with
    | own k=>
     have T:Lf.c8 ns cn (.own k)=(bif fI k cn ||(fI k ns && !(Nat.beq k.length 1))then .dead else .own k):=rfl;rw[T];cases (fI k cn ||(fI k ns && !(Nat.beq k.length 1)))with
     |true=>rfl
     |false=>exact E.1
    |v x=>rfl
    |dead=>rfl
   | false=>
    show (!p n)=true;rw[I n (.head _)];rfl
def RZ:∀ (C:aa Nat) (xs:aa V),∀ u∈uk C xs,u.1∈C /\ ∃ y,u.2 = .sl y
 |[],[],u,hu=>by cases hu
 |[],_::_,u,hu=>by cases hu
 | n :: C,y :: xs,u,hu=>by
  simp[uk]at hu;cases I:y.aF with
  |true=>rw[I]at hu;obtain⟨D,E⟩:=RZ C xs u hu;exact⟨.tail _ D,E⟩
  | false=>
   rw[I]at hu;rcases gp.1 hu with rfl|hu
   ·simp_all
   ·obtain⟨D,E⟩:=RZ C xs u hu;exact⟨.tail _ D,E⟩
def R0{c0:Nat}{ns cn:aa Nat}(E:p e=true)(T:∀ n,c0<=n->p n=false):∀ (D:aa Mu) (outs:aa In) (C:Nat),(∀ mu∈D,Lp p mu)->(∀ u∈nc c0 C D outs,p u=false)/\∀ u∈kT ns cn c0 C D outs,u.1≠e/\u.2.drop e=u.2
 |[],outs,C,_=>⟨(λu hu=>by simp[nc]at hu),(λu hu=>by simp[kT]at hu)⟩
 |.aA _ _ _::_,[],C,_=>⟨(λu hu=>by cases hu),(λu hu=>by cases hu)⟩
 |.sl _ _::_,[],C,_=>⟨(λu hu=>by cases hu),(λu hu=>by cases hu)⟩
 |.aA _ _ _::_,.sl _::_,C,_=>⟨(λu hu=>by cases hu),(λu hu=>by cases hu)⟩
 |.sl _ _::_,.aA _::_,C,_=>⟨(λu hu=>by cases hu),(λu hu=>by cases hu)⟩
 | .aA r' cs vs :: D,.aA xs :: outs,C,h=>by
  obtain⟨I,h2,h3⟩:=h _ (.head _);obtain⟨U,O⟩:=R0 (ns:=ns) (cn:=cn) E T D outs (C+1+vs.length) (λm Y=>h m (.tail _ Y));have cm:∀n,p n=false->n≠e:=by rintro n hn rfl;rw[E]at hn;cases hn
  have Z:=RX T vs (C+1) h3
  refine⟨λu hu=>?_,λu hu=>?_⟩
  ·simp only[nc]at hu;rcases lz.1 hu with hu | hu
   ·exact Z u (RY _ _ u hu)
   ·exact U u hu
  ·simp only[kT]at hu;rcases gp.1 hu with rfl | hu
   ·refine⟨cm _ I,?_⟩;rw[aQ.GO,qS.zI (YT _ _ _ Z h2) E]
   ·rcases lz.1 hu with hu | hu
    ·obtain⟨g1,y,g2⟩:=RZ _ _ u hu;exact⟨cm _ (Z _ g1),by rw[g2];rfl⟩
    ·exact O u hu
 | .sl q y :: D,.sl y' :: outs,C,h=>by
  have I:p q=false:=h _ (.head _);obtain⟨U,O⟩:=R0 (ns:=ns) (cn:=cn) E T D outs (C+1) (λm Y=>h m (.tail _ Y))
  refine⟨λu hu=>U u (by simpa [nc]using hu),λu hu=>?_⟩
  simp only[kT]at hu;cases hy:y'.jI with
  |false=>rw[hy]at hu;exact O u hu
  |true=>
  rw[hy]at hu;rcases gp.1 hu with rfl|hu
  ·exact⟨(by rintro rfl;rw[E]at I;cases I),rfl⟩
  ·exact O u hu
def R1:∀ (xs:aa V) (c:Nat),e<c->(nM c xs).map (Lf.drop e)=nM c xs
 |[],_,_=>rfl
 | y :: xs,c,h=>by
  simp only[nM,List.map_cons];rw[R1 xs (c+1) (by omega)];cases y.aF with
  |true=>rfl
  | false=>
   have:cD e [c]=false:=by simp[cD];omega
   simp only[av,Lf.drop,this,Lf.cg]
def ajz{b:Bool}{xs:aa Lf}{y:A}(h:yY (b,xs)=some y)(C:xs.map (Lf.drop e)=xs):y.drop e=y:=by
 unfold yY at h;split at h
 next D=>injection h with h;subst h;obtain⟨_,rfl⟩:=D;exact bz A.agg C
 next z D=>injection h with h;subst h;obtain⟨_,rfl⟩:=D;simp at C;exact bz A.lf C
 ·cases h
def YU:∀ (ps:aa Pt) (c:Nat),e<c->(sv c ps).map (λq=>(q.1,q.2.map (Lf.drop e)))=sv c ps
 |[],_,_=>rfl
 | q :: ps,c,h=>by
  simp only[sv,List.map_cons];rw[R1 _ _ h,YU ps _ (by omega)]
def ajA(ps:aa Pt)(c:Nat)(h:e<c):A.drop e (.eU (sv c ps)) = .eU (sv c ps):=bz A.eU (YU ps c h)
def YV(C:jQ x)(D:mq e u)(U:e<20000)(E:d≠e){I:fL}{O:S}(h:m6 σ d I some=some O):m6 (cr e x u σ) d I some=some (cr e x u O):=by
 unfold m6 at h ⊢;split at h
 ·split at h
  next y T=>injection h with h;subst h;rw[Ln C D _ _ _ (by omega),Lo E (ajz T (R1 _ _ (by omega)))]
  ·cases h
 ·injection h with h;subst h;rw[YM C D _ _ _ (by omega),Lo E (ajA _ _ (by omega))]
def ajB(O:jQ x)(T:mq e u)(U:e<20000){C:ah Tmp}(Y:C≠some e){E:fL}{D:S}(h:pX N σ C E some=some D):pX N (cr e x u σ) C E some=some (cr e x u D):=by
 cases C with
 | none=>
  have h:some σ=some D:=h;injection h with h;rw[<-h];rfl
 | some d=>
  unfold pX at h ⊢;cases I:Nat.blt d N with
  |false=>simp only[I,av]at h;cases h
  | true=>
   simp only[I,aq]at h ⊢;exact YV O T U (by rintro rfl;exact Y rfl) h
def ajC(dL:fC P Φ)(hx:jQ x)(Y:mq e u)(he:e<20000)(T:p e=true)(xV:∀ n,20000<=n->p n=false)(C:nh Φ o=true)(hd:o.dst≠some e)(sM:∀ y∈o.op.operands,(aG σ y).nr p=true/\y ≠ .tmp e)(hl:∀ n∈oM Φ σ o,xR σ p n=true){τ:S}
  (h:dy P N Φ σ o some=some τ):dy P N Φ (cr e x u σ) o some=some (cr e x u τ):=by
 have sN:∃ f args iM,o.op = .call { callee:=.value (.func f),args:=args,argTypes:=iM }:=by
  unfold nh at C;split at C
  ·exact⟨_,_,_,by assumption⟩
  ·cases C
 obtain⟨f,args,iM,D⟩:=sN;have lG:∀ y∈args.toList,(aG σ y).nr p=true/\y ≠ .tmp e:=by
  intro y hy;refine sM y ?_;rw[D];simp only[Op.operands,Call.operands];simp only[Array.mem_append]
  first
   |exact .inr (by simpa using hy)
   |exact .inl (by simpa using hy)
 have cY:∀ σ2,dy P N Φ σ2 o some=gY P N Φ σ2 o some:=by
  intro σ2;unfold dy;rw[show fD o.op=false by rw[D];rfl,av]
 rw[cY]at h ⊢;cases I:Φ f with
 |none=>simp only[gY,D,I]at h;cases h
 | some c=>
  cases c with
  |n F=>rw[nh,D]at C;simp[I]at C
  |v c=>rw[nh,D]at C;simp[I]at C
  |i c=>rw[nh,D]at C;simp[I]at C
  |d c=>rw[nh,D]at C;simp[I]at C
  |q c=>rw[nh,D]at C;simp[I]at C
  |c c=>rw[nh,D]at C;simp[I]at C
  | p c=>
   simp only[gY,D,I]at h ⊢;obtain⟨d,Z,h⟩:=jy h;have hde:d≠e:=by rintro rfl;exact hd Z
   obtain⟨res,sk,h1,E,h3⟩:=KM (GQ dL I) DO h;injection E with E;subst E;simp only[gu,Z];exact(h3 (cr e x u σ) (cr e x u sk) (λX k=>su (cr e x u σ) args.toList k) (λX k=>YP T _ k lG) (YV hx Y he hde h1)).at_ _
  | m c=>
   simp only[gY,D,I]at h ⊢;have zG:∀ n∈iy σ c.ps args.toList,xR σ p n=true:=by
    intro n U;refine hl n ?_;simp only[oM,D,I];exact U
   unfold nO at h;split at h
   ·rename_i O um;obtain⟨g1,g2⟩:=RS (x:=x) (u:=u) T c.ps args.toList O lG zG um;cases jO:(once (kS 0 O)&&Nat.ble O.length 40)with
    |false=>rw[jO]at h;cases h
    | true=>
     rw[jO,aq]at h;obtain⟨z,E,YW⟩:=(KS _ _ _).lD h;simp only[nO,g1,jO,aq];rw[Lq T _ _ _ _ _ lG];refine(YW S _).trans ?_;split at E
     ·rename_i y hy;unfold DI at E ⊢;generalize oH:nc (gW o.dst) (eP c.ro y.1).len O (iN (ez c.ps) y.2)=cn at E;generalize fk:DH N O (iN (ez c.ps) y.2) cn=ok at E;cases ok with
      |false=>cases E
      | true=>
       rw[aq]at E;have q6:∀ n,gW o.dst<=n->p n=false:=by
        intro n U;refine xV n ?_;cases Z:o.dst with
        |none=>rw[Z]at U;simp only[gW]at U;omega
        |some d=>rw[Z]at U;simp only[gW]at U;omega
       obtain⟨k1,k2⟩:=R0 (ns:=(kS 0 O).map (·.1)) (cn:=cn) T q6 O (iN (ez c.ps) y.2) (eP c.ro y.1).len g2;rw[oH]at k1;rw[aq,aju hx Y ?_ ?_ k2]
       ·exact ajB hx Y he hd E
       ·cases hm:cP e ((kS 0 O).map (·.1))with
        |false=>rfl
        | true=>
         obtain⟨u,Y,e1⟩:=List.mem_map.1 (uf.1 hm);have:=RU O 0 g2 u Y;rw[e1,T]at this;cases this
       ·cases hm:cP e cn with
        |false=>rfl
        |true=>have:=k1 e (uf.1 hm);rw[T]at this;cases this
     ·cases E
   ·cases h
def A.YX{y:A}(h:y.fD=true)(K:mX):y.cg K=y:=by
 refine A.ou ?_;cases y with
 |lf l=>cases l<;>first|rfl|cases h
 | agg cs=>
  refine bS.2 λl C=>?_
  have:=bS.1 h l C;cases l<;>first|rfl|cases this
 |_=>cases h
def A.Lr{y:A}(h:y.fD=true)(n:Nat):y.drop n=y:=A.YX h _
def A.ajD{y:A}(h:y.fD=true)(ns cn:aa Nat):y.c8 ns cn=y:=A.YX h _
def R2:∀ (xs:aa V) (c:Nat) (σ:S) {t:Nat},(σ.t t).fD=true -> (l8 c σ xs).t t=σ.t t
 |[],c,σ,t,h=>rfl
 | y :: xs,c,σ,t,h=>by
  simp[l8];cases y.aF with
  |true=>exact R2 xs _ σ h
  | false=>
   simp;have C:(((σ.drop c).root c (.sl y)).t t)=σ.t t:=by rw[RN];exact A.Lr h c
   rw[R2 xs _ _ (by rw[C];exact h),C]
def YY:∀ (ps:aa Pt) (c:Nat) (σ:S) {t:Nat},(σ.t t).fD=true -> (nN c σ ps).t t=σ.t t
 |[],c,σ,t,h=>rfl
 | q :: ps,c,σ,t,h=>by
  simp[nN];have C:=R2 q.2 c σ h;rw[YY ps _ _ (by rw[C];exact h),C]
def YZ{D:fL}{C:S}(h:m6 σ d D some=some C){t:Nat}(E:(σ.t t).fD=true)(I:t≠d):C.t t=σ.t t:=by
 obtain⟨ps,u,O⟩:=Rw h;rw[O]at h;injection h with h;rw[<-h];exact(ck _ _ _ I).trans (YY _ _ _ E)
def ajE{C:ah Tmp}{I:fL}{D:S}(h:pX N σ C I some=some D){t:Nat}(O:(σ.t t).fD=true)(T:C≠some t):D.t t=σ.t t:=by
 cases C with
 | none=>
  have h:some σ=some D:=h;injection h with h;rw[<-h]
 | some d=>
  unfold pX at h;cases E:Nat.blt d N with
  |false=>simp only[E,av]at h;cases h
  | true=>
   simp only[E,aq]at h;exact YZ h O (by rintro rfl;exact T rfl)
def ajF(dL:fC P Φ)(C:nh Φ o=true){U:S}(h:dy P N Φ σ o some=some U){t:Nat}(T:(σ.t t).fD=true)(Y:o.dst≠some t):U.t t=σ.t t:=by
 have sN:∃ f args Z,o.op = .call { callee:=.value (.func f),args:=args,argTypes:=Z }:=by
  unfold nh at C;split at C
  ·exact⟨_,_,_,by assumption⟩
  ·cases C
 obtain⟨f,args,Z,E⟩:=sN;have cY:dy P N Φ σ o some=gY P N Φ σ o some:=by
  unfold dy;rw[show fD o.op=false by rw[E];rfl,av]
 rw[cY]at h;cases I:Φ f with
 |none=>simp only[gY,E,I]at h;cases h
 | some c=>
  cases c with
  |n F=>rw[nh,E]at C;simp[I]at C
  |v c=>rw[nh,E]at C;simp[I]at C
  |i c=>rw[nh,E]at C;simp[I]at C
  |d c=>rw[nh,E]at C;simp[I]at C
  |q c=>rw[nh,E]at C;simp[I]at C
  |c c=>rw[nh,E]at C;simp[I]at C
  | p c=>
   simp only[gY,E,I]at h;obtain⟨d,uw,h⟩:=jy h;obtain⟨res,sk,h1,D,h3⟩:=KM (GQ dL I) DO h;injection D with D;subst D;exact YZ h1 T (by rintro rfl;exact Y uw)
  | m c=>
   simp only[gY,E,I]at h;unfold nO at h;split at h
   ·rename_i O um;cases jO:(once (kS 0 O)&&Nat.ble O.length 40)with
    |false=>rw[jO]at h;cases h
    | true=>
     rw[jO,aq]at h;obtain⟨z,D,YW⟩:=(KS _ _ _).lD h;split at D
     ·rename_i y hy;unfold DI at D;generalize DH N O (iN (ez c.ps) y.2) (nc (gW o.dst) (eP c.ro y.1).len O (iN (ez c.ps) y.2))=ok at D;cases ok with
      |false=>cases D
      | true=>
       rw[aq]at D;have e1:∀ns cn nr,(σ.c8 ns cn nr).t t=σ.t t:=λns cn nr=>A.ajD T ns cn
       have:=ajE (t:=t) D (by rw[e1];exact T) Y;rw[this,e1]
     ·cases D
   ·cases h
def ajG{E:Nat}{I:aQ}{O:A}(T:jQ x)(U:mq e u)(Y:jQ I)(Z:mq E O)(h:e≠E):cr E I O (cr e x u σ)=cr e x u (cr E I O σ):=by
 refine S.ext' (λk=>?_) λn=>?_
 ·simp only[rA];by_cases C:k=E
  ·subst C;rw[aW rfl,aX (Ne.symm h),aW rfl,Z.drop (Ne.symm h)]
  ·rw[aX C];by_cases D:k=e
   ·subst D;rw[aW rfl,aW rfl,U.drop h]
   ·rw[aX D,aX D,aX C,A.RM]
 ·simp only[oP];by_cases C:n=E
  ·subst C;rw[aW rfl,aX (Ne.symm h),aW rfl,Option.map_some,Y.drop]
  ·rw[aX C];by_cases D:n=e
   ·subst D;rw[aW rfl,aW rfl,Option.map_some,T.drop]
   ·rw[aX D,aX D,aX C];cases σ.m n with
    |none=>rfl
    |some y=>simp only[Option.map_some,aQ.RM]
def ajH(O:jQ x)(T:mq e u)(U:p e=true)(Y:nQ o=true)(Z:o.dst≠some e)(C:∀ y∈o.op.operands,(aG σ y).nr p=true/\y ≠ .tmp e){D:S}
  (h:dy P N Φ σ o some=some D):dy P N Φ (cr e x u σ) o some=some (cr e x u D):=by
 obtain⟨e',x',u',hd',Gi,lE,vp,gX,oO⟩:=Lg (o:={ o with guard:=none }) (ops:=#[]) Y rfl h;have cm:e≠e':=by rintro rfl;exact Z hd'
 have E:=oO (cr e x u σ) rfl λy I=>xU (C y I).1 U (C y I).2
 rw[ajG O T lE vp cm,<- gX]at E;exact E
def ajI(D:nQ o=true){C:S}(h:dy P N Φ σ o some=some C){t:Nat}(E:(σ.t t).fD=true)(I:o.dst≠some t):C.t t=σ.t t:=by
 obtain⟨O,Z,u',T,Gi,lE,vp,U,oO⟩:=Lg (o:={ o with guard:=none }) (ops:=#[]) D rfl h;have Y:t≠O:=by rintro rfl;exact I T
 rw[U,rA,aX Y,A.Lr E]
def ajJ(hx:jQ x)(hu:mq e u)(C:p e=true)(hm:isApp o=true)(hd:o.dst≠some e)(T:∀ y∈o.op.operands,(aG σ y).nr p=true/\y ≠ .tmp e){U:S}
  (h:dy P N Φ σ o some=some U):dy P N Φ (cr e x u σ) o some=some (cr e x u U):=by
 obtain⟨a,b,t,t',I,hn,mZ,hk⟩:=RH hm;have E:=T a (by rw[I];simp[Op.operands,Call.operands]);have O:=T b (by rw[I];simp[Op.operands,Call.operands]);rw[GV I hn mZ hk]at h ⊢;obtain⟨d,Y,h⟩:=jy h;obtain⟨r,v,gX,hr,oO⟩:=Lh h;have Z:d≠e:=by rintro rfl;exact hd Y
 have Y0:r≠e:=by
  rcases hr with h1|h1
  ·rw[h1];exact Z
  ·rintro rfl;have D:=E.1;rw[h1]at D;simp[A.nr,A.fr,uo,Lf.nr,Lf.fr,nP,iJ,C]at D
 unfold gu;rw[Y];simp only;rw[xU E.1 C E.2,xU O.1 C O.2,oO (cr e x u σ) (λk=>ajv O.1 C) (λr' v' fo sj=>?_)]
 ·rw[YL v hx hu (Ne.symm Y0),Lo Z ?_,gX];have:cD e [r]=false:=by simp[cD,Y0]
  simp only[A.drop,Lf.drop,this,av,A.cg,wV,Lf.cg]
 ·have cm:r'≠e:=by
   rintro rfl;have D:=E.1;rw[fo]at D;simp[A.nr,A.fr,uo,Lf.nr,Lf.fr,nP,iJ,C]at D
  rw[oP,aX cm,sj];rfl
def ajK(D:isApp o=true){C:S}(h:dy P N Φ σ o some=some C){t:Nat}(E:(σ.t t).fD=true)(I:o.dst≠some t):C.t t=σ.t t:=by
 obtain⟨a,b,t1,t2,O,T,U,Y⟩:=RH D;rw[GV O T U Y]at h;obtain⟨d,Z,h⟩:=jy h;obtain⟨r,v,gX,hr,oO⟩:=Lh h;have cm:t≠d:=by rintro rfl;exact I Z
 rw[gX];show bD ((σ.drop r).root r _).t d _ t=_;rw[ck _ _ _ cm];exact A.Lr E r
def Y1(C:∃ ty t y,o.op = .store ty (.tmp t) y/\o.dst=none /\ ∃ r j,σ.t t = .aJ r j){I:S}(h:dy P N Φ σ o some=some I):∃ t y r j cs xs,o.op.operands = #[.tmp t,y]/\σ.t t = .aJ r j/\(aG σ y).yW=some xs/\σ.m r=some (.aA cs)/\I=σ.root r (.aA (splice cs j xs)) /\
  ∀(σ2:S) (D:aa Lf),σ2.t t = .aJ r j -> aG σ2 y=aG σ y -> σ2.m r=some (.aA D) -> D.length=cs.length -> dy P N Φ σ2 o some=some (σ2.root r (.aA (splice D j xs))):=by
 obtain⟨ty,t,y,C,Z,r,j,O⟩:=C;have T:∀ σ2:S,σ2.t t = .aJ r j -> dy P N Φ σ2 o some=pL P σ2 ty (.aJ r j) (aG σ2 y) some:=by
  intro σ2 E;unfold dy;rw[show fD o.op=false by rw[C];rfl,av];simp[gY,C,Z];have e1:aG σ2 (.tmp t) = .aJ r j:=E;rw[e1,show xP _ _=false from rfl,av]
 rw[T σ O]at h;unfold pL at h;split at h
 ·rename_i n xs hn U;split at h
  ·rename_i hlen;simp only at h;split at h
   ·rename_i cs fV;split at h
    ·rename_i hj;cases Y:xs.all Lf.live with
     |false=>simp_all
     | true=>
      rw[Y,aq]at h;injection h with h
      refine⟨t,y,r,j,cs,xs,by rw[C];rfl,O,U,fV,h.symm,λσ2 D h1 E h3 h4=>?_⟩
      rw[T σ2 h1,E];simp only[pL,hn,U,aW hlen,h3];rw[aW (by rw[h4];exact hj),Y];rfl
    ·cases h
   ·cases h
  ·cases h
 ·cases h
def Y2(C:GL o=true)(E:xQ σ o=true):∃ ty t y,o.op = .store ty (.tmp t) y/\o.dst=none /\ ∃ r j,σ.t t = .aJ r j:=by
 unfold GL at C;rw[aK]at C;obtain⟨D,I⟩:=C;split at D
 ·rename_i ty t y O;refine⟨ty,t,y,O,Option.isNone_iff_eq_none.1 I,?_⟩;unfold xQ at E
  grind
 ·cases D
def ajL{y:A}{xs:aa Lf}(h:y.yW=some xs)(C:y.nr p=true):xs.all (Lf.nr p)=true:=by
 cases y with
 |lf l=>injection h with h;subst h;rw[List.all_cons,show l.nr p=true from C];rfl
 |agg cs=>injection h with h;subst h;exact C
 |_=>cases h
def ajM(hx:jQ x)(hu:mq e u)(C:p e=true)(hm:GL o=true)(hs:xQ σ o=true)(O:∀ y∈o.op.operands,(aG σ y).nr p=true/\y ≠ .tmp e){T:S}
  (h:dy P N Φ σ o some=some T):dy P N Φ (cr e x u σ) o some=some (cr e x u T):=by
 obtain⟨t,y,r,j,cs,xs,U,Y,g3,g4,g5,g6⟩:=Y1 (Y2 hm hs) h;have D:=O (.tmp t) (by rw[U];simp);have E:=O y (by rw[U];simp);have e1:(cr e x u σ).t t = .aJ r j:=(xU D.1 C D.2).trans Y;have Z:r≠e:=by
  have h2:(aG σ (.tmp t)).nr p=true:=D.1;have h3:aG σ (.tmp t) = .aJ r j:=Y;rw[h3]at h2;exact ai8 h2 C
 have e3:(cr e x u σ).m r=some (.aA (cs.map (Lf.drop e))):=by
  rw[oP,aX Z,g4];rfl
 have mY:=qS.zI (ajL g3 E.1) C;rw[g6 (cr e x u σ) _ e1 (xU E.1 C E.2) e3 (by rw[eT]),g5];congr 1
 refine S.ext' (λk=>?_) λn=>?_
 ·show (cr e x u σ).t k=(cr e x u (σ.root r (.aA (splice cs j xs)))).t k;rw[rA,rA];rfl
 ·show bD (cr e x u σ).m r (some (.aA (splice (cs.map (Lf.drop e)) j xs))) n=(cr e x u (σ.root r (.aA (splice cs j xs)))).m n;rw[oP];by_cases I:n=r
  ·subst I;rw[bI,aX Z];show _=(bD σ.m n (some (aQ.aA (splice cs j xs))) n).map (aQ.drop e);rw[bI];simp only[Option.map_some,aQ.GO,splice,List.map_append,List.map_take,List.map_drop,mY]
  ·rw[ck _ _ _ I,oP];have:(σ.root r (.aA (splice cs j xs))).m n=σ.m n:=ck _ _ _ I;rw[this]
def ajN(D:GL o=true)(E:xQ σ o=true){C:S}(h:dy P N Φ σ o some=some C)(t:Nat):C.t t=σ.t t:=by
 obtain⟨_,_,r,j,cs,xs,_,_,_,_,I,_⟩:=Y1 (Y2 D E) h;rw[I];rfl
def ajO(Y:fC P Φ)(C:jQ x)(D:mq e u)(Z:e<20000)(E:p e=true)(xV:∀ n,20000<=n->p n=false)(O:GM Φ o=true)(jL:xQ σ o=true)(T:o.dst≠some e)(I:∀ y∈o.op.operands,(aG σ y).nr p=true/\y ≠ .tmp e)(hl:∀ n∈oM Φ σ o,xR σ p n=true){U:S}
  (h:dy P N Φ σ o some=some U):dy P N Φ (cr e x u σ) o some=some (cr e x u U):=by
 unfold GM at O;rw[dZ,dZ,dZ]at O;rcases O with ((hc|hc)|hc)|hc
 ·exact ajC Y C D Z E xV hc T I hl h
 ·exact ajH C D E hc T I h
 ·exact ajJ C D E hc T I h
 ·exact ajM C D E hc jL I h
def ajP(O:fC P Φ)(C:GM Φ o=true)(T:xQ σ o=true){I:S}(h:dy P N Φ σ o some=some I){t:Nat}(D:(σ.t t).fD=true)(E:o.dst≠some t):I.t t=σ.t t:=by
 unfold GM at C;rw[dZ,dZ,dZ]at C;rcases C with ((hc|hc)|hc)|hc
 ·exact ajF O hc h D E
 ·exact ajI hc h D E
 ·exact ajK hc h D E
 ·exact ajN hc T h t
def Y3{i W j:Nat}{D:Oper}(E:ops[j]?=some D)(h:GI ops i W j=true):∃ e∈D.after,Region.binds .any e=true/\(e.on=i\/W.testBit e.on=true):=by
 unfold GI at h;rw[E]at h;obtain⟨e,I,C⟩:=List.any_eq_true.1 h;rw[aK,dZ]at C
 refine⟨e,by simpa using I,C.1,C.2.imp (λh=>cH h) id⟩
def R3{g:Oper -> Bool}{C:Oper}{i L W:Nat}:∀ (n j:Nat),GJ g ops C i L W n j=true -> ∀ k,j <= k -> k<j+n -> k=i \/ L.testBit k=true \/ (W.testBit k=true/\GI ops i W k=true) \/ (W.testBit k=false /\ ∀ ok,ops[k]?=some ok -> g ok=true/\C.apart ops ok=true)
 |0,j,_,k,D,E=>by omega
 | n+1,j,h,k,D,E=>by
  unfold GJ at h;rw[aK,dZ,dZ]at h;by_cases I:k=j
  ·subst I;rcases h.1 with (h | h) | h
   ·exact .inl (cH h)
   ·exact .inr (.inl h)
   ·grind
  ·exact R3 n (j+1) h.2 k (by omega) (by omega)
def oQ{g:Oper -> Bool}{i L W:Nat}:∀ (n j:Nat) (k:Nat),j <= k -> k<j+n -> k≠i -> L.testBit k=false -> W.testBit k=false -> ∀ ok,ops[k]?=some ok -> g ok=true -> gP g ops i L W n j=true
 |0,j,k,C,D,_,_,_,_,_,_=>by omega
 | n+1,j,k,C,D,hi,E,I,ok,O,T=>by
  unfold gP;rw[dZ];by_cases U:k=j
  ·subst U;refine .inl ?_;have Y:Nat.beq k i=false:=by
    cases Y:Nat.beq k i with
    |false=>rfl
    |true=>simp_all
   simp_all
  ·exact .inr (oQ n _ k (by omega) (by omega) hi E I ok O T)
def Y4{g:Oper -> Bool}{i L W:Nat}:∀ (n j:Nat),gP g ops i L W n j=true -> ∃ k ok,ops[k]?=some ok/\k≠i/\L.testBit k=false/\W.testBit k=false/\g ok=true
 |0,j,h=>by cases h
 | n+1,j,h=>by
  unfold gP at h;rw[dZ]at h;rcases h with h|h
  ·rw[aK,gk,mO,mO]at h;obtain⟨⟨⟨D,E⟩,I⟩,C⟩:=h;split at C
   next ok O=>exact⟨j,ok,O,(by rintro rfl;rw[Nat.beq_refl]at D;cases D),E,I,C⟩
   ·cases C
  ·exact Y4 n _ h
theorem ajQ[Inhabited Wd]{L i:Nat}{k:S -> ah X}(E:fD o.op=true \/ fJ σ ops o=some false)(I:Rc σ (zN Φ ops i L (waits ops i ops.size 0 0) σ) (BS σ ops i L (waits ops i ops.size 0 0)) o=true)(h:GK P N Φ ops L i σ o k=some r):
  ∃v,k (fX σ o.dst v)=some r/\mm P ops o (zN Φ ops i L (waits ops i ops.size 0 0) σ) (BS σ ops i L (waits ops i ops.size 0 0)) v σ /\ ∀σ:S,gM N σ o.dst v some=some (fX σ o.dst v):=by
 unfold GK at h;unfold Rc at I;rw[aK]at I;split at h
 ·rename_i C;obtain⟨v,D,Z,_⟩:=Rh (w0:=default) (N:=N) h;cases O:v.nR _ _ with
  |false=>rw[O]at D;cases D
  | true=>
   rw[O,aq]at D;obtain⟨T,U⟩:=sL D;have E:=E.resolve_right (by rw[C];simp)
   refine⟨v,T,.inl ⟨C,E,Z,λy Y=>bS.1 I.1 y (by simpa using Y),O,λt y r j e Y=>?_⟩,λσ=>(U σ).at_ _⟩
   simp_all
 next C=>obtain⟨T,U⟩:=sL h;exact⟨.skip,T,.inr ⟨C,rfl⟩,λσ=>(U σ).at_ _⟩
 ·cases h
def DZ{i L W n:Nat}(h:zM Φ ops i L W σ n=true):zN Φ ops i L W σ n=true:=by unfold zN;rw[h];rfl
def ajR{i L W:Nat}(h:FC Φ ops i L W σ o=true):∃ ty t y,o.op = .store ty (.tmp t) y/\o.dst=none/\K5 Φ ops i L W σ t=true/\(∀ k,σ.t t ≠ .ptr k) /\ ∀ r j,σ.t t = .aJ r j -> zL σ o=[r]:=by
 unfold FC at h;split at h
 ·rename_i ty t y C;rw[aK,aK]at h
  refine⟨ty,t,y,C,by simpa using h.1.1,h.1.2,λk E=>?_,λr j D=>by simp[zL,C,D]⟩
  simp_all
 ·cases h
def ajS{i L W:Nat}(h:Ra Φ ops i L W o=true):∃ x y t C,o.op = .call ⟨.builtin .append,⟨[.tmp x,y]⟩,⟨[t,C]⟩⟩/\mg Φ ops i L W x=true/\(p9 t=false/\Nat.beq t C=true/\BQ o.dst t (.tmp x)=false):=by
 unfold Ra at h
 grind
def ajT{i L W:Nat}(h:Q9 Φ ops i L W σ o=true):∃ f args C c,o.op = .call { callee:=.value (.func f),args:=args,argTypes:=C } /\ Φ f=some (.m c)/\K2 c=true/\sJ (λt r=>!gP (jP t) ops i L W ops.size 0 && !gP (λok=>eM ok r) ops i L W ops.size 0 && !gP isApp ops i L W ops.size 0) σ c.ps args.toList=true/\oM Φ σ o=iy σ c.ps args.toList:=by
 unfold Q9 at h;split at h
 ·rename_i f args C D;split at h
  next c E=>rw[aK]at h;exact⟨f,args,C,c,D,E,h.1,h.2,by simp[oM,D,E]⟩
  ·cases h
 ·cases h
def GY{p:Nat -> Bool}:∀ (ps:aa PK) (xs:aa Operand),(∀ x∈xs,(aG σ x).nr p=true) -> ∀ n∈iy σ ps xs,p n=false
 |[],[],_,n,hn=>by cases hn
 |.v _ _::ps,x::xs,h,n,hn=>GY ps xs (λy C=>h y (.tail _ C)) n hn
 |.s _ _::ps,x::xs,h,n,hn=>GY ps xs (λy C=>h y (.tail _ C)) n hn
 | .p _ _ _ :: ps,x :: xs,h,n,hn=>by
  simp[iy]at hn;split at hn
  ·rename_i I j E;rcases gp.1 hn with rfl | hn
   ·have D:=h x (.head _);rw[E]at D;have D:(!p n)=true:=D
    simpa using D
   ·exact GY ps xs (λy C=>h y (.tail _ C)) n hn
  ·exact GY ps xs (λy C=>h y (.tail _ C)) n hn
def Ls{D:ah Tmp}{g:Bool}{k:S -> ah X}(h:sI σ D g k=some r):k σ=some r:=by
 unfold sI at h;cases g with
 |false=>exact h
 | true=>
  rw[aq]at h;split at h
  ·rename_i d;split at h
   ·rename_i b E;have:∀ c,b=c -> σ.set d (.lf (.v (.bool c)))=σ:=by
     rintro c rfl
     refine S.ext' (λk=>?_) λ_=>rfl
     show bD _ _ _ _=_;by_cases C:k=d
     ·subst C;rw[bI,E]
     ·rw[ck _ _ _ C]
    grind
   ·exact h
  ·exact h
def Y5{L j:Nat}(h:lJ ops L j=true):j<ops.size:=by
 obtain⟨_,o,C,_⟩:=GW.1 h
 grind
def BX{L j:Nat}:j∈(List.range ops.size).filter (lJ ops L) ↔ lJ ops L j=true:=by
 rw[List.mem_filter,gq];exact⟨λh=>h.2,λh=>⟨Y5 h,h⟩⟩
structure Y6 (ops:Array Oper) (p:Nat->Bool) (σ:S) (o:Oper):Prop where
 is:nQ o=true
 want:fJ σ ops o=some true
 auz:∀y∈o.op.operands,(aG σ y).fD=true/\∀t,y = .tmp t->p t=false
 guard:∀g c t,o.guard=some (g,c)->(ops[g]?).bind (·.dst)=some t->p t=false
def ajU{x:A}{n:Nat}{z:V}(h:q9 x n=some z)(X:Type)(k:A -> ah X):Bj x n k=k (.lf (.v z)):=by
 unfold q9 at h;split at h
 ·split at h
  next xs _ _ C=>injection h with h;subst h;simp[Bj,C,Option.bind_some,yY]
  ·cases h
 ·cases h
def Y7{x:A}{n:Nat}{z:V}{g:Lf -> Lf}{G:A -> A}(C:∀ xs,G (.eU xs) = .eU (xs.map λp=>(p.1,p.2.map g)))(D:∀ z,g (.v z) = .v z)(h:q9 x n=some z):q9 (G x) n=some z:=by
 unfold q9 at h;split at h
 ·split at h
  next xs _ _ E=>injection h with h;subst h;rw[C];simp[q9,ef,E,Option.map_some,List.map_cons,List.map_nil,D]
  ·cases h
 ·cases h
def R4{v:A}(C:∀ q,v.drop q=v){rr d:Nat}{key:Nat -> aa Nat}:∀ (f j:Nat) (xs:aa Lf) (σ:S),gN rr key f j xs (σ.set d v)=(gN rr key f j xs σ).map λp=>(p.1,p.2.set d v)
 |_,_,[],σ=>by simp[gN]
 |0,j,x::xs,σ=>by cases x<;>simp[gN]
 | f+1,j,.v x :: xs,σ=>by
  simp only[gN,R4 C f];cases gN rr key f (j+1) xs σ<;>rfl
 | f+1,j,.own [q] :: xs,σ=>by
  simp only[gN];show (match σ.m q with
   |some (.sl z)=>_
   |_=>none)=_
  cases D:σ.m q with
  |none=>rfl
  | some y=>
   cases y with
   | sl z=>
    cases Nat.beq q rr with
    |true=>rfl
    | false=>
     simp only[av];rw[S.drop_set q (C q),R4 C f];cases gN rr key f (j+1) (xs.map (Lf.drop q)) (σ.drop q)<;>rfl
   |_=>rfl
 |f+1,j,.own []::xs,σ=>rfl
 |f+1,j,.own (_::_::_)::xs,σ=>rfl
 |f+1,j,.dead::xs,σ=>rfl
def R5{rr:Nat}{key:Nat -> aa Nat}{x n:Nat}{z:V}:∀ (f j:Nat) (xs:aa Lf) (σ C:S) (D:aa V),gN rr key f j xs σ=some (D,C) -> q9 (σ.t x) n=some z -> q9 (C.t x) n=some z
 | _,_,[],σ,C,D,h,E=>by
  simp only[gN]at h;simp_all
 |0,j,y::xs,σ,C,D,h,E=>by cases y<;>simp[gN]at h
 | f+1,j,.v y :: xs,σ,C,D,h,E=>by
  simp only[gN]at h;cases I:gN rr key f (j+1) xs σ with
  |none=>simp_all
  | some p=>
   rw[I]at h;injection h with h;injection h with _ h;subst h;exact R5 f (j+1) xs σ p.2 p.1 I E
 | f+1,j,.own [q] :: xs,σ,C,D,h,E=>by
  simp only[gN]at h;split at h
  ·cases O:Nat.beq q rr with
   |true=>simp_all
   | false=>
    rw[O,av]at h;cases I:gN rr key f (j+1) (xs.map (Lf.drop q)) (σ.drop q)with
    |none=>simp_all
    | some p=>
     rw[I]at h;injection h with h;injection h with _ h;subst h;refine R5 f (j+1) _ (σ.drop q) p.2 p.1 I ?_;exact Y7 (G:=A.drop q) (g:=Lf.drop q) (λ_=>rfl) (λ_=>rfl) E
  ·cases h
def ajV{d:Nat}{v:V}{t:TypeId}{x y:A}{I:S}(h:uq P (σ.set d (.lf (.v v))) t x y some=some I):∃ D,uq P σ t x y some=some D/\I=D.set d (.lf (.v v)) /\ ∀ (e n:Nat) (z:V),q9 (σ.t e) n=some z -> q9 (D.t e) n=some z:=by
 unfold uq at h;split at h
 ·rename_i n xs j i s rr hn mY;split at h
  ·rename_i hlen;cases O:xs.all Lf.live with
   |false=>simp_all
   | true=>
    rw[O,aq]at h;split at h
    ·rename_i vs τ1 C;rw[R4 (v:=.lf (.v v)) (λ_=>rfl)]at C;cases E:gN rr (λm=>(j+m) :: i :: s :: [rr]) xs.length 0 xs σ with
     |none=>simp_all
     | some p=>
      rw[E]at C;obtain⟨vs0,T⟩:=p;injection C with C;injection C with e1 e2;subst e1 e2;split at h
      ·rename_i U Y Z l gX;have ajW:T.m rr=some (.sl (.sl U (Y+2) Z l)):=gX;split at h
       ·rename_i oy;split at h
        ·rename_i hi;split at h
         ·rename_i hj;split at h
          ·rename_i e he;injection h with h
           refine⟨T.c8 [rr] [] [(rr,.sl (.sl U (Y+2) Z (l.set i e)))],?_,?_,λex nx z hz=>?_⟩
           ·simp[uq,hn,mY,aW hlen,O,aq,E,ajW,aW oy,aO hi,aW hj,he]
           ·rw[<- h];exact S.RE _ rfl
           ·exact Y7 (G:=A.c8 [rr] []) (λ_=>rfl) (λ_=>rfl) (R5 _ _ _ _ _ _ E hz)
          ·cases h
         ·cases h
        ·cases h
       ·cases h
      ·cases h
    ·cases h
  ·cases h
 ·cases h
def Y8{t:TypeId}{a b:Operand}(C:o.op = .store t a b)(D:o.dst=none)(E:xP (aG σ a) (aG σ b)=true):dy P N Φ σ o some=uq P σ t (aG σ a) (aG σ b) some:=by
 unfold dy;rw[show fD o.op=false by rw[C];rfl,av];simp[gY,C,D,E,aq]
theorem ajX[Inhabited Wd](dL:fC P Φ){K:S -> Prop}{f L i:Nat}{U:Oper}{τ:S}(hi:ops[i]?=some U)(hr:lJ ops L i=true)(D:Re ops L σ i=true)(gX:dn P N Φ ops σ U some=some τ)(H:Any P N Φ ops K f (L ||| 2 ^ i) τ):Any P N Φ ops K (f+1) L σ:=by
 unfold Re at D;rw[hi]at D;split at D
 ·rename_i oi' j0 e1 ajY;injection e1 with e1;subst e1;split at D
  ·rename_i x n d oj sN zV zW hj0;split at D
   ·rename_i ty a b Y Y9 Za;rw[aK,aK]at D;obtain⟨⟨c1,c2⟩,c3⟩:=D;obtain⟨z,hz⟩:=Option.isSome_iff_exists.1 c1;obtain⟨a1,a2,a3⟩:=Oper.apart_spec c3;have hpd:∀ j,j<ops.size -> j≠i -> L.testBit j=false -> j=j0:=by
     intro j E I O;have:j∈(List.range ops.size).filter (λj=>!(Nat.beq j i || L.testBit j)):=by
      rw[List.mem_filter];refine⟨gq.2 E,?_⟩;rw[O,Bool.or_false];cases Z:Nat.beq j i with
      |false=>rfl
      |true=>exact absurd (cH Z) I
     rw[ajY]at this;exact gL.1 this
    have rz:∀ σ2:S,q9 (σ2.t x) n=some z -> dn P N Φ ops σ2 U some=gM N σ2 (some d) (.lf (.v z)) some:=by
     intro σ2 h2;unfold dn;simp only[fJ,zW];unfold dy;rw[show fD U.op=true by rw[sN];rfl,aq,sN];simp only[me];rw[show aG σ2 (.tmp x)=σ2.t x from rfl,ajU h2,zV]
    have hN:∀ σ2:S,gM N σ2 (some d) (.lf (.v z)) some=some (σ2.set d (.lf (.v z))):=by
     intro σ2;rw[rz σ hz]at gX;obtain⟨_,g2⟩:=sL gX;exact(g2 σ2).at_ _
    have hE:τ=σ.set d (.lf (.v z)):=by
     grind
    rw[hE]at H
    refine RL (W:=0) hi (λj oj _ E=>by rw[Nat.zero_testBit]at E;cases E) (λσ=>σ.set d (.lf (.v z)))
     (λL' C=>q9 (C.t x) n=some z /\ ∀j,j<ops.size -> j≠i -> L'.testBit j=false -> j=j0/\xP (aG C a) (aG C b)=true)
     (λL' C hI=>(rz C hI.1).trans (hN C)) (λL' C j oj' sk hI T I O _ zU=>?_) f L σ (λj E=>by rw[Nat.zero_testBit]at E;cases E) hr
     ⟨hz,λj E I O=>⟨hpd j E I O,c2⟩⟩ H
    obtain⟨rfl,hg⟩:=hI.2 j (ic.1 T).1 I O;rw[hj0]at T;injection T with T;subst T;have ha:aG (C.set d (.lf (.v z))) a=aG C a:=DU (a1 d zV) _ (by rw[Y];simp[Op.operands]);have Z:aG (C.set d (.lf (.v z))) b=aG C b:=DU (a1 d zV) _ (by rw[Y];simp[Op.operands]);have jL:dn P N Φ ops (C.set d (.lf (.v z))) oj some=uq P (C.set d (.lf (.v z))) ty (aG C a) (aG C b) some:=by
     unfold dn;simp only[fJ,Za];rw[Y8 Y Y9 (by rw[ha,Z];exact hg),ha,Z]
    rw[jL]at zU;obtain⟨σ2,h1,h2,h3⟩:=ajV zU
    refine⟨σ2,?_,h2,h3 _ _ _ hI.1,λk hk Zb Zc=>?_⟩
    ·unfold dn;simp only[fJ,Za];rw[Y8 Y Y9 hg];exact h1
    ·grind
   ·cases D
  ·cases D
 ·cases D
theorem GZ[Inhabited Wd](dL:fC P Φ):∀ (f L:Nat) (σ:S) (k:S->ah X),ri P N Φ ops f L σ k=some r->Any P N Φ ops (λτ=>k τ=some r) f L σ
 | 0,L,σ,k,h=>by
  unfold ri at h;split at h
  ·rename_i hr
   refine⟨λj=>?_,h⟩
   cases Y:lJ ops L j with
   |false=>rfl
   |true=>have:=BX.2 Y;rw[hr]at this;cases this
  ·cases h
 | f+1,L,σ,k,h=>by
  unfold ri at h;split at h
  ·rename_i hr
   refine⟨λ_=>h,λj Y=>?_⟩
   have:=BX.2 Y;rw[hr]at this;cases this
  ·rename_i i hr;have hi:lJ ops L i=true:=BX.1 (by rw[hr];exact .head _)
   refine⟨λh=>absurd (h i) (by rw[hi];simp),λj Y=>?_⟩
   have Y:=BX.2 Y;rw[hr]at Y;obtain rfl:=gL.1 Y;split at h
   next o ho=>obtain⟨τ,h1,h2⟩:=Rx dL h;exact⟨o,τ,ho,h2,GZ dL f _ τ k (Ls h1)⟩
   ·cases h
  ·rename_i rs hn hs;split at h
   ·rename_i i hf;have hc:=List.find?_some hf;have hm:=List.mem_of_find?_eq_some hf;have hi:=BX.1 hm;split at h
    ·rename_i o ho;unfold Yh at hc;rw[ho,aK,aK,aK]at hc;obtain⟨⟨⟨c1,c2⟩,c3⟩,c4⟩:=hc;have c1:fD o.op=true\/fJ σ ops o=some false:=by
      rw[dZ]at c1
      refine c1.imp id λc1=>?_
      split at c1
      next b hb=>rw[hb];cases b<;>first|rfl|cases c1
      ·cases c1
     obtain⟨v,h1,hF,hN⟩:=ajQ c1 c4 h;have qd:=R3 _ _ c3;have c2:=cH c2;have G0:∀ j,(waits ops i ops.size 0 0).testBit j=true->(L ||| 2 ^ i).testBit j=false:=by
      intro j Y;have:((L |||2 ^ i) &&& waits ops i ops.size 0 0).testBit j=false:=by rw[c2];exact Nat.zero_testBit j
      rw[Nat.testBit_and,Y,Bool.and_true]at this;exact this
     have vN:∀ j,(waits ops i ops.size 0 0).testBit j=true->L.testBit j=false:=by
      intro j Y;have:=G0 j Y;rw[zR,mO]at this;exact this.1
     refine ajs (W:=waits ops i ops.size 0 0) (ok:=λt r=>!gP (jP t) ops i L (waits ops i ops.size 0 0) ops.size 0 && !gP (λok=>eM ok r) ops i L (waits ops i ops.size 0 0) ops.size 0 && !gP isApp ops i L (waits ops i ops.size 0 0) ops.size 0) (ru:=K5 Φ ops i L (waits ops i ops.size 0 0) σ) (mh:=mh Φ ops i L (waits ops i ops.size 0 0) σ) (mg:=mg Φ ops i L (waits ops i ops.size 0 0)) dL ho hN (λj C D Y=>?_) f L σ (λt r fk j C D O T U=>?_) (λx hx j C D O T U=>?_) (λx hx=>?_) (λt fk j C D O T U=>?_) (λt fk j C D O T U=>?_) (λj C D O T U=>?_) vN hi hF (GZ dL f _ _ k (Ls h1))
     ·have de:=(ic.1 D).1;rcases qd j (by omega) (by omega)with e | e | e | e
      ·subst e;have:=G0 j Y;rw[zR]at this;simp at this
      ·rw[vN j Y]at e;cases e
      ·exact Y3 D e.2
      ·rw[Y]at e;cases e.1
     ·have de:=(ic.1 D).1;rw[aK,aK,gk,gk,gk]at fk
      refine⟨λZ=>?_,?_,?_⟩
      ·have:=oQ (g:=jP t) ops.size 0 j (by omega) (by omega) O T U C D (by unfold jP;rw[Z];exact Nat.beq_refl t);rw[fk.1.1]at this;cases this
      ·cases hn:eM C r with
       |false=>rfl
       | true=>
        have:=oQ (g:=λok=>eM ok r) ops.size 0 j (by omega) (by omega) O T U C D hn;rw[fk.1.2]at this;cases this
      ·cases hn:isApp C with
       |false=>rfl
       | true=>
        have:=oQ (g:=isApp) ops.size 0 j (by omega) (by omega) O T U C D hn;rw[fk.2]at this;cases this
     ·have de:=(ic.1 D).1;unfold mh at hx;rw[aK]at hx;intro Z;have:=oQ (g:=jP x) ops.size 0 j (by omega) (by omega) O T U C D (by unfold jP;rw[Z];exact Nat.beq_refl x);rw[this]at hx;cases hx.1
     ·unfold mh at hx;rw[aK]at hx;have hx:=hx.2;cases hz:σ.t x with
      |aJ r j=>rw[hz]at hx;exact hx
      |iR cs=>trivial
      |_=>rw[hz]at hx;cases hx
     ·have de:=(ic.1 D).1;by_cases Z:C.dst=some t
      ·refine .inr ?_;have R6:jP t C=true:=by unfold jP;rw[Z];exact Nat.beq_refl t
       cases DX:vM C with
       | false=>
        cases G1:K4 Φ ops i L (waits ops i ops.size 0 0) σ C with
        | false=>
         have:=oQ (g:=λok=>jP t ok && !(vM ok ||K4 Φ ops i L (waits ops i ops.size 0 0) σ ok)) ops.size 0 j (by omega) (by omega) O T U C D (by rw[R6,DX,G1];rfl);unfold K5 at fk;rw[this]at fk;cases fk
        | true=>
         unfold K4 at G1;split at G1
         next s x f zX=>exact .inr ⟨s,x,f,zX,G1⟩
         ·cases G1
       | true=>
        refine .inl ⟨rfl,?_⟩;refine DZ ?_;unfold zM;rw[dZ]
        refine .inl (oQ (g:=λo=>eM o t) _ 0 j (by omega) (by omega) O T U C D ?_)
        obtain⟨ty,e,h1,_,h3,_⟩:=YH DX;unfold eM;rw[Z,h1];exact Nat.beq_refl t
      ·exact .inl Z
     ·have de:=(ic.1 D).1;by_cases Z:C.dst=some t
      ·refine .inr ?_;have R6:jP t C=true:=by unfold jP;rw[Z];exact Nat.beq_refl t
       cases vB:nQ C with
       | false=>
        cases hma:isApp C with
        |true=>exact .inr (.inl rfl)
        | false=>
         cases BV:zO Φ C with
         |true=>exact .inr (.inr rfl)
         | false=>
          have:=oQ (g:=λok=>jP t ok && !(nQ ok ||isApp ok ||zO Φ ok)) ops.size 0 j (by omega) (by omega) O T U C D (by rw[R6,vB,hma,BV];rfl);unfold mg at fk;rw[this]at fk;cases fk
       | true=>
        refine .inl ?_;have lI:eM C t=true:=by
         unfold nQ at vB;rw[aK]at vB;have h1:=vB.1;unfold eM;rw[Z];split at h1
         next Bt=>simp only[Bt];exact Nat.beq_refl t
         next Bt=>simp only[Bt];exact Nat.beq_refl t
         next Bt=>simp only[Bt];exact Nat.beq_refl t
         ·cases h1
        have h9:=oQ (g:=λo=>eM o t) ops.size 0 j (by omega) (by omega) O T U C D lI;refine⟨rfl,?_,?_⟩
        ·refine DZ ?_;unfold zM;rw[dZ];exact .inl h9
        ·unfold BS;rw[dZ];exact .inl h9
      ·exact .inl Z
     ·have de:=(ic.1 D).1;rcases qd j (by omega) (by omega)with e | e | e | e
      ·exact absurd e O
      ·rw[T]at e;cases e
      ·rw[U]at e;cases e.1
      ·obtain⟨e1,e2⟩:=e.2 C D
       refine⟨e2,?_,λn hn=>?_⟩
       ·rw[dZ,dZ,dZ]at e1;rcases e1 with ((e1 | e1) | e1) | e1
        ·exact .inl e1
        ·obtain⟨f',args,iM,c,g1,g2,g3,g4,g5⟩:=ajT e1
         refine .inr (.inl ⟨f',args,iM,c,g1,g2,g3,g4,λn hn=>?_⟩)
         refine DZ ?_;unfold zM;rw[dZ]
         refine .inr (oQ (g:=λo=>cP n (oM Φ σ o) ||cP n (zL σ o)) _ 0 j (by omega) (by omega) O T U C D ?_)
         rw[g5,uf.2 hn];rfl
        ·obtain⟨ty,t,y,g1,g2,g3,g4,g5⟩:=ajR e1;refine .inr (.inr (.inl ⟨ty,t,y,g1,g2,g3,?_⟩));cases hx:σ.t t with
         | aJ r' j'=>
          show zN Φ ops i L (waits ops i ops.size 0 0) σ r'=true;refine DZ ?_;unfold zM;rw[dZ]
          refine .inr (oQ (g:=λo=>cP r' (oM Φ σ o) ||cP r' (zL σ o)) _ 0 j (by omega) (by omega) O T U C D ?_)
          rw[g5 r' j' hx,dZ];exact .inr (uf.2 (.head _))
         |ptr k=>exact absurd hx (g4 k)
         |_=>trivial
        ·obtain⟨x,y,t1,t2,g1,g2,g3⟩:=ajS e1
         refine .inr (.inr (.inr ⟨x,y,t1,t2,g1,g2,g3,λr' fo=>⟨?_,?_⟩⟩))
         ·refine DZ ?_;unfold zM;rw[dZ]
          refine .inr (oQ (g:=λo=>cP r' (oM Φ σ o) ||cP r' (zL σ o)) _ 0 j (by omega) (by omega) O T U C D ?_)
          have:zL σ C=[r']:=by simp only[zL,g1,fo]
          rw[this,dZ];exact .inr (uf.2 (.head _))
         ·unfold BS;rw[dZ]
          refine .inr (oQ (g:=λo=>cP r' (K3 σ o)) _ 0 j (by omega) (by omega) O T U C D ?_)
          have:K3 σ C=[r']:=by simp only[K3,g1,fo]
          rw[this];exact uf.2 (.head _)
       ·have h9:=oQ (g:=λo=>eM o n) ops.size 0 j (by omega) (by omega) O T U C D hn;refine⟨?_,?_⟩
        ·refine DZ ?_;unfold zM;rw[dZ];exact .inl h9
        ·unfold BS;rw[dZ];exact .inl h9
    ·cases h
   ·split at h
    ·rename_i i hf;have hc:=List.find?_some hf;have hm:=List.mem_of_find?_eq_some hf;have hi:=BX.1 hm;split at h
     ·rename_i o ho;unfold Yi at hc;rw[ho,aK,aK,aK,aK,aK]at hc;obtain⟨⟨⟨⟨⟨c1,c2⟩,c3⟩,c4⟩,c5⟩,c6⟩:=hc;have qd:=R3 _ _ c3;have c2:=cH c2;have G0:∀ j,(waits ops i ops.size 0 0).testBit j=true->(L ||| 2 ^ i).testBit j=false:=by
       intro j Y;have:((L |||2 ^ i) &&& waits ops i ops.size 0 0).testBit j=false:=by rw[c2];exact Nat.zero_testBit j
       rw[Nat.testBit_and,Y,Bool.and_true]at this;exact this
      have vN:∀ j,(waits ops i ops.size 0 0).testBit j=true->L.testBit j=false:=by
       intro j Y;have:=G0 j Y;rw[zR,mO]at this;exact this.1
      obtain⟨τ,h1,h2⟩:=Rx dL h;generalize hp:(λn=>gP (λo=>DT o n) ops i L (waits ops i ops.size 0 0) ops.size 0)=p at c4 c5;have hpe:∀ j C e,ops[j]?=some C->j≠i->L.testBit j=false->(waits ops i ops.size 0 0).testBit j=false->C.dst=some e->p e=true:=by
       intro j C e D O T U Z;have de:=(ic.1 D).1;rw[<-hp];exact oQ (g:=λo=>DT o e) _ 0 j (by omega) (by omega) O T U C D (by unfold DT jP;rw[Z];exact Nat.beq_refl e)
      have BW:∀ j C,ops[j]?=some C->j≠i->L.testBit j=false->(waits ops i ops.size 0 0).testBit j=false->Rd ops i L (waits ops i ops.size 0 0) σ C=true/\o.apart ops C=true:=by
       intro j C D O T U;have de:=(ic.1 D).1;rcases qd j (by omega) (by omega)with e|e|e|e
       ·exact absurd e O
       ·rw[T]at e;cases e
       ·rw[U]at e;cases e.1
       ·exact e.2 C D
      have vB:∀ j C,ops[j]?=some C->j≠i->L.testBit j=false->(waits ops i ops.size 0 0).testBit j=false->Y6 ops p σ C:=by
       intro j C D O T U;have hb:=(BW j C D O T U).1;unfold Rd at hb;rw[aK,aK,aK]at hb;obtain⟨⟨⟨b1,b2⟩,b3⟩,b4⟩:=hb;have Le:∀t,gP (jP t) ops i L (waits ops i ops.size 0 0) ops.size 0=false->p t=false:=λt ht=>by rw[<-hp];exact ht
       refine⟨b1,?_,λy I=>?_,λg c t hg ht=>?_⟩
       ·split at b2
        next b xh=>rw[xh,b2]
        ·cases b2
       ·have:=bS.1 b3 y (by simpa using I);rw[aK]at this
        refine⟨this.1,λt ht=>?_⟩
        have h2:=this.2;rw[ht]at h2;exact Le t (by simpa using h2)
       ·rw[hg]at b4;simp only[ht]at b4;exact Le t (by simpa using b4)
      have xV:∀ n,20000<=n->p n=false:=by
       intro n hn;cases rq:p n with
       |false=>rfl
       | true=>
        rw[<-hp]at rq;obtain⟨k',R7,zY,rB,sO,sP,sQ⟩:=Y4 _ _ rq;have hm:=(vB k' R7 zY rB sO sP).is;unfold nQ at hm;rw[aK]at hm;have hm:=hm.2;unfold DT jP at sQ;split at sQ
        next e he=>rw[he]at hm;have h1:e=n:=cH sQ;subst h1;exact absurd (cu hm) (Nat.not_le_of_gt (Nat.lt_succ_of_le hn))
        ·cases sQ
      have hE:τ=(dn P N Φ ops σ o some).getD σ:=by rw[h2];rfl
      refine RL (W:=waits ops i ops.size 0 0) ho (λj C D Y=>?_) (λσ=>(dn P N Φ ops σ o some).getD σ)
       (λL' E=>((dn P N Φ ops E o some).isSome=true/\Rb E p o=true/\(oM Φ E o).all (xR E p)=true/\xQ E o=true)/\(∀ j,L'.testBit j=false->L.testBit j=false)/\
        ∀j C,ops[j]?=some C->j≠i->L'.testBit j=false->(waits ops i ops.size 0 0).testBit j=false->Y6 ops p E C)
       (λL' E hI=>?_) (λL' E j C sk hI D O T U gX=>?_) f L σ vN hi ⟨⟨by rw[h2];rfl,c4,c5,c6⟩,λ_ h=>h,vB⟩ (by rw[<-hE];exact GZ dL f _ τ k (Ls h1))
      ·have de:=(ic.1 D).1;rcases qd j (by omega) (by omega)with e | e | e | e
       ·subst e;have:=G0 j Y;rw[zR]at this;simp at this
       ·rw[vN j Y]at e;cases e
       ·exact Y3 D e.2
       ·rw[Y]at e;cases e.1
      ·obtain⟨z,hz⟩:=Option.isSome_iff_exists.1 hI.1.1;rw[hz];rfl
      ·obtain⟨⟨i1,i2,i3,i6⟩,i4,i5⟩:=hI;have ap:=(BW j C D O (i4 j T) U).2;obtain⟨m1,m2,m3,m4⟩:=i5 j C D O T U;obtain⟨a1,a2,a3⟩:=Oper.apart_spec ap;obtain⟨z,hz⟩:=Option.isSome_iff_exists.1 i1;have hEz:(dn P N Φ ops E o some).getD E=z:=by rw[hz];rfl
       have gX:dn P N Φ ops z C some=some sk:=by rw[<-hEz];exact gX
       have Zd:∀ t,(E.t t).fD=true->o.dst≠some t->z.t t=E.t t:=by
        intro t ht Z;unfold dn at hz;split at hz
        ·exact ajP dL c1 i6 hz ht Z
        ·obtain⟨g1,_⟩:=sL hz;injection g1 with g1;rw[<-g1];cases zV:o.dst with
         |none=>rfl
         |some d=>exact ck _ _ _ (by rintro rfl;exact Z zV)
        ·cases hz
       have ajZ:∀ g c t,C.guard=some (g,c)->(ops[g]?).bind (·.dst)=some t->(E.t t).fD=true\/E.t t = .skip:=by
        intro g c t hg ht;unfold fJ at m2;rw[hg]at m2;simp only[ht]at m2;split at m2
        next b hb=>left;rw[hb];rfl
        next hb=>exact .inr hb
        ·cases m2
       have zW:∀ g c t,C.guard=some (g,c)->(ops[g]?).bind (·.dst)=some t->o.dst≠some t:=by
        intro g c t hg ht Z;refine a1 t Z (List.mem_append_right _ ?_);rw[hg];simp only[ht];simp
       have R8:fJ z ops C=some true:=by
        rw[zP (σ:=E) λg c t hg ht=>?_]
        ·exact m2
        ·rcases ajZ g c t hg ht with h | h
         ·exact Zd t h (zW g c t hg ht)
         ·exfalso;unfold fJ at m2;rw[hg]at m2;simp only[ht,h]at m2;cases m2
       have aj0:∀ y∈C.op.operands,aG z y=aG E y:=by
        intro y I;cases y with
        | tmp t=>
         refine Zd t (m3 _ I).1 λZ=>?_
         exact a1 t Z (List.mem_append_left _ (List.mem_filterMap.2 ⟨.tmp t,by simpa using I,rfl⟩))
        |_=>rfl
       obtain⟨e,x,u,Z,he,hx,hu,zU,oO⟩:=Lg m1 R8 gX;have BY:=hpe j C e D O (i4 j T) U Z;have sn:=a3 e Z;have sM:∀ y∈o.op.operands,(aG E y).nr p=true/\y ≠ .tmp e:=by
        intro y I;refine⟨bS.1 i2 y (by simpa using I),?_⟩;rintro rfl;exact sn (List.mem_append_left _ (List.mem_filterMap.2 ⟨.tmp e,by simpa using I,rfl⟩))
       have zV:o.dst≠some e:=λh=>a2 e h Z
       have aj1:fJ (cr e x u E) ops o=fJ E ops o:=by
        have hw:∃ b,fJ E ops o=some b:=by
         unfold dn at hz;cases hw:fJ E ops o with
         |none=>rw[hw]at hz;cases hz
         |some b=>exact⟨b,rfl⟩
        obtain⟨b,hw⟩:=hw
        refine zP λg c t' yU Ze=>?_
        rw[rA,aX ?_]
        ·exact A.BG (p:=p) (pb:=p) (Ry hw g c t' yU Ze) BY BY
        ·rintro rfl;refine sn (List.mem_append_right _ ?_);rw[yU];simp only[Ze];simp
       have rz:dn P N Φ ops (cr e x u E) o some=some (cr e x u z):=by
        unfold dn at hz ⊢;rw[aj1];split at hz
        next hw=>exact ajO dL hx hu he BY xV c1 i6 zV sM (λn hn=>bS.1 i3 n hn) hz
        next hw=>obtain⟨g1,g2⟩:=sL hz;injection g1 with g1;refine((g2 (cr e x u E)).at_ _).trans ?_;rw[<-g1,ajt zV rfl]
        ·cases hz
       have R9:∀y∈o.op.operands,aG (cr e x u E) y=aG E y:=λy I=>xU (sM y I).1 BY (sM y I).2
       have hL:∀ k,(L' ||| 2 ^ j).testBit k=false->L'.testBit k=false/\k≠j:=by
        intro k hk;rw[zR,mO]at hk;refine⟨hk.1,?_⟩;rintro rfl;simp at hk
       refine⟨cr e x u E,oO E m2 (λy I=>(aj0 y I).symm),?_,⟨by rw[rz];rfl,?_,?_,?_⟩,λk hk=>i4 k (hL k hk).1,λk R7 hk Zb Zc hkW=>?_⟩
       ·rw[zU,rz];rfl
       ·unfold Rb;rw[bS];intro y I;rw[R9 y (by simpa using I)];exact(sM y (by simpa using I)).1
       ·have hrj:oM Φ (cr e x u E) o=oM Φ E o:=by
         unfold oM;split
         ·rename_i f' args iM zX;split
          ·refine GS _ _ λy I=>R9 y ?_
           rw[zX];simp only[Op.operands,Call.operands];simp only[Array.mem_append]
           first
            |exact .inr (by simpa using I)
            |exact .inl (by simpa using I)
          ·rfl
         ·rfl
        rw[hrj,bS];intro n hn;have h3:=bS.1 i3 n hn;have cm:n≠e:=by
         rintro rfl;have rq:p n=false:=by
          unfold oM at hn;split at hn
          ·rename_i f' args iM zX;split at hn
           ·refine GY _ _ (λy I=>(sM y ?_).1) n hn
            rw[zX];simp only[Op.operands,Call.operands];simp only[Array.mem_append]
            first
             |exact .inr (by simpa using I)
             |exact .inl (by simpa using I)
           ·cases hn
          ·cases hn
         rw[BY]at rq;cases rq
        unfold xR at h3 ⊢;rw[oP,aX cm];cases hm:E.m n with
        |none=>rfl
        | some y=>
         cases y with
         |sl=>rfl
         |mp=>rfl
         |gh=>rfl
         | aA cs=>
          rw[hm]at h3;simp only[Option.map_some,aQ.GO,qS.zI h3 BY];exact h3
       ·unfold xQ at i6 ⊢;split
        next ty t y zX=>rw[zX]at i6;have e1:(cr e x u E).t t=E.t t:=R9 (.tmp t) (by rw[zX];simp[Op.operands]);rw[e1];exact i6
        ·rfl
       ·obtain⟨n1,n2,n3,n4⟩:=i5 k R7 hk Zb (hL k Zc).1 hkW;have aj2:∀ t,p t=false->t≠e:=by rintro t ht rfl;rw[BY]at ht;cases ht
        have Zf:∀ t,(E.t t).fD=true->p t=false->(cr e x u E).t t=E.t t:=by
         intro t ht htp;rw[rA,aX (aj2 t htp)];exact A.Lr ht e
        refine⟨n1,?_,λy I=>?_,n4⟩
        ·rw[zP (σ:=E) λg c t hg ht=>?_]
         ·exact n2
         ·unfold fJ at n2;rw[hg]at n2;simp only[ht]at n2;split at n2
          next b hb=>exact Zf t (by rw[hb];rfl) (n4 g c t hg ht)
          next hb=>cases n2
          ·cases n2
        ·refine⟨?_,(n3 y I).2⟩;cases y with
         | tmp t=>
          show ((cr e x u E).t t).fD=true;rw[Zf t (n3 _ I).1 ((n3 _ I).2 t rfl)];exact(n3 _ I).1
         |const v=>exact(n3 _ I).1
         |global g=>exact(n3 _ I).1
         |func f=>exact(n3 _ I).1
     ·cases h
    ·split at h
     ·rename_i i hf;have hc:=List.find?_some hf;have hm:=List.mem_of_find?_eq_some hf;have hi:=BX.1 hm;split at h
      next o ho=>obtain⟨τ,h1,h2⟩:=Rx dL h;exact ajX dL ho hi hc h2 (GZ dL f _ τ k (Ls h1))
      ·cases h
     ·cases h
def D0{b:Bool}(h:fJ σ ops o=some b)(U:Rl w0 N af ρ σ a w):Region.wanted o (yielded ops a.tmps)=b:=by
 unfold fJ at h;split at h
 next I=>injection h with h;subst h;simp[Region.wanted,I]
 ·rename_i j want I;split at h
  ·rename_i t O;have D:=U.tmp t;rw[gT]at D;split at h
   ·rename_i c T;rw[T]at D;have E:=D.2.yV;injection h with h;subst h;cases C:a.tmps[t]? with
    |none=>rw[C]at E;cases E
    | some v=>
     rw[C]at E;subst E;simp only[Region.wanted,I,yielded,O,Option.bind_some,C];simp_all
   ·rename_i T;rw[T]at D;injection h with h;subst h;cases C:a.tmps[t]? with
    |none=>simp[Region.wanted,I,yielded,O,C]
    | some v=>
     rw[C]at D;have E:=D;subst E;simp only[Region.wanted,I,yielded,O,Option.bind_some,C,undef];simp_all
   ·cases h
  ·cases h
structure uy (ops:Array Oper) (Zg:Array Bool) (L:Nat):Prop where
 size:Zg.size=ops.size
 bit:∀j,j<ops.size->Zg[j]?=some (L.testBit j)
 out:∀j,ops.size<=j->L.testBit j=false
def uy.Zh{C:Array Bool}{L:Nat}(h:uy ops C L)(j:Nat):C.getD j false=L.testBit j:=by
 rw[gT];by_cases D:j<ops.size
 ·rw[h.bit j D];rfl
 ·rw[h.out j (by omega),Array.getElem?_eq_none (by rw[h.size];omega)];rfl
def uy.ready{U:Array Bool}{L:Nat}(h:uy ops U L)(j:Nat):j∈Region.ready .any ops U ↔ lJ ops L j=true:=by
 rw[mem_ready,GW];constructor
 ·rintro⟨D,o,C,E⟩;have I:=(ic.1 C).1;rw[gT,h.bit j I]at D;exact⟨D,o,C,λe O T=>by rw[<-h.Zh];exact E e O T⟩
 ·rintro⟨D,o,C,E⟩;have I:=(ic.1 C).1;exact⟨by rw[gT,h.bit j I];exact D,o,C,λe O T=>by rw[h.Zh];exact E e O T⟩
def uy.set{D:Array Bool}{L i:Nat}(h:uy ops D L)(hi:i<ops.size):uy ops (D.setIfInBounds i true) (L ||| 2 ^ i):=by
 refine⟨by simp[h.size],λj C=>?_,λj C=>?_⟩
 ·rw[zR];by_cases E:i=j
  ·subst E;rw[Array.getElem?_setIfInBounds_self_of_lt (by rw[h.size];exact hi)];simp
  ·rw[Array.getElem?_setIfInBounds_ne E,h.bit j C];simp_all
 ·rw[zR,h.out j C]
  grind
def uy.start:uy ops (Array.replicate ops.size false) 0:=
 ⟨by simp,λj C=>by simp[C],λj _=>Nat.zero_testBit j⟩
def aj3(Z:fC P Φ){k:S -> ah X}{i:Nat}(hi:ops[i]?=some o)(h:dn P N Φ ops σ o k=some r):∃ I,k I=some r /\ ∀ a w (K:Act -> World -> Prop) (Q:Exit -> Act -> World -> Prop),R w0 N σ a w -> (∀ U w',R w0 N I U w' -> K U w') -> wpOp P ops Q i K a w:=by
 unfold dn at h;split at h
 ·rename_i O;obtain⟨I,h1,sN⟩:=Ri Z h
  refine⟨I,h1,λa w K Q D E=>?_⟩
  obtain⟨af,ρ,C⟩:=D;unfold wpOp;rw[hi];simp[D0 O C];exact .inl (sN a w K Q ⟨af,ρ,C⟩ E)
 ·rename_i O;unfold gM at h;split at h
  ·rename_i T
   refine⟨σ,h,λa w K Q D E=>?_⟩
   obtain⟨af,ρ,C⟩:=D;unfold wpOp;rw[hi];simp[D0 O C,T];exact E _ _ ⟨af,ρ,C⟩
  ·rename_i d T;cases Y:Nat.blt d N with
   |false=>simp_all
   | true=>
    rw[Y,aq]at h
    refine⟨_,h,λa w K Q D E=>?_⟩
    obtain⟨af,ρ,C⟩:=D;unfold wpOp;rw[hi];simp only[D0 O C,T];exact E _ _ ⟨af,ρ,C.set rfl (by have:=cu Y;omega)⟩
 ·cases h
def Zi(Y:fC P Φ){K:S -> Prop}{Q:Exit -> Act -> World -> Prop}(O:∀ T,K T -> ∀ a w,R w0 N T a w -> Q .normal a w):
  ∀(f L:Nat) (σ:S) (E:Array Bool),Any P N Φ ops K f L σ -> uy ops E L -> ∀a w,R w0 N σ a w -> wpAny P .any ops Q f E a w
 | 0,L,σ,E,h,D,a,w,I=>by
  refine⟨List.eq_nil_iff_forall_not_mem.2 λj C=>?_,O σ h.2 a w I⟩
  rw[D.ready,h.1]at C;cases C
 | f+1,L,σ,E,h,D,a,w,I=>by
  refine⟨λhr=>O σ (h.1 λj=>?_) a w I,λj C=>?_⟩
  ·cases C:lJ ops L j with
   |false=>rfl
   | true=>
    have:=(D.ready j).2 C;simp_all
  ·have Z:=(D.ready j).1 C;obtain⟨o,T,ho,hd,hA⟩:=h.2 j Z;obtain⟨sk,U,hw⟩:=aj3 Y ho hd;injection U with U;subst U;exact hw a w _ Q I λa' w' dm=>Zi Y O f _ _ _ hA (D.set (Y5 Z)) a' w' dm
def R.drawn(C:R w0 N σ a w):R w0 N σ a { w with drawn:=w.drawn+1 }:=by
 obtain⟨af,ρ,h⟩:=C;exact⟨af,ρ,h.grow ⟨rfl,rfl,rfl,dH _,λ_ _=>rfl⟩ (λ_ _=>rfl) (λb k D E=>absurd (h.cN b k E).2.1 (Nat.not_lt.2 D))⟩
theorem aj4[Inhabited Wd](C:fC P Φ){id:Nat}{k:S->ah X}(E:P.follows .mixedOrders=true)(h:ri P N Φ ops ops.size 0 σ k=some r){Q:Exit->Act->World->Prop}(I:∀ D,k D=some r->∀ a w,R w0 N D a w->Q .normal a w)(O:R w0 N σ a w):
  (Code.region id ops true).wp P Q a w:=
 wp_region_any E (Zi C I _ _ _ _ (GZ C _ _ _ _ h) uy.start a _ O.drawn)
/-! Values. -/
end
end Go.Proofs.YtgjfmljpdnnihaaGreat
