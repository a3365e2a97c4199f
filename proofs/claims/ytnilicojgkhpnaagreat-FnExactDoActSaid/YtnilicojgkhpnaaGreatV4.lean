/-
  Running the program over pure contents, and that it follows (part 4). Nothing here is a claim.
-/
import Derived.Test.YtnilicojgkhpnaaGreatV3
set_option linter.unusedSimpArgs false
namespace Go.Proofs.YtnilicojgkhpnaaGreat
set_option linter.defProp false
open Go.RowKit
set_option linter.unusedVariables false
def gw(σ:S):ah Tmp->A->S
 |none,_=>σ
 |some d,v=>σ.set d v
section
variable {P:Program} {w w':World} {w0:Wd} {B N:Nat} {aj aD:bK} {ρ ρ':Nat->Loc} {σ:S} {a:Act} {X:Type} {d:Nat} {r:X} {o:Oper} {Φ:eK} {p pb:Nat->Bool} {e:Nat} {x:bh} {u:A} {ops:Array Oper}
def sJ{C:ah Tmp}{x:A}{k:S -> ah X}(h:iy N σ C x k=some r):k (gw σ C x)=some r /\ ∀ (σ2:S),mK (λX k=>iy (X:=X) N σ2 C x k) (gw σ2 C x):=by
 unfold iy at h;split at h
 ·exact⟨h,λ_ X k=>rfl⟩
 ·rename_i d;cases D:Nat.blt d N with
  |false=>simp_all
  |true=>rw[D]at h;exact⟨h,λ_ X k=>by simp[iy,D];rfl⟩
def Ji{f:Nat}{c:jb}(C:fX P Φ)(h:Φ f=some (.p c)):iH P f c:=(C f _ h).2
def qOK{f:Nat}{c:jb}(C:fX P Φ)(h:Φ f=some (.q c)):iH P f c:=(C f _ h).2
def ash{f:Nat}{C:ah Tmp}{c:tV}{xs:aa A}(D:fX P Φ)(h:Φ f=some (.i c)):cP λX k=>I1 (X:=X) N σ C c xs k:=λX Y k g=>
 ((D f _ h).2.1 N σ xs X Y _ g).trans (aZ (c.run Y N σ xs) (funext λE=>funext λy=>xJ X Y k g))
def aeJ(C:fX P Φ):cP λX k=>dX (X:=X) P N Φ σ o k:=λX Y k g=>by
 unfold dX
 refine dz ((XM.comp λv=>xJ) X Y k g) ?_
 unfold iU hD qZ zX zx xK zo
 repeat' first
  |rfl
  |exact Pd _ _ _ _
  |exact aef _ _ _ _
  |exact arz _ _ _ _
  |exact aei (Ji C (by assumption)) E0 _ _ _ _
  |exact Xz _ _ _ _
  |exact arF _ _ _ _
  |exact ash C (by assumption) _ _ _ _
  |exact aq2 (λ_=>Xz) _ _ _ _
  |exact aei (qOK C (by assumption)) aeh _ _ _ _
  |exact arM _ _ _ _
  |exact arx _ _ _ _
  |exact ar3 _ _ _ _
  |exact ari _ _ _ _
  |exact arS _ _ _ _
  |exact(arT.comp λv=>xJ) X Y k g
  |exact arU _ _ _ _
  |exact xJ _ _ _ _
  |exact(apY.comp λv=>xJ) X Y k g
  |refine dz ?_ ?_
  |split
def jd.bp{σ C:S}(h:jd p pb σ C){t r j:Nat}(D:σ.t t = .aH r j)(E:pb r=false):C.t t = .aH r j:=by
 rw[<-D];exact h.t (by rw[D];simpa [A.pM,A.fr,vS]using E)
def jT(p:Nat->Bool):A->Prop
 |.aH r _=>p r=true
 |.ptr _=>False
 |_=>True
def jd.st{D:Nat->Bool}{σ C:S}(h:jd p pb σ C){t:Nat}(E:jT D (σ.t t)):jT D (C.t t):=by
 rcases h.nw t with e|e
 ·rw[e];exact E
 ·revert e;cases C.t t<;>simp[A.xQ,jT]
def jd.XR{σ C:S}(h:jd p pb σ C){x:Operand}(D:(aL σ x).pM p pb=true):aL C x=aL σ x:=by
 cases x with
 |tmp t=>exact h.t D
 |const v=>rfl
 |global g=>rfl
 |func f=>rfl
def jd.val{σ U:S}(h:jd p pb σ U){E:Op}{v:A}(D:mK (λX k=>mP (X:=X) P σ E k) v)(T:∀ y∈E.operands,(aL σ y).pM p pb=true)(Z:v.pM p pb=true)(O:∀ t y r j,E = .load t y->aL σ y = .aH r j->p r=false):mK (λX k=>mP (X:=X) P U E k) v:=by
 intro X k
 refine(aeB E (λy L=>⟨h.XR (T y L),λq e X k=>PC h.sl q k (aeI (T y L) e)⟩) (λt y e k=>?_) k).trans (D X k)
 subst e;have D:mK (λX k=>od (X:=X) P σ t (aL σ y) k) v:=D;have L:=T y (by simp[Op.operands]);have O:=λr j=>O t y r j rfl
 generalize aL σ y=u at D L O;by_cases Y:∃r j,u = .aH r j
 ·obtain⟨r,j,rfl⟩:=Y;have C:od P σ t (.aH r j) some=some v:=D A some;rw[D.at_ k];simp only[od]at C ⊢;split at C
  ·cases C
  ·split at C
   next cs gI=>obtain⟨f,e1,e2⟩:=h.aB r (O r j rfl) cs gI;obtain⟨z,⟨⟩,e4⟩:=Pc.nK C;rw[e1];simp only[];rw[<-List.map_drop,<-List.map_take,List.map_congr_left λl hl=>e2 l (asf C Z l hl),List.map_id'];exact e4.at_ k
   ·cases C
 ·exact Sm.load (λq e X k=>PC h.sl q k (aeI L e)) (λr j e=>absurd ⟨r,j,e⟩ Y) k
def XS:∀ (xs:aa V) (c:Nat) (σ:S),(∀ n,c <= n -> p n=true/\pb n=true) -> jd p pb σ (mL c σ xs)
 |[],c,σ,h=>.refl σ
 | x :: xs,c,σ,h=>by
  simp[mL];cases D:x.aF with
  |true=>exact XS xs _ σ (λn C=>h n (by omega))
  |false=>exact .trans (.root c (.sl x) (h c (dQ _)).1 (h c (dQ _)).2 (.refl σ)) (XS xs (c+1) _ (λn C=>h n (by omega)))
def XT:∀ (ps:aa Pt) (c:Nat) (σ:S),(∀ n,c<=n->p n=true/\pb n=true)->jd p pb σ (pI c σ ps)
 |[],c,σ,h=>.refl σ
 |q::ps,c,σ,h=>(XS q.2 c σ h).trans (XT ps _ _ (λn C=>h n (by omega)))
def Aa{σ2:S}{ops:Array Oper}(h:∀ g b t,o.guard=some (g,b) -> (ops[g]?).bind (·.dst)=some t -> σ2.t t=σ.t t):fZ σ2 ops o=fZ σ ops o:=by
 unfold fZ
 grind
def ru(p pb:Nat->Bool)(x:A):Prop:=∀r,x = .lf (.own [r])->p r=true/\pb r=true
def jd.tg{C D:Nat->Bool}{σ E:S}(h:jd p pb σ E){t:Nat}(L:ru C D (σ.t t)):ru C D (E.t t):=by
 rcases h.nw t with e|e
 ·rw[e];exact L
 ·intro r O;rw[O]at e;cases e
structure sK (P:Program) (N:Nat) (Φ:eK) (o:Oper) (p pb:Nat->Bool) (qk τ:S) where
 G:S->S
 u:A
 eq:τ=gw (G qk) o.dst u
 run:∀σ2:S,(∀x∈o.op.operands,aL σ2 x=aL qk x)->σ2.m=qk.m->dX P N Φ σ2 o some=some (gw (G σ2) o.dst u)
 grow:∀σ,jd p pb σ (G σ)
 set:∀(σ:S) d v,(A.pM p pb v)=true->G (σ.set d v)=(G σ).set d v
 bp:isApp o=false->∀(σ:S) t r j,σ.t t = .aH r j->fR o r=false->(G σ).t t = .aH r j
theorem sK.new{D:S}{d:Nat}(E:o.dst=some d)(C:p d=true/\pb d=true)(T:fR o d=true)(x:bh)(u:A){L:S}(e:L=((D.drop d).root d x).set d u)
  (U:∀σ2:S,(∀x∈o.op.operands,aL σ2 x=aL D x)->dX P N Φ σ2 o some=some (((σ2.drop d).root d x).set d u)):Nonempty (sK P N Φ o p pb D L):=
 ⟨{ G:=λσ=>(σ.drop d).root d x,u:=u,eq:=by rw[E];exact e,run:=λσ2 h _=>by rw[U σ2 h,E];rfl,grow:=λσ=>.root d x C.1 C.2 (.refl σ),
    set:=λσ e v Y=>by rw[S.drop_set d (A.E1 Y C.1 C.2)];rfl
    bp:=λ_ σ t r j Z O=>by
     show A.drop d (σ.t t)=_;rw[Z];exact A.qT (by simp only[A.fr,xd];rw[o6 (by rintro rfl;rw[T]at O;cases O)];rfl) }⟩
def aeK{d:Nat}{C:gj}{D:S}(h:oq σ d C some=some D):∃ (ps:aa Pt) (u:A),∀ σ,oq σ d C some=some ((pI (1000000000100000+1000*d) σ ps).set d u):=by
 unfold oq at h ⊢;split at h
 ·rename_i q;split at h
  next y E=>exact⟨[q],y,λσ=>rfl⟩
  ·cases h
 ·exact⟨_,_,λσ=>rfl⟩
theorem aeL{f d:Nat}{c:jb}{T:S}{ev:S->(X:Type)->(aa Pt->ah X)->ah X}(U:o.dst=some d)(E:∀ n,1000000000100000+1000*d<=n->fR o n=true)(Z:∀ n,fR o n=true->p n=true/\pb n=true)(hc:iH P f c)(C:cP (ev σ))
  (XA:∀σ2:S,(∀x∈o.op.operands,aL σ2 x=aL σ x)->σ2.m=σ.m->∀(X:Type) (k:aa Pt->ah X),ev σ2 X k=ev σ X k) (dP:∀σ2,dX P N Φ σ2 o some=sy N σ2 d c (ev σ2 S) some) (h:sy N σ d c (ev σ S) some=some T):Nonempty (sK P N Φ o p pb σ T):=by
 obtain⟨res,sr,D,L,h3⟩:=Pf hc C h;injection L with L;subst L;obtain⟨ps,u,Y⟩:=aeK D;have O:∀n,1000000000100000+1000*d<=n->p n=true/\pb n=true:=λn C=>Z n (E n C)
 rw[Y]at D;injection D with D;exact⟨{ G:=λσ=>pI (1000000000100000+1000*d) σ ps,u:=u,eq:=by rw[U];exact D.symm,run:=λσ2 sL hm=>by rw[dP,U];exact(h3 σ2 _ _ (XA σ2 sL hm) (Y σ2)).at_ _,grow:=λσ=>XT ps _ σ O,set:=λσ e v hv=>aek v ps _ σ λn C=>A.E1 hv (O n C).1 (O n C).2,bp:=λ_ σ t r j ht hr=>(XT (p:=fR o) (pb:=fR o) ps _ σ (λn C=>⟨E n C,E n C⟩)).bp ht hr }⟩
theorem asi[Inhabited Wd](eE:fX P Φ){τ:S}(E:Pw Φ o.op=true)(hp:∀ n,fR o n=true->p n=true/\pb n=true)(h:dX P N Φ σ o some=some τ):Nonempty (sK P N Φ o p pb σ τ):=by
 have h0:=h;unfold dX at h;cases hv:fY o.op with
 | true=>
  rw[hv,au]at h;obtain⟨v,L,D,_⟩:=XN (w0:=default) (N:=N) h;obtain⟨T,h3⟩:=sJ L;injection T with T
  refine⟨{ G:=λσ=>σ,u:=v,eq:=T.symm,run:=λσ2 C hm=>?_,grow:=.refl,set:=λ_ _ _ _=>rfl,bp:=λ_ _ _ _ _ h _=>h }⟩
  unfold dX;rw[hv,au,aeC o.op hm C];refine(D.at_ _).trans ?_;exact(h3 σ2).at_ _
 | false=>
  rw[hv,aq]at h;have Z:∀σ2,dX P N Φ σ2 o some=iU P N Φ σ2 o some:=λσ2=>by unfold dX;rw[hv,aq]
  unfold iU at h Z;unfold Pw at E;rw[hv,Bool.false_or]at E;split at h
  ·rename_i e C;obtain⟨d,D,h⟩:=ku h;obtain⟨x,y,L,_,T⟩:=arh h;injection L with L;have U:fR o d=true:=by unfold fR;rw[D,C];exact Nat.beq_refl d
   refine sK.new D (hp d U) U x y L.symm λσ2 _=>?_
   rw[Z,C];simp only[hD,D];exact(T σ2).at_ _
  ·rename_i e x C;obtain⟨d,D,h⟩:=ku h;obtain⟨y,u,L,T⟩:=arn h;injection L with L;have U:fR o d=true:=by unfold fR;rw[D,C];exact Nat.beq_refl d
   refine sK.new D (hp d U) U _ _ L.symm λσ2 O=>?_
   rw[Z,C];simp only[hD,D];rw[O x (by rw[C];simp[Op.operands])];exact(T σ2).at_ _
  ·rename_i t len parts C;obtain⟨d,D,h⟩:=ku h;have U:fR o d=true:=by unfold fR;rw[D,C];exact Nat.beq_refl d
   cases hn:qm t with
   | true=>
    rw[hn,au]at h;obtain⟨y,u,L,T⟩:=arq h;injection L with L
    refine sK.new D (hp d U) U _ _ L.symm λσ2 O=>?_
    rw[Z,C];simp only[hD,D,hn,au]
    refine(T σ2 λq hq=>O _ ?_).at_ _
    rw[C];simp only[Op.operands];exact List.mem_toArray.2 (List.mem_map_of_mem (f:=(·.2)) hq)
   | false=>
    rw[hn,aq]at h;obtain⟨y,L,T⟩:=aed h;injection L with L
    refine sK.new D (hp d U) U _ _ L.symm λσ2 O=>?_
    rw[Z,C];simp only[hD,D,hn,aq]
    refine(T σ2 λq hq=>O _ ?_).at_ _
    rw[C];simp only[Op.operands];exact List.mem_toArray.2 (List.mem_map_of_mem (f:=(·.2)) hq)
  next t x y C=>rw[C]at E;cases E
  ·rename_i t l c C;obtain⟨d,D,h⟩:=ku h;obtain⟨y,L,T⟩:=aec h;injection L with L;have U:fR o d=true:=by unfold fR;rw[D,C];exact Nat.beq_refl d
   refine sK.new D (hp d U) U _ _ L.symm λσ2 O=>?_
   rw[Z,C];simp only[hD,D];rw[O l (by rw[C];simp[Op.operands]),O c (by rw[C];simp[Op.operands])];exact(T σ2).at_ _
  ·rename_i f args nM C;have aeM:∀ σ2:S,(∀ x∈o.op.operands,aL σ2 x=aL σ x)->∀ x∈args.toList,aL σ2 x=aL σ x:=λσ2 O x hx=>O x (by
    rw[C];simp only[Op.operands,Call.operands,Array.mem_append]
    first
     |exact .inr (by simpa using hx)
     |exact .inl (by simpa using hx))
   have nm:∀d,o.dst=some d->∀n,1000000000100000+1000*d<=n->fR o n=true:=λd D n hn=>by unfold fR;rw[D,C];exact jn hn
   split at h
   next c Y=>obtain⟨d,D,h⟩:=ku h;exact aeL D (nm d D) hp (Ji eE Y) (ev:=λσ X k=>sv σ args.toList k) E0 (λσ2 O hm X k=>ar8 hm _ _ (aeM σ2 O)) (λσ2=>by rw[Z,C];simp only[Y,hD,D];rfl) h
   iterate 5 (rename_i c Y;rw[C]at E;simp[Y]at E)
   next c Y=>obtain⟨d,D,h⟩:=ku h;exact aeL D (nm d D) hp (qOK eE Y) (ev:=λσ X k=>BZ σ args.toList k) aeh (λσ2 O hm X k=>asa hm _ _ (aeM σ2 O)) (λσ2=>by rw[Z,C];simp only[Y,hD,D];rfl) h
   next c Y=>rw[C]at E;simp[Y]at E
   ·cases h
  next x y t t' C=>rw[C]at E;cases E
  next t C=>rw[C]at E;cases E
  next t x i C=>rw[C]at E;cases E
  next t x i v C=>rw[C]at E;cases E
  next t args nM C=>rw[C]at E;cases E
  next f aeA C=>rw[C]at E;cases E
  next x t C=>rw[C]at E;cases E
  ·cases h
def aeN(C:fX P Φ){ops:Array Oper}:cP λX k=>dL (X:=X) P N Φ ops σ o k:=λX Y k g=>by
 unfold dL;split
 ·exact aeJ C _ _ _ _
 ·exact xJ _ _ _ _
 ·rfl
theorem XU[Inhabited Wd](D:fX P Φ){ops:Array Oper}{k:S->ah X}(h:dL P N Φ ops σ o k=some r):∃ C,k C=some r/\dL P N Φ ops σ o some=some C:=
 let ⟨C,E,L⟩:=(aeN D).nK h
 ⟨C,E,L S some⟩
def XV{ops:Array Oper}{b:Bool}(h:fZ σ ops o=some b):∀ g c t,o.guard=some (g,c) -> (ops[g]?).bind (·.dst)=some t -> (σ.t t).pM p pb=true:=by
 intro g c t C D;unfold fZ at h;rw[C]at h;simp[D]at h;split at h
 next hb=>rw[hb];rfl
 next hb=>rw[hb];rfl
 ·cases h
def E6{ops:Array Oper}{d:Nat}(h:d ∉ o.looksAt ops)(v:A){x:Operand}(C:x∈o.op.operands):aL (σ.set d v) x=aL σ x:=by
 cases x with
 | tmp t=>
  have:t≠d:=by
   rintro rfl;exact h (List.mem_append_left _ (List.mem_filterMap.2 ⟨.tmp t,by simpa using C,rfl⟩))
  exact cR _ _ _ this
 |_=>rfl
def XW{ops:Array Oper}{d:Nat}(h:d ∉ o.looksAt ops)(v:A):∀ g b t,o.guard=some (g,b) -> (ops[g]?).bind (·.dst)=some t -> (σ.set d v).t t=σ.t t:=by
 intro g b t C D;have:t≠d:=by
  rintro rfl;refine h (List.mem_append_right _ ?_);simp_all
 exact cR _ _ _ this
def mS(P:Program)(ops:Array Oper)(C:Oper)(p pb:Nat->Bool)(v:A)(σ:S):Prop:=
 (fZ σ ops C=some true/\fY C.op=true/\mK (λX k=>mP (X:=X) P σ C.op k) v/\(∀y∈C.op.operands,(aL σ y).pM p pb=true)/\v.pM p pb=true/\∀t y r j,C.op = .load t y->aL σ y = .aH r j->p r=false)\/(fZ σ ops C=some false/\v = .skip)
def mS.grow{ops:Array Oper}{U:Oper}{v:A}(h:mS P ops U p pb v σ){Y:S}(C:jd p pb σ Y):mS P ops U p pb v Y:=by
 rcases h with ⟨D,L,h3,E,Z,h6⟩|⟨D,L⟩
 ·refine .inl ⟨?_,L,C.val h3 E Z h6,λy hy=>?_,Z,λt y r j e h=>?_⟩
  ·rw[Aa λg b t O T=>C.t (XV D g b t O T)];exact D
  ·rw[C.XR (E y hy)];exact E y hy
  ·exact h6 t y r j e (by rw[<-C.XR (E y (by rw[e];simp[Op.operands]))];exact h)
 ·refine .inr ⟨?_,L⟩;rw[Aa λg b t O T=>C.t (XV D g b t O T)];exact D
def mS.set{ops:Array Oper}{D:Oper}{v u:A}(h:mS P ops D p pb v σ){d:Nat}(C:d ∉ D.looksAt ops):mS P ops D p pb v (σ.set d u):=by
 rcases h with ⟨E,L,T,U,Y,Z⟩|⟨E,L⟩
 ·refine .inl ⟨?_,L,λX k=>?_,λy O=>?_,Y,λt y r j e h=>?_⟩
  ·rw[Aa (XW C u)];exact E
  ·exact(aeC (σ:=σ) (σ2:=σ.set d u) D.op rfl (λx hx=>E6 C u hx) k).trans (T.at_ k)
  ·rw[E6 C u O];exact U y O
  ·exact Z t y r j e (by rw[<-E6 C u (by rw[e];simp[Op.operands])];exact h)
 ·refine .inr ⟨?_,L⟩;rw[Aa (XW C u)];exact E
def mS.put{ops:Array Oper}{C:Oper}{v u:A}(h:mS P ops C p pb v σ){D:ah Tmp}(E:∀ d,D=some d->d ∉ C.looksAt ops):mS P ops C p pb v (gw σ D u):=by
 cases D with
 |none=>exact h
 |some d=>exact h.set (E d rfl)
def mS.nr{ops:Array Oper}{C:Oper}{v:A}(h:mS P ops C p pb v σ):v.pM p pb=true:=by
 rcases h with ⟨_,_,_,_,D,_⟩|⟨_,E⟩
 ·exact D
 ·rw[E];rfl
def aeO{x y:ah Tmp}(v u:A)(h:∀ d,x=some d->y≠some d):gw (gw σ x v) y u=gw (gw σ y u) x v:=by
 cases x with
 |none=>rfl
 | some d=>cases y with
  |none=>rfl
  |some e=>exact S.set_set (λC=>h d rfl (aZ some C)) v u
def asj(x:ah Tmp)(v:A):(gw σ x v).m=σ.m:=by cases x<;>rfl
def XX{ops:Array Oper}{C:ah Tmp}(h:∀ d,C=some d->d ∉ o.looksAt ops)(v:A){x:Operand}(D:x∈o.op.operands):aL (gw σ C v) x=aL σ x:=by
 cases C with
 |none=>rfl
 |some d=>exact E6 (h d rfl) v D
def asl{ops:Array Oper}{C:ah Tmp}(h:∀ d,C=some d->d ∉ o.looksAt ops)(v:A):fZ (gw σ C v) ops o=fZ σ ops o:=by
 cases C with
 |none=>rfl
 |some d=>exact Aa (XW (h d rfl) v)
/-! Calls that write blocks alone. -/
def S.asm{ns:aa Nat}{nr:aa (Nat×bh)}(v:A)(h:v.fo ns []=v):(σ.set d v).fo ns [] nr=(σ.fo ns [] nr).set d v:=by
 refine S.ext' (λk=>?_) λ_=>rfl
 show (cg σ.t d v k).fo ns []=cg (λk=>(σ.t k).fo ns []) d v k;by_cases C:k=d
 ·subst C;rw[cv,cv];exact h
 ·rw[cR _ _ _ C,cR _ _ _ C]
def XY{n:Nat}{x:bh}:∀ {l:aa (Nat×bh)},l.lookup n=some x -> (n,x)∈l
 |[],h=>by cases h
 | q :: l,h=>by
  rw[List.lookup_cons]at h;cases hb:n==q.1 with
  |true =>grind
  |false=>rw[hb]at h;exact .tail _ (XY h)
def Calm(Φ:eK)(ok:Nat->Nat->Bool)(rz mQ p pb:Nat->Bool)(σ:S)(o:Oper):Prop:=
 Pw Φ o.op=true\/False\/
 (∃ty t y,o.op = .store ty (.tmp t) y/\o.dst=none/\rz t=true/\jT p (σ.t t))\/
 ∃x y t C,o.op = .call ⟨.builtin .append,⟨[.tmp x,y]⟩,⟨[t,C]⟩⟩/\mQ x=true/\(qm t=false/\Nat.beq t C=true/\Cl o.dst t (.tmp x)=false)/\ru p pb (σ.t x)
theorem asn{Z:S}{ty:TypeId}{t:Tmp}{y:Operand}(L:o.op = .store ty (.tmp t) y)(Y:o.dst=none)(C:jT p (σ.t t))(h:dX P N Φ σ o some=some Z):Nonempty (sK P N Φ o p pb σ Z):=by
 have IS:∀ (x:A) (z:A),(∀ k,x ≠ .ptr k) -> xN x z=false:=by
  intro x z E;unfold xN;split
  ·grind
  ·rfl
 have dP:∀ σ2:S,(∀ k,σ2.t t ≠ .ptr k) -> dX P N Φ σ2 o some=qe P σ2 ty (σ2.t t) (aL σ2 y) some:=by
  intro σ2 PD;unfold dX;rw[show fY o.op=false by rw[L];rfl,aq];simp only[iU,L,Y];rw[show xN (aL σ2 (.tmp t)) (aL σ2 y)=false from IS _ _ PD,aq];rfl
 rw[dP σ (λk O=>by rw[O]at C;exact C)]at h;cases E:σ.t t with
 | aH D j=>
  rw[E]at h C;have hp:p D=true:=C;have key:∃ x,∀ σ2:S,σ2.m=σ.m -> ∀ v,v=aL σ y -> qe P σ2 ty (.aH D j) v some=some (σ2.root D x):=by
   unfold qe at h;split at h
   ·rename_i n xs hn pn;split at h
    ·rename_i hlen;simp only at h;split at h
     ·rename_i cs gI;split at h
      ·rename_i hj;cases hl:xs.all Lf.live with
       |false=>grind
       | true=>
        refine⟨.aB (splice cs j xs),λσ2 T v hv=>?_⟩
        subst hv;simp only[qe,hn,pn,bI hlen,T,gI,bI hj,hl,au];simp only[S.root,T]
      ·cases h
     ·cases h
    ·cases h
   ·cases h
  obtain⟨x,mb⟩:=key;have U:=mb σ rfl _ rfl;rw[h]at U;injection U with U
  refine⟨{ G:=λσ=>σ.root D x,u:=.undef,eq:=by rw[Y];exact U,run:=λσ2 sL T=>?_,grow:=λσ=>.rt D x hp (.refl σ),set:=λσ d v hv=>rfl,bp:=λ_ σ t r j ht _=>ht }⟩
  have e1:σ2.t t = .aH D j:=(sL (.tmp t) (by rw[L];simp[Op.operands])).trans E;rw[dP σ2 (λk O=>by rw[e1]at O;cases O),e1,mb σ2 T _ (sL y (by rw[L];simp[Op.operands])),Y];rfl
 |ptr k=>rw[E]at C;exact C.elim
 | _=>
  rw[E]at h;exfalso;revert h;unfold qe;split
  ·grind
  ·grind
def cO(e:Nat)(x:bh)(u:A)(σ:S):S:=((σ.drop e).root e x).set e u
def mT(e:Nat)(u:A):Prop:=u = .aH e 0\/u = .lf (.own [e])
structure kz (x:bh):Prop where
 cL:∀K:nI,x.cL K=x
def kz.drop{x:bh}(h:kz x)(n:Nat):x.drop n=x:=h.cL _
def kz.fo{x:bh}(h:kz x)(ns cn:aa Nat):x.fo ns cn=x:=h.cL _
def kz.zero(C:aa Value):kz (.aB (C.map og)):=⟨λK=>aZ bh.aB (qU.qT (cx.2 λc D=>by
 obtain⟨v,_,rfl⟩:=List.mem_map.1 D;unfold og;split<;>rfl))⟩
def aeP(h:vU o=true):∃ t,∃ e:Nat,o.op = .alloc t/\o.guard=none/\o.dst=some e/\e<20000:=by
 unfold vU at h;rw[aU,aU]at h;obtain⟨⟨C,E⟩,D⟩:=h;split at C
 ·rename_i t L;split at D
  ·simp_all
  ·cases D
 ·cases C
def aso{ops:Array Oper}{t:TypeId}{e:Nat}(D:o.op = .alloc t)(O:o.guard=none)(T:o.dst=some e){E:S}(h:dL P N Φ ops σ o some=some E):∃ x,kz x/\E=cO e x (.aH e 0) σ/\∀ σ2,dL P N Φ ops σ2 o some=some (cO e x (.aH e 0) σ2):=by
 have L:∀ σ2,dL P N Φ ops σ2 o some=qZ P N σ2 e t some:=by
  intro σ2;unfold dL fZ;rw[O];simp only;unfold dX;rw[show fY o.op=false by rw[D];rfl,aq];simp only[iU,D,hD,T]
 rw[L]at h;unfold qZ at h;split at h
 ·rename_i z U;unfold iB at h;cases C:Nat.blt e N with
  |false=>rw[C]at h;cases h
  | true=>
   rw[C,au]at h;injection h with h
   refine⟨_,.zero _,h.symm,λσ2=>(L σ2).trans ?_⟩
   unfold qZ iB;rw[U,C];rfl
 ·cases h
def PE{σ2:S}:∀ (ps:aa PK) (xs:aa Operand),(∀ x∈xs,aL σ2 x=aL σ x) -> oz σ2 ps xs=oz σ ps xs
 |[],[],_=>rfl
 |[],_::_,_=>rfl
 |.v _ _::_,[],_=>rfl
 |.p _ _ _::_,[],_=>rfl
 |.s _ _::_,[],_=>rfl
 |.v _ _::ps,x::xs,h=>by simp[oz];exact PE ps xs (λy C=>h y (.tail _ C))
 |.s _ _::ps,x::xs,h=>by simp only[oz];exact PE ps xs (λy C=>h y (.tail _ C))
 | .p _ _ _ :: ps,x :: xs,h=>by
  simp only[oz];rw[h x (.head _),PE ps xs (λy C=>h y (.tail _ C))]
def Calm.lX{ok:Nat->Nat->Bool}{rz mQ:Nat->Bool}{σ2:S}(h:Calm Φ ok rz mQ p pb σ o)(Z:∀ t r j,σ.t t = .aH r j->ok t r=true->σ2.t t = .aH r j)(L:∀ t,rz t=true->jT p (σ.t t)->jT p (σ2.t t))(O:∀ t,mQ t=true->ru p pb (σ.t t)->ru p pb (σ2.t t)):Calm Φ ok rz mQ p pb σ2 o:=by
 rcases h with h|h|⟨ty,t,y,E,C,D,T⟩|⟨x,y,t,U,E,C,Y,D⟩
 ·exact .inl h
 ·exact h.elim
 ·exact .inr (.inr (.inl ⟨ty,t,y,E,C,D,L t D T⟩))
 ·exact .inr (.inr (.inr ⟨x,y,t,U,E,C,Y,O x C D⟩))
def PF{ops:Array Oper}(U:oA o=true)(Y:fZ σ ops o=some true){τ:S}(h:dL P N Φ ops σ o some=some τ):∃ (e:Nat) (x:bh) (u:A),o.dst=some e/\e<20000/\kz x/\mT e u/\τ=cO e x u σ/\
  ∀σ2,fZ σ2 ops o=some true->(∀y∈o.op.operands,aL σ2 y=aL σ y)->dL P N Φ ops σ2 o some=some (cO e x u σ2):=by
 have Z:fY o.op=false->∀ σ2,fZ σ2 ops o=some true->dL P N Φ ops σ2 o some=iU P N Φ σ2 o some:=by
  intro hv σ2 L;unfold dL;rw[L];simp only;unfold dX;rw[hv,aq]
 have bsl:∀y:V,kz (.sl y):=λy=>⟨λ_=>rfl⟩
 unfold oA at U;rw[aU]at U;obtain⟨XZ,E7⟩:=U;split at E7
 ·rename_i e D;have dI:e<20000:=cZ E7;split at XZ
  ·rename_i t C;have E:=Z (by rw[C];rfl);rw[E σ Y]at h;simp only[iU,C,hD,D]at h;unfold qZ at h;split at h
   ·rename_i z hz;unfold iB at h;cases hN:Nat.blt e N with
    |false=>rw[hN]at h;cases h
    | true=>
     rw[hN,au]at h;injection h with h
     refine⟨e,.aB (z.cells.toList.map og),.aH e 0,D,dI,.zero _,.inl rfl,h.symm,λσ2 L _=>(E σ2 L).trans ?_⟩
     simp only[iU,C,hD,D];unfold qZ iB;rw[hz,hN];rfl
   ·cases h
  ·rename_i t len parts C;have E:=Z (by rw[C];rfl);rw[E σ Y]at h;have hn:qm t=false:=by simpa using XZ
   simp only[iU,C,hD,D,hn,aq]at h;obtain⟨y,O,h2⟩:=aed h;injection O with O
   refine⟨e,.sl y,.lf (.own [e]),D,dI,bsl y,.inr rfl,O.symm,λσ2 L T=>(E σ2 L).trans ?_⟩
   simp only[iU,C,hD,D,hn,aq]
   refine(h2 σ2 λq hq=>T _ ?_).at_ _
   rw[C];simp only[Op.operands];exact List.mem_toArray.2 (List.mem_map_of_mem (f:=(·.2)) hq)
  ·rename_i t l c C;have E:=Z (by rw[C];rfl);rw[E σ Y]at h;simp only[iU,C,hD,D]at h;obtain⟨y,O,h2⟩:=aec h;injection O with O
   refine⟨e,.sl y,.lf (.own [e]),D,dI,bsl y,.inr rfl,O.symm,λσ2 L T=>(E σ2 L).trans ?_⟩
   simp only[iU,C,hD,D];rw[T l (by rw[C];simp[Op.operands]),T c (by rw[C];simp[Op.operands])];exact(h2 σ2).at_ _
  ·cases XZ
 ·cases E7
def PG{d:Nat}{t:TypeId}{y z:A}{Y:S}(h:tD P N σ d t y z some=some Y):∃ (r:Nat) (v:V),Y=((σ.drop r).root r (.sl v)).set d (.lf (.own [r]))/\(r=d\/y = .lf (.own [r]))/\
  ∀σ2:S,(∀(k:V->ah S),sq σ2 z k=sq σ z k)->(∀r v,y = .lf (.own [r])->σ.m r=some (.sl v)->σ2.m r=some (.sl v))->tD P N σ2 d t y z some=some (((σ2.drop r).root r (.sl v)).set d (.lf (.own [r]))):=by
 unfold tD at h;split at h
 ·rename_i e O Z;cases L:(Nat.beq (full O) 0&&(zeroOf P e).any (λz=>Nat.beq z.cells.size (aE O)))with
  |false=>rw[L]at h;cases h
  | true=>
   rw[L,au]at h;obtain⟨yv,C,hd⟩:=Xm.nK h;clear h;split at C
   ·cases C
   ·rename_i l2 lG;split at C
    ·cases D:bM l2.length with
     |false=>rw[D]at C;cases C
     | true=>
      rw[D,au]at C;cases T:Nat.blt d N with
      |false=>unfold iB at C;rw[T]at C;cases C
      | true=>
       have E:=C;unfold iB at E;rw[T,au]at E;injection E with E
       refine⟨d,.sl O 2 false l2,E.symm,.inl rfl,λσ2 U E7=>?_⟩
       simp only[tD,Z,L,au];refine(U _).trans ((hd.at_ _).trans ?_);simp only[lG,D,au];unfold iB;rw[T,au]
    ·rename_i rr;split at C
     ·rename_i t' o q l hm;split at C
      ·rename_i nL;cases D:(Nat.blt d N&&(Nat.blt rr N || Nat.ble 60000 rr)&&bM (l.length+l2.length))with
       |false=>rw[D]at C;cases C
       | true=>
        rw[D,au]at C;injection C with C
        refine⟨rr,_,C.symm,.inr rfl,λσ2 U E7=>?_⟩
        simp only[tD,Z,L,au];refine(U _).trans ((hd.at_ _).trans ?_);simp only[lG,E7 rr _ rfl hm,aA nL,D,au]
      ·cases C
     ·cases C
    ·cases C
 ·cases h
def X0(h:isApp o=true):∃ x y t C,o.op = .call ⟨.builtin .append,⟨[x,y]⟩,⟨[t,C]⟩⟩/\qm t=false/\Nat.beq t C=true/\Cl o.dst t x=false:=by
 unfold isApp at h
 grind
def Jj{x y:Operand}{t D:TypeId}(E:o.op = .call ⟨.builtin .append,⟨[x,y]⟩,⟨[t,D]⟩⟩)(L:qm t=false)(O:Nat.beq t D=true)(C:Cl o.dst t x=false)(σ:S):dX P N Φ σ o some=hD o λd=>tD P N σ d t (aL σ x) (aL σ y) some:=by
 unfold dX;rw[show fY o.op=false by rw[E];rfl];simp[iU,E,L,O,au];unfold hD;cases T:o.dst with
 |none=>rfl
 | some d=>
  rw[T]at C;have C:Pv t d x=false:=C;simp_all
theorem asp{U:S}{x:Tmp}{y:Operand}{t Y:TypeId}(C:o.op = .call ⟨.builtin .append,⟨[.tmp x,y]⟩,⟨[t,Y]⟩⟩)(E:qm t=false)(L:Nat.beq t Y=true)(O:Cl o.dst t (.tmp x)=false)(hp:∀ n,fR o n=true->p n=true/\pb n=true)(ko:ru p pb (σ.t x))(h:dX P N Φ σ o some=some U):Nonempty (sK P N Φ o p pb σ U):=by
 rw[Jj C E L O]at h;obtain⟨d,T,h⟩:=ku h;obtain⟨r,v,iI,hr,tX⟩:=PG h;have D:p r=true/\pb r=true:=by
  rcases hr with hr|hr
  ·rw[hr];exact hp d (by unfold fR;rw[T,C];exact Nat.beq_refl d)
  ·exact ko r hr
 refine⟨{ G:=λσ=>(σ.drop r).root r (.sl v),u:=.lf (.own [r]),eq:=by rw[T];exact iI,run:=λσ2 Z hm=>?_,grow:=λσ=>.root r _ D.1 D.2 (.refl σ),set:=λσ e v' hv=>(by rw[S.drop_set r (A.E1 hv D.1 D.2)];rfl),bp:=λha=>(by rw[isApp,C]at ha;simp[E,L,O]at ha) }⟩
 rw[Jj C E L O];unfold hD;rw[T];simp only;rw[Z (.tmp x) (by rw[C];simp[Op.operands,Call.operands]),Z y (by rw[C];simp[Op.operands,Call.operands]),tX σ2 (λk=>ar7 hm _ k) (λr' v' _ h'=>by rw[hm];exact h')];rfl
theorem asq[Inhabited Wd](eE:fX P Φ){ok:Nat->Nat->Bool}{rz mQ mR:Nat->Bool}(hX:∀ x,mR x=true->jT p (σ.t x)){ops:Array Oper}{oi D:Oper}{v:A}{τ:S}(hF:mS P ops oi p pb v σ)(ha:oi.apart ops D=true)(ht:Calm Φ ok rz mQ p pb σ D)(hp:∀ n,fR D n=true->p n=true/\pb n=true)
  (h:dL P N Φ ops (gw σ oi.dst v) D some=some τ):∃ T,dL P N Φ ops σ D some=some T/\τ=gw T oi.dst v/\mS P ops oi p pb v T/\(isApp D=false->∀ t r j,σ.t t = .aH r j->D.dst≠some t->fR D r=false->T.t t = .aH r j)/\
   (∀t,jT p (σ.t t)->(D.dst≠some t\/(vU D=true/\p t=true)\/∃s x f,D.op = .fieldAddr s (.tmp x) f/\mR x=true)->jT p (T.t t))/\
   ∀t,ru p pb (σ.t t)->(D.dst≠some t\/(oA D=true/\p t=true/\pb t=true)\/(isApp D=true\/z0 Φ D=true))->ru p pb (T.t t):=by
 obtain⟨a1,a2,a3⟩:=Oper.apart_spec ha;have E8:∀ (σ:S) (u:A) t,D.dst≠some t->(gw σ D.dst u).t t=σ.t t:=by
  intro σ u t ht;cases O:D.dst with
  |none=>rfl
  |some d=>exact cR _ _ _ (by rintro rfl;exact ht O)
 have E9:∀ T,dL P N Φ ops σ D some=some T->∀ t,vU D=true->D.dst=some t->p t=true->jT p (T.t t):=by
  intro T C t E9 O XB;obtain⟨ty,e,L,Y,h3,_⟩:=aeP E9;rw[h3]at O;injection O with O;subst O;obtain⟨x,_,e1,_⟩:=aso L Y h3 C;rw[e1];show jT p (cg _ e (.aH e 0) e);rw[cv];exact XB
 have fin:∀ T,dL P N Φ ops σ D some=some T->(∀ t,D.dst≠some t->jT p (σ.t t)->jT p (T.t t))->∀ t,jT p (σ.t t)->(D.dst≠some t\/(vU D=true/\p t=true)\/∃ s x f,D.op = .fieldAddr s (.tmp x) f/\mR x=true)->jT p (T.t t):=by
  intro T C hk t ht X3;rcases X3 with Z|⟨L,Y⟩|⟨s,x,f,L,Y⟩
  ·exact hk t Z ht
  ·by_cases O:D.dst=some t
   ·exact E9 T C t L O Y
   ·exact hk t O ht
  ·by_cases O:D.dst=some t
   ·unfold dL at C;split at C
    ·unfold dX at C;rw[show fY D.op=true by rw[L];rfl,au]at C;rw[L]at C;simp only[mP]at C;have hx:=hX x Y;have hx:jT p (aL σ (.tmp x)):=hx;generalize aL σ (.tmp x)=z at hx C;have key:∀ v,iy N σ D.dst v some=some T->jT p v->jT p (T.t t):=by
      intro v hv hA;obtain⟨E,_⟩:=sJ hv;injection E with E;rw[<-E,O];show jT p (cg σ.t t v t);rw[cv];exact hA
     unfold EB at C;split at C
     ·cases C
     ·split at C
      ·split at C
       ·exact key _ C hx
       ·exact key _ C trivial
       ·exact hx.elim
       ·cases C
      ·cases C
    ·obtain⟨E,_⟩:=sJ C;injection E with E;rw[<-E,O];show jT p (cg σ.t t .skip t);rw[cv];trivial
    ·cases C
   ·exact hk t O ht
 have asr:=ht;have aeQ:∀ T,dL P N Φ ops σ D some=some T->(∀ t,D.dst≠some t->ru p pb (σ.t t)->ru p pb (T.t t))->∀ t,ru p pb (σ.t t)->(D.dst≠some t\/(oA D=true/\p t=true/\pb t=true)\/(isApp D=true\/z0 Φ D=true))->ru p pb (T.t t):=by
  intro T C hk t ht X3;rcases X3 with Z|⟨L,Y⟩|ass|Cr
  ·exact hk t Z ht
  ·by_cases O:D.dst=some t
   ·cases hw:fZ σ ops D with
    |none=>unfold dL at C;rw[hw]at C;cases C
    | some b=>
     cases b with
     | true=>
      obtain⟨e,x,u,E,g2,g3,g4,g5,_⟩:=PF L hw C;rw[O]at E;injection E with E;subst E;rw[g5];intro r hr;have hr:cg _ t u t = .lf (.own [r]):=hr;rw[cv]at hr;rcases g4 with g4|g4
      ·rw[g4]at hr;cases hr
      ·rw[g4]at hr;injection hr with hr;injection hr with hr;injection hr with hr;subst hr;exact Y
     | false=>
      unfold dL at C;rw[hw]at C;obtain⟨E,_⟩:=sJ C;injection E with E;rw[<-E,O];intro r hr;have hr:cg σ.t t .skip t = .lf (.own [r]):=hr;rw[cv]at hr;cases hr
   ·exact hk t O ht
  ·by_cases O:D.dst=some t
   ·obtain⟨x,y,t1,t2,E,g2,g3,g4⟩:=X0 ass;have hT:ru p pb (aL σ x):=by
     rcases asr with q|q|⟨ty,tt,yy,q1,_⟩|⟨x',y',t1',t2',q1,q2,q3,q4⟩
     ·rw[E]at q;cases q
     ·exact q.elim
     ·rw[E]at q1;cases q1
     ·rw[E]at q1;injection q1 with q1;injection q1 with _ q1 _;injection q1 with q1;injection q1 with q1 _;subst q1;exact q4
    cases hw:fZ σ ops D with
    |none=>unfold dL at C;rw[hw]at C;cases C
    | some b=>
     cases b with
     | true=>
      unfold dL at C;rw[hw]at C;have C:dX P N Φ σ D some=some T:=C;rw[Jj E g2 g3 g4]at C;obtain⟨d,tY,C⟩:=ku C;rw[O]at tY;injection tY with tY;subst tY;obtain⟨r,v,iI,hr,_⟩:=PG C;rw[iI];intro r' fE;have fE:cg ((σ.drop r).root r (.sl v)).t t (.lf (.own [r])) t = .lf (.own [r']):=fE;rw[cv]at fE;injection fE with fE;injection fE with fE;injection fE with fE;subst fE;rcases hr with hr|hr
      ·rw[hr];exact hp t (by unfold fR;rw[O,E];exact Nat.beq_refl t)
      ·exact hT r hr
     | false=>
      unfold dL at C;rw[hw]at C;obtain⟨E,_⟩:=sJ C;injection E with E;rw[<-E,O];intro r hr;have hr:cg σ.t t .skip t = .lf (.own [r]):=hr;rw[cv]at hr;cases hr
   ·exact hk t O ht
  ·by_cases O:D.dst=some t
   ·cases hw:fZ σ ops D with
    |none=>unfold dL at C;rw[hw]at C;cases C
    | some b=>
     cases b with
     | true=>
      unfold dL at C;rw[hw]at C;have C:dX P N Φ σ D some=some T:=C;unfold z0 at Cr;split at Cr
      ·rename_i f args nM ho;split at Cr
       ·rename_i c hc;unfold dX at C;rw[show fY D.op=false by rw[ho];rfl,aq]at C;simp only[iU,ho,hc]at C;obtain⟨d,tY,C⟩:=ku C;rw[O]at tY;injection tY with tY;subst tY;obtain⟨res,sr,L,Y,_⟩:=Pf (Ji eE hc) E0 C;injection Y with Y;subst Y;have pL:∀ n,1000000000100000+1000*t<=n->p n=true/\pb n=true:=λn hn=>hp n (by unfold fR;rw[O,ho];exact jn hn)
        intro r hr;unfold oq at L;cases res with
        | one q=>
         simp only at L;split at L
         ·rename_i y U;injection L with L;rw[<-L]at hr;have hr:cg _ t y t=A.lf (Lf.own [r]):=hr;rw[cv]at hr;subst hr;obtain⟨b,vs⟩:=q;cases b with
          |true=>cases U
          | false=>
           match vs,U with
           | [v],U=>
            have U:some (A.lf (bif v.aF then Lf.v v else Lf.own [1000000000100000+1000*t]))=some (A.lf (Lf.own [r])):=U;injection U with U;injection U with U;cases hf:v.aF with
            |true=>rw[hf]at U;cases U
            | false=>
             rw[hf]at U;injection U with U;injection U with U;subst U;exact pL _ (dQ _)
         ·cases L
        | fk ps=>
         injection L with L;rw[<-L]at hr;have hr:cg _ t _ t=A.lf (Lf.own [r]):=hr;rw[cv]at hr;cases hr
       ·cases Cr
      ·cases Cr
     | false=>
      unfold dL at C;rw[hw]at C;obtain⟨E,_⟩:=sJ C;injection E with E;rw[<-E,O];intro r hr;have hr:cg σ.t t .skip t = .lf (.own [r]):=hr;rw[cv]at hr;cases hr
   ·exact hk t O ht
 unfold dL at h;rw[asl a1]at h;split at h
 ·rename_i hw;have ast:Nonempty (sK P N Φ D p pb (gw σ oi.dst v) τ):=by
   rcases ht with ht|ht|⟨ty,t,y,L,Y,h3,h4⟩|⟨x,y,t1,t2,L,Y,hn,h3⟩
   ·exact asi eE ht hp h
   ·exact ht.elim
   ·refine asn L Y ?_ h;have e1:aL (gw σ oi.dst v) (.tmp t)=aL σ (.tmp t):=XX a1 v (by rw[L];simp[Op.operands]);have e1:(gw σ oi.dst v).t t=σ.t t:=e1;rw[e1];exact h4
   ·refine asp L hn.1 hn.2.1 hn.2.2 hp ?_ h;have e1:aL (gw σ oi.dst v) (.tmp x)=aL σ (.tmp x):=XX a1 v (by rw[L];simp[Op.operands,Call.operands]);have e1:(gw σ oi.dst v).t x=σ.t x:=e1;rw[e1];exact h3
  obtain⟨G,u,e,hr,hg,hs,hbp⟩:=ast;have rA:dL P N Φ ops σ D some=some (gw (G σ) D.dst u):=by
   unfold dL;rw[hw];exact hr σ (λx hx=>(XX a1 v hx).symm) (asj _ _).symm
  refine⟨gw (G σ) D.dst u,rA,?_,(hF.grow (hg σ)).put a3,λvT t r j ht Z pL=>?_,fin _ rA λt Z ht=>?_,aeQ _ rA λt Z ht=>?_⟩
  ·refine e.trans ?_;have:∀ dst,G (gw σ dst v)=gw (G σ) dst v:=by
    intro dst;cases dst with
    |none=>rfl
    |some d=>exact hs σ d v hF.nr
   rw[this];exact aeO _ _ a2
  ·rw[E8 _ _ t Z];exact hbp vT σ t r j ht pL
  ·rw[E8 _ _ t Z];exact(hg σ).st ht
  ·rw[E8 _ _ t Z];exact(hg σ).tg ht
 ·rename_i hw;obtain⟨L,Y⟩:=sJ h;injection L with L;have rA:dL P N Φ ops σ D some=some (gw σ D.dst .skip):=by
   unfold dL;rw[hw];exact(Y σ).at_ _
  exact⟨gw σ D.dst .skip,rA,by rw[<-L];exact aeO _ _ a2,hF.put a3,λ_ t r j ht Z _=>(by rw[E8 _ _ t Z];exact ht),fin _ rA λt Z ht=>(by rw[E8 _ _ t Z];exact ht),aeQ _ rA λt Z ht=>(by rw[E8 _ _ t Z];exact ht)⟩
 ·cases h
def Any(P:Program)(N:Nat)(Φ:eK)(ops:Array Oper)(K:S->Prop):Nat->Nat->S->Prop
 |0,L,σ=>(∀j,mj ops L j=false)/\K σ
 |f+1,L,σ=>((∀j,mj ops L j=false)->K σ)/\∀j,mj ops L j=true->∃o C,ops[j]?=some o/\dL P N Φ ops σ o some=some C/\Any P N Φ ops K f (L |||2 ^ j) C
def Ab(L i j:Nat):(L ||| 2 ^ i).testBit j=(L.testBit j || decide (i=j)):=by
 rw[Nat.testBit_or,Nat.testBit_two_pow]
def Jk{ops:Array Oper}{L j:Nat}:mj ops L j=true ↔ L.testBit j=false /\ ∃ o,ops[j]?=some o /\ ∀ e∈o.after,Region.binds .any e=true -> L.testBit e.on=true:=by
 unfold mj
 grind
def X4{ops:Array Oper}{L i j:Nat}(h:mj ops L j=true)(C:j≠i):mj ops (L ||| 2 ^ i) j=true:=by
 rw[Jk]at h ⊢
 grind
def mS.step{ops:Array Oper}{C:Oper}{v:A}(L:mS P ops C p pb v σ)(O:∀ σ:S,iy N σ C.dst v some=some (gw σ C.dst v)):dL P N Φ ops σ C some=some (gw σ C.dst v):=by
 unfold dL;rcases L with ⟨D,E,T,_,_,_⟩|⟨D,E⟩
 ·rw[D];unfold dX;rw[E,au];exact(T.at_ _).trans (O σ)
 ·simp_all
def X5{K:S -> Prop}{ops:Array Oper}{i W:Nat}{U:Oper}(hi:ops[i]?=some U)(hW:∀ j C,ops[j]?=some C -> W.testBit j=true -> ∃ e∈C.after,Region.binds .any e=true/\(e.on=i \/ W.testBit e.on=true))(E:S -> S)(I:Nat -> S -> Prop)
  (r1:∀L σ,I L σ -> dL P N Φ ops σ U some=some (E σ))
  (r2:∀L σ j C Y,I L σ -> ops[j]?=some C -> j≠i -> L.testBit j=false -> W.testBit j=false -> dL P N Φ ops (E σ) C some=some Y -> ∃O,dL P N Φ ops σ C some=some O/\Y=E O/\I (L |||2 ^ j) O):
  ∀(f L:Nat) (σ:S),(∀j,W.testBit j=true -> L.testBit j=false) -> mj ops L i=true -> I L σ -> Any P N Φ ops K f (L |||2 ^ i) (E σ) -> Any P N Φ ops K (f+1) L σ:=by
 intro f
 induction f with
 | zero=>
  intro L σ vV T Z H
  refine⟨λh=>absurd (h i) (by rw[T];simp),λj hj=>?_⟩
  by_cases D:j=i
  ·subst D;exact⟨U,_,hi,r1 L σ Z,H⟩
  ·have:=X4 hj D;rw[H.1]at this;cases this
 | succ f ih=>
  intro L σ vV T Z H
  refine⟨λh=>absurd (h i) (by rw[T];simp),λj hj=>?_⟩
  by_cases D:j=i
  ·subst D;exact⟨U,_,hi,r1 L σ Z,H⟩
  ·obtain⟨C,Y,xR,iI,H'⟩:=H.2 j (X4 hj D);obtain⟨Fa,oj',PI,tX⟩:=Jk.1 hj;rw[xR]at PI;injection PI with PI;subst PI;have Ac:W.testBit j=false:=by
    cases Ac:W.testBit j with
    |false=>rfl
    | true=>
     obtain⟨e,he,hb,mN⟩:=hW j C xR Ac;have h1:=tX e he hb;rcases mN with mN|mN
     ·rw[mN,(Jk.1 T).1]at h1;cases h1
     ·rw[vV _ mN]at h1;cases h1
   obtain⟨O,hs,Ad,hI'⟩:=r2 L σ j C Y Z xR D Fa Ac iI
   refine⟨C,O,xR,hs,ih (L |||2 ^ j) O (λk hk=>?_) (X4 T (Ne.symm D)) hI' ?_⟩
   ·grind
   ·rw[<- Ad]
    grind
theorem asu[Inhabited Wd](eE:fX P Φ){ok:Nat -> Nat -> Bool}{rz mQ mR:Nat -> Bool}{K:S -> Prop}{ops:Array Oper}{i W:Nat}{O:Oper}{v:A}(hi:ops[i]?=some O)(hN:∀ σ:S,iy N σ O.dst v some=some (gw σ O.dst v))
  (hW:∀j C,ops[j]?=some C -> W.testBit j=true -> ∃e∈C.after,Region.binds .any e=true/\(e.on=i \/ W.testBit e.on=true)) (f L:Nat) (σ:S)
  (jE:∀t r,ok t r=true -> ∀j C,ops[j]?=some C -> j≠i -> L.testBit j=false -> W.testBit j=false -> C.dst≠some t/\fR C r=false/\isApp C=false)
  (PJ:∀x,mR x=true -> ∀j C,ops[j]?=some C -> j≠i -> L.testBit j=false -> W.testBit j=false -> C.dst≠some x) (hX:∀x,mR x=true -> jT p (σ.t x))
  (PL:∀t,rz t=true -> ∀j C,ops[j]?=some C -> j≠i -> L.testBit j=false -> W.testBit j=false -> C.dst≠some t \/ (vU C=true/\p t=true) \/ ∃s x f,C.op = .fieldAddr s (.tmp x) f/\mR x=true)
  (PN:∀t,mQ t=true -> ∀j C,ops[j]?=some C -> j≠i -> L.testBit j=false -> W.testBit j=false -> C.dst≠some t \/ (oA C=true/\p t=true/\pb t=true) \/ (isApp C=true \/ z0 Φ C=true))
  (Cs:∀j C,ops[j]?=some C -> j≠i -> L.testBit j=false -> W.testBit j=false -> O.apart ops C=true/\Calm Φ ok rz mQ p pb σ C /\ ∀n,fR C n=true -> p n=true/\pb n=true)
  (vV:∀j,W.testBit j=true -> L.testBit j=false) (hr:mj ops L i=true) (hF:mS P ops O p pb v σ) (H:Any P N Φ ops K f (L |||2 ^ i) (gw σ O.dst v)):Any P N Φ ops K (f+1) L σ:=by
 refine X5 hi hW (λσ=>gw σ O.dst v)
  (λL σ=>mS P ops O p pb v σ/\(∀ t r,ok t r=true -> ∀ j C,ops[j]?=some C -> j≠i -> L.testBit j=false -> W.testBit j=false -> C.dst≠some t/\fR C r=false/\isApp C=false) /\
   ((∀x,mR x=true -> ∀j C,ops[j]?=some C -> j≠i -> L.testBit j=false -> W.testBit j=false -> C.dst≠some x) /\ ∀x,mR x=true -> jT p (σ.t x)) /\
   (∀t,rz t=true -> ∀j C,ops[j]?=some C -> j≠i -> L.testBit j=false -> W.testBit j=false -> C.dst≠some t \/ (vU C=true/\p t=true) \/ ∃s x f,C.op = .fieldAddr s (.tmp x) f/\mR x=true) /\
   (∀t,mQ t=true -> ∀j C,ops[j]?=some C -> j≠i -> L.testBit j=false -> W.testBit j=false -> C.dst≠some t \/ (oA C=true/\p t=true/\pb t=true) \/ (isApp C=true \/ z0 Φ C=true)) /\
   ∀j C,ops[j]?=some C -> j≠i -> L.testBit j=false -> W.testBit j=false -> O.apart ops C=true/\Calm Φ ok rz mQ p pb σ C /\ ∀n,fR C n=true -> p n=true/\pb n=true)
  (λL σ h=>h.1.step hN) (λL σ j C τ h xR Jl Fa Ac iI=>?_) f L σ vV hr ⟨hF,jE,⟨PJ,hX⟩,PL,PN,Cs⟩ H
 obtain⟨hF,jE,⟨PJ,hX⟩,PL,PN,Cs⟩:=h;obtain⟨c1,c2,c3⟩:=Cs j C xR Jl Fa Ac;obtain⟨dn,hs,Ad,hF',Xw,ko,hta⟩:=asq (mR:=mR) eE hX hF c1 c2 c3 iI;have hL:∀ k,(L ||| 2 ^ j).testBit k=false -> L.testBit k=false:=by
  intro k D;rw[Ab,oW]at D;exact D.1
 refine⟨dn,hs,Ad,hF',λt r E k T D U Y Z=>jE t r E k T D U (hL k Y) Z,⟨λx hx k T D U Y Z=>PJ x hx k T D U (hL k Y) Z,λx hx=>ko x (hX x hx) (.inl (PJ x hx j C xR Jl Fa Ac))⟩,λt E k T D U Y Z=>PL t E k T D U (hL k Y) Z,λt E k T D U Y Z=>PN t E k T D U (hL k Y) Z,λk T D U Y Z=>?_⟩
 obtain⟨d1,d2,d3⟩:=Cs k T D U (hL k Y) Z
 refine⟨d1,d2.lX (λt r j' E h=>?_) (λt h E=>ko t E (PL t h j C xR Jl Fa Ac)) (λt h E=>hta t E (PN t h j C xR Jl Fa Ac)),d3⟩
 grind
def A.X6(y:A)(a b:Nat):(y.drop a).drop b=(y.drop b).drop a:=A.oZ y _ _
def bh.X6(y:bh)(a b:Nat):(y.drop a).drop b=(y.drop b).drop a:=bh.oZ y _ _
def mT.drop(h:mT e u){n:Nat}(C:e≠n):u.drop n=u:=by
 rcases h with rfl|rfl
 ·simp only[A.drop,o6 C,aq,A.cL,xd]
 ·have:dc n [e]=false:=by simp[dc,C]
  simp only[A.drop,Lf.drop,this,aq,A.cL,xd,Lf.cL]
def mT.fo(h:mT e u){ns cn:aa Nat}(D:dK e ns=false)(C:dK e cn=false):u.fo ns cn=u:=by
 rcases h with rfl|rfl
 ·simp only[A.fo,C,aq,A.cL,ER]
 ·have E:gJ [e] ns=false:=D;have L:gJ [e] cn=false:=C;simp only[A.fo,Lf.fo,E,L,A.cL,ER,Lf.cL];rfl
def rB(k:Nat):(cO e x u σ).t k=if k=e then u else (σ.t k).drop e:=by
 by_cases C:k=e
 ·subst C;rw[bI rfl];exact cv _ _ _
 ·rw[bU C];exact cR _ _ _ C
def pN(n:Nat):(cO e x u σ).m n=if n=e then some x else (σ.m n).map (bh.drop e):=by
 show cg (λr=>bif Nat.beq r e then none else (σ.m r).map (bh.drop e)) e (some x) n=_;by_cases C:n=e
 ·subst C;rw[bI rfl,cv]
 ·rw[bU C,cR _ _ _ C,o6 C];rfl
def X7(c:Nat)(y:bh)(k:Nat):((σ.drop c).root c y).t k=(σ.t k).drop c:=rfl
def aeR(c:Nat)(y:bh)(n:Nat):((σ.drop c).root c y).m n=if n=c then some y else (σ.m n).map (bh.drop c):=by
 show cg (λr=>bif Nat.beq r c then none else (σ.m r).map (bh.drop c)) c (some y) n=_;by_cases C:n=c
 ·subst C;rw[bI rfl,cv]
 ·rw[bU C,cR _ _ _ C,o6 C];rfl
def aeS{c:Nat}(z:V)(L:kz x)(O:mT e u)(T:e≠c):((cO e x u σ).drop c).root c (.sl z)=cO e x u ((σ.drop c).root c (.sl z)):=by
 refine S.ext' (λk=>?_) λn=>?_
 ·rw[X7,rB,rB,X7];by_cases C:k=e
  ·rw[bI C,bI C];exact O.drop T
  ·rw[bU C,bU C];exact A.oZ _ _ _
 ·rw[aeR,pN,pN,aeR];by_cases D:n=c
  ·rw[bI D,bU,bI D];rfl
  ·rw[bU D];by_cases E:n=e
   ·rw[bI E,bI E];simp only[Option.map_some,L.drop]
   ·rw[bU E,bU E,bU D,Option.map_map,Option.map_map];congr 1;funext y;exact bh.oZ y _ _
def PO(C:kz x)(D:mT e u):∀ (xs:aa V) (c:Nat) (σ:S),e<c -> mL c (cO e x u σ) xs=cO e x u (mL c σ xs)
 |[],c,σ,_=>rfl
 | y :: xs,c,σ,h=>by
  simp[mL];cases E:y.aF with
  |true=>exact PO C D xs _ σ (by omega)
  | false=>
   rw[aeS y C D (by omega)];exact PO C D xs _ _ (by omega)
def aeT(C:kz x)(D:mT e u):∀ (ps:aa Pt) (c:Nat) (σ:S),e<c -> pI c (cO e x u σ) ps=cO e x u (pI c σ ps)
 |[],c,σ,_=>rfl
 | q :: ps,c,σ,h=>by
  simp[pI];rw[PO C D _ _ _ h];exact aeT C D ps _ _ (by omega)
def PR{v:A}(D:d≠e)(E:v.drop e=v):(cO e x u σ).set d v=cO e x u (σ.set d v):=by
 refine S.ext' (λk=>?_) λn=>?_
 ·show cg (cO e x u σ).t d v k=_;rw[rB];show _=if k=e then u else (cg σ.t d v k).drop e;by_cases C:k=d
  ·subst C;rw[cv,bU D,cv,E]
  ·rw[cR _ _ _ C,cR _ _ _ C,rB]
 ·rfl
def asv{v:A}{C:ah Tmp}(D:C≠some e)(E:v.drop e=v):gw (cO e x u σ) C v=cO e x u (gw σ C v):=by
 cases C with
 |none=>rfl
 |some d=>exact PR (by rintro rfl;exact D rfl) E
def asw{ns cn:aa Nat}{nr:aa (Nat×bh)}(T:kz x)(U:mT e u)(E:dK e ns=false)(L:dK e cn=false)(O:∀ q∈nr,q.1≠e/\q.2.drop e=q.2):(cO e x u σ).fo ns cn nr=cO e x u (σ.fo ns cn nr):=by
 have hl:nr.lookup e=none:=by
  cases hl:nr.lookup e with
  |none=>rfl
  |some y=>exact absurd rfl (O _ (XY hl)).1
 refine S.ext' (λk=>?_) λn=>?_
 ·show ((cO e x u σ).t k).fo ns cn=_;rw[rB,rB];by_cases C:k=e
  ·rw[bI C,bI C];exact U.fo E L
  ·rw[bU C,bU C];exact A.oZ _ _ _
 ·rw[pN];show (match nr.lookup n with | some x=>some x | none=>bif dK n ns || dK n cn then none else ((cO e x u σ).m n).map (bh.fo ns cn))=if n=e then some x else (match nr.lookup n with | some x=>some x | none=>bif dK n ns || dK n cn then none else (σ.m n).map (bh.fo ns cn)).map (bh.drop e);by_cases D:n=e
  ·subst D;rw[bI rfl,hl,E,L];simp only[Bool.or_false,aq,pN,if_true,Option.map_some,T.fo]
  ·rw[bU D];cases Y:nr.lookup n with
   |some y=>simp only[Option.map_some];rw[(O _ (XY Y)).2]
   | none=>
    simp only;cases (dK n ns ||dK n cn)with
    |true=>rfl
    | false=>
     simp only[aq];rw[pN,bU D,Option.map_map,Option.map_map];congr 1;funext y;exact bh.oZ y _ _
/-! What a call reads. -/
def aeU{q:aa Nat}{k:V->ah X}(h:dc e q=false):jt (cO e x u σ).m q k=jt σ.m q k:=asd q k h
def xS{y:Operand}(h:(aL σ y).nr p=true)(C:p e=true)(D:y ≠ .tmp e):aL (cO e x u σ) y=aL σ y:=by
 cases y with
 | tmp t=>
  show (cO e x u σ).t t=σ.t t;rw[rB,bU (by rintro rfl;exact D rfl)];exact A.zW h C
 |_=>rfl
def X8{l:Lf}{k:V->ah X}(h:l.nr p=true)(C:p e=true):pg (cO e x u σ) l k=pg σ l k:=by
 cases l with
 |own q=>exact aeU (aej h C)
 |_=>rfl
def aeV{q:aa Nat}{s i j:Nat}{k:V->ah X}(h:oy p q=true)(C:p e=true):vC (cO e x u σ) q s i j k=vC σ q s i j k:=by
 unfold vC;exact aeU (aej h C)
def asx{y:A}{k:V->ah X}(h:y.nr p=true)(C:p e=true):sq (cO e x u σ) y k=sq σ y k:=by
 cases y with
 |lf l=>exact X8 h C
 |view q s i j=>exact aeV h C
 |_=>rfl
def X9(C:p e=true):∀ (xs:aa Lf) (k:aa V -> ah X),xs.all (Lf.nr p)=true -> q9 (cO e x u σ) xs k=q9 σ xs k
 |[],k,_=>rfl
 | y :: xs,k,h=>by
  rw[List.all_cons,aU]at h;simp[q9,X8 h.1 C];congr 1;funext z;exact X9 C xs _ h.2
def asy{y:A}{k:Pt->ah X}(h:y.nr p=true)(C:p e=true):oh (cO e x u σ) y k=oh σ y k:=by
 cases y with
 |lf l=>simp only[oh];exact X9 C _ _ (by rw[List.all_cons,show l.nr p=true from h];rfl)
 |agg cs=>simp only[oh];exact X9 C _ _ h
 |view q s i j=>simp only[oh];exact aeV h C
 |jr cs=>cases cs<;>rfl
 |_=>rfl
def aeW(C:p e=true):∀ (xs:aa Operand) (k:aa Pt->ah X),(∀ y∈xs,(aL σ y).nr p=true/\y ≠ .tmp e)->sv (cO e x u σ) xs k=sv σ xs k
 |[],k,_=>rfl
 | y :: xs,k,h=>by
  obtain⟨D,E⟩:=h y (.head _);unfold sv vM;rw[xS D C E,asy D C];congr 1;funext z;exact aeW C xs _ (λy L=>h y (.tail _ L))
def Ya{ns:aa Nat}(C:p e=true):∀ (xs:aa Lf) (k:aa V -> ah X),xs.all (Lf.nr p)=true -> xD (cO e x u σ) ns xs k=xD σ ns xs k
 |[],k,_=>rfl
 | y :: xs,k,h=>by
  rw[List.all_cons,aU]at h;simp[xD,X8 h.1 C];congr 2;funext z;exact Ya C xs _ h.2
def aeX{d:Nat}:∀ (xs:aa Lf),qY (xs.map (Lf.drop d))=qY xs
 |[]=>rfl
 | x :: xs=>by
  have C:(x.drop d).pl=x.pl:=by
   cases x with
   | own k=>
    show (bif dc d k then _ else Lf.own k).pl=_;cases dc d k<;>rfl
   |_=>rfl
  simp[List.map_cons,qY,C,aeX]
def asz{ns:aa Nat}{y:A}{k:Pt->ah X}(h:y.nr p=true)(C:p e=true):vO (cO e x u σ) ns y k=vO σ ns y k:=by
 cases y with
 |lf l=>simp only[vO];exact Ya C _ _ (by rw[List.all_cons,show l.nr p=true from h];rfl)
 |agg cs=>simp only[vO];exact Ya C _ _ h
 |nH f cs=>cases cs<;>rfl
 | fn f cap=>
  match cap,h with
  |[],_=>rfl
  |_::_::_,_=>rfl
  | [(D,j)],h=>
   have E:p D=false:=by simpa [A.nr,A.fr,vS]using h
   have L:D≠e:=by rintro rfl;rw[C]at E;cases E
   simp only[vO,pN,bU L];cases σ.m D with
   |none=>rfl
   | some z=>
    cases z with
    |aB cs=>simp only[Option.map_some,bh.Jg,<-List.map_drop,aeX]
    |_=>rfl
 |_=>rfl
def asA{l:Lf}(h:l.nr p=true)(C:p e=true):zP (cO e x u σ).m l=zP σ.m l:=by
 cases l with
 | own k=>
  match k with
  |[]=>rfl
  | [q]=>
   have D:q≠e:=by
    have h:(!p q)=true:=by simpa [Lf.nr,Lf.fr,oy,jB]using h
    rintro rfl;rw[C]at h;cases h
   simp only[zP];rw[pN,bU D];cases σ.m q with
   |none=>rfl
   |some y=>cases y<;>rfl
  |_::_::_=>rfl
 |v x=>rfl
 |dead=>rfl
def aeY(D:p e=true):∀ (C:aa Lf),C.all (Lf.nr p)=true -> tR (cO e x u σ).m C=tR σ.m C
 |[],_=>rfl
 | l :: C,h=>by
  rw[List.all_cons,aU]at h;simp[tR,asA h.1 D,aeY D C h.2]
def aeZ{m:Nat->ah bh}:∀ {cs:aa Lf} {E:aa (V×ah Nat)},tR m cs=some E->cs.all (Lf.nr p)=true->∀ v∈E,∀ q,v.2=some q->p q=false
 |[],E,h,_=>by injection h with h;subst h;simp
 | c :: cs,E,h,L=>by
  rw[List.all_cons,aU]at L;unfold tR at h;split at h
  ·rename_i v Y C T;injection h with h;subst h;intro u hu q D;rcases iw.1 hu with rfl | hu
   ·unfold zP at C;split at C
    ·injection C with C;rw[<-C]at D;cases D
    ·rename_i Z;split at C
     ·rename_i y _;cases O:y.aF with
      |true=>rw[O]at C;injection C with C;rw[<-C]at D;cases D
      | false=>
       rw[O,aq]at C;injection C with C;rw[<-C]at D;injection D with D;subst D;have U:=L.1
       simpa [Lf.nr,Lf.fr,oy,jB]using U
     ·cases C
    ·cases C
   ·exact aeZ T L.2 u hu q D
  ·cases h
def PS(p:Nat->Bool):Mu->Prop
 |.aB r cs C=>p r=false/\cs.all (Lf.nr p)=true/\∀v∈C,∀q,v.2=some q->p q=false
 |.sl q _=>p q=false
def Yb(L:p e=true):∀ (ps:aa PK) (xs:aa Operand) (O:aa Mu),(∀ y∈xs,(aL σ y).nr p=true/\y ≠ .tmp e)->(∀ n∈oz σ ps xs,xP σ p n=true)->nO σ ps xs=some O->nO (cO e x u σ) ps xs=some O/\∀ C∈O,PS p C
 |[],[],O,_,_,h=>⟨h,by injection h with h;subst h;simp⟩
 |[],_::_,O,_,_,h=>by cases h
 |_::_,[],O,_,_,h=>by cases h
 | q :: ps,y :: xs,O,hy,hl,h=>by
  obtain⟨E,h2⟩:=hy y (.head _);have vJ:∀ n∈oz σ ps xs,xP σ p n=true:=by
   intro n Z;refine hl n ?_;cases q with
   |v=>exact Z
   |s=>exact Z
   | p t g off=>
    simp only[oz];split
    ·exact .tail _ Z
    ·exact Z
  unfold nO at h;have D:∀ z,B6 σ q (aL σ y)=some z->B6 (cO e x u σ) q (aL (cO e x u σ) y)=some z/\∀ C,z=some C->PS p C:=by
   intro z hz;rw[xS E L h2];have T:=B9 hz;cases q with
   | v=>
    cases z with
    |some C=>exact T.elim
    |none=>exact⟨hz,by simp⟩
   | p t g off=>
    cases z with
    |none=>exact T.elim
    | some C=>
     cases C with
     |sl=>exact T.elim
     | aB Y cs vs=>
      obtain⟨U,hm,hg,hlen⟩:=T;have fE:p Y=false:=by
       rw[U]at E;have E:(!p Y)=true:=E
       simpa using E
      have dy:Y≠e:=by rintro rfl;rw[L]at fE;cases fE
      have gI:cs.all (Lf.nr p)=true:=by
       have:=hl Y (by simp only[oz,U];exact .head _);unfold xP at this;rw[hm]at this;exact this
      have vE:(cO e x u σ).m Y=some (.aB cs):=by
       rw[pN,bU dy,hm];simp only[Option.map_some,bh.Jg,qU.zW gI L]
      refine⟨?_,λC D=>?_⟩
      ·rw[U];simp only[B6,Nat.beq_refl,au,vE,aeY L cs gI,hg];have:Nat.blt cs.length 999=true:=jn hlen;rw[this];rfl
      ·injection D with D;subst D;exact⟨fE,gI,aeZ hg gI⟩
   | s t g=>
    cases z with
    |none=>exact T.elim
    | some C=>
     cases C with
     |aB=>exact T.elim
     | sl q y0=>
      obtain⟨U,hm,hf⟩:=T;have hq:p q=false:=by
       rw[U]at E;have E:(!p q)=true:=by simpa [A.nr,A.fr,vS,Lf.nr,Lf.fr,oy,jB]using E
       simpa using E
      have dy:q≠e:=by rintro rfl;rw[L]at hq;cases hq
      refine⟨?_,λC D=>?_⟩
      ·rw[U];simp only[B6];rw[pN,bU dy,hm];simp only[Option.map_some,bh.drop,hf,aq,bh.cL]
      ·injection D with D;subst D;exact hq
  split at h
  ·rename_i C Pp k1 k2;injection h with h;subst h;obtain⟨g1,g2⟩:=D _ k1;obtain⟨f1,f2⟩:=Yb L ps xs Pp (λy h=>hy y (.tail _ h)) vJ k2
   refine⟨by simp only[nO,g1,f1],λm hm=>?_⟩
   rcases iw.1 hm with rfl|hm
   ·exact g2 _ rfl
   ·exact f2 m hm
  next Pp k1 k2=>injection h with h;subst h;obtain⟨g1,g2⟩:=D _ k1;obtain⟨f1,f2⟩:=Yb L ps xs Pp (λy h=>hy y (.tail _ h)) vJ k2;exact⟨by simp only[nO,g1,f1],f2⟩
  ·cases h
def PT(D:p e=true)(ns:aa Nat):∀ (ps:aa PK) (xs:aa Operand) (C:aa Mu) (k:mM ps->ah X),(∀ y∈xs,(aL σ y).nr p=true/\y ≠ .tmp e)->ow (cO e x u σ) ns ps xs C k=ow σ ns ps xs C k
 |[],[],[],k,_=>rfl
 | .v b t :: ps,y :: xs,C,k,h=>by
  obtain⟨L,O⟩:=h y (.head _);simp only[ow];rw[xS L D O,asz L D];congr 1;funext z;congr 1;split
  ·exact PT D ns ps xs C _ (λy E=>h y (.tail _ E))
  ·rfl
 | .p t g off :: ps,y :: xs,.aB T cs U :: C,k,h=>by
  simp only[ow];split
  ·exact PT D ns ps xs C _ (λy E=>h y (.tail _ E))
  ·rfl
 | .s t g :: ps,y :: xs,.sl q Y :: C,k,h=>by
  simp only[ow];split
  ·exact PT D ns ps xs C _ (λy E=>h y (.tail _ E))
  ·rfl
 |[],[],_::_,k,_=>rfl
 |[],_::_,_,k,_=>rfl
 |.v _ _::_,[],_,k,_=>rfl
 |.p _ _ _::_,[],_,k,_=>rfl
 |.s _ _::_,[],_,k,_=>rfl
 |.p _ _ _::_,_::_,[],k,_=>rfl
 |.s _ _::_,_::_,[],k,_=>rfl
 |.p _ _ _::_,_::_,.sl _ _::_,k,_=>rfl
 |.s _ _::_,_::_,.aB _ _ _::_,k,_=>rfl
def Yc{i:Nat}:∀ (C:aa (V×ah Nat)) (j:Nat),(∀ v∈C,∀ q,v.2=some q -> p q=false) -> ∀ u∈IK i j C,p u.1=false
 |[],_,_,u,hu=>by cases hu
 |(y,none)::C,j,h,u,hu=>Yc C (j+1) (λv D=>h v (.tail _ D)) u hu
 | (y,some q) :: C,j,h,u,hu=>by
  rcases iw.1 hu with rfl|hu
  ·simp_all
  ·exact Yc C (j+1) (λv D=>h v (.tail _ D)) u hu
def Yd:∀ (C:aa Mu) (i:Nat),(∀ E∈C,PS p E) -> ∀ u∈ov i C,p u.1=false
 |[],_,_,u,hu=>by cases hu
 | .aB U cs L :: C,i,h,u,hu=>by
  obtain⟨O,Y,T⟩:=h _ (.head _);rcases iw.1 hu with rfl|hu
  ·exact O
  ·rcases List.mem_append.1 hu with hu | hu
   ·exact Yc L 0 T u hu
   ·exact Yd C _ (λm D=>h m (.tail _ D)) u hu
 | .sl q y :: C,i,h,u,hu=>by
  rcases iw.1 hu with rfl|hu
  ·exact h _ (.head _)
  ·exact Yd C (i+1) (λm D=>h m (.tail _ D)) u hu
def Ye{c0:Nat}(E:∀ n,c0 <= n -> p n=false):∀ (C:aa (V×ah Nat)) (n:Nat),(∀ v∈C,∀ q,v.2=some q -> p q=false) -> ∀ u∈pK c0 n C,p u=false
 |[],_,_,u,hu=>by cases hu
 | (y,none) :: C,n,h,u,hu=>by
  rcases iw.1 hu with rfl|hu
  ·simp_all
  ·exact Ye E C (n+1) (λv D=>h v (.tail _ D)) u hu
 | (y,some q) :: C,n,h,u,hu=>by
  rcases iw.1 hu with rfl|hu
  ·simp_all
  ·exact Ye E C (n+1) (λv D=>h v (.tail _ D)) u hu
def Yf:∀ (C:aa Nat) (xs:aa V),∀ u∈Ca C xs,u∈C
 |[],[],u,hu=>by cases hu
 | n :: C,y :: xs,u,hu=>by
  simp[Ca]at hu;cases D:y.aF with
  |true=>rw[D]at hu;exact .tail _ (Yf C xs u hu)
  | false=>
   rw[D]at hu;rcases iw.1 hu with rfl|hu
   ·simp_all
   ·exact .tail _ (Yf C xs u hu)
def ae0{ns cn:aa Nat}:∀ (C:aa Nat) (D:aa Lf) (xs:aa V),(∀ n∈C,p n=false)->D.all (Lf.nr p)=true->(qi ns cn C D xs).all (Lf.nr p)=true
 |[],_,_,_,_=>by simp[qi]
 |_::_,[],_,_,_=>by simp[qi]
 |_::_,_::_,[],_,_=>by simp[qi]
 | n :: C,l :: D,y :: xs,L,E=>by
  rw[List.all_cons,aU]at E;simp only[qi,List.all_cons,aU]
  refine⟨?_,ae0 C D xs (λn O=>L n (.tail _ O)) E.2⟩
  cases y.plain with
  |true=>rfl
  | false=>
   simp only[aq];cases y.aF with
   | true=>
    simp only[au];cases l with
    | own k=>
     have T:Lf.fo ns cn (.own k)=(bif gJ k cn ||(gJ k ns && !(Nat.beq k.length 1))then .dead else .own k):=rfl;rw[T];cases (gJ k cn ||(gJ k ns && !(Nat.beq k.length 1)))with
     |true=>rfl
     |false=>exact E.1
    |v x=>rfl
    |dead=>rfl
   | false=>
    show (!p n)=true;rw[L n (.head _)];rfl
def Yg:∀ (C:aa Nat) (xs:aa V),∀ u∈zS C xs,u.1∈C /\ ∃ y,u.2 = .sl y
 |[],[],u,hu=>by cases hu
 |[],_::_,u,hu=>by cases hu
 | n :: C,y :: xs,u,hu=>by
  simp[zS]at hu;cases L:y.aF with
  |true=>rw[L]at hu;obtain⟨D,E⟩:=Yg C xs u hu;exact⟨.tail _ D,E⟩
  | false=>
   rw[L]at hu;rcases iw.1 hu with rfl|hu
   ·simp_all
   ·obtain⟨D,E⟩:=Yg C xs u hu;exact⟨.tail _ D,E⟩
def Yh{c0:Nat}{ns cn:aa Nat}(E:p e=true)(T:∀ n,c0<=n->p n=false):∀ (D:aa Mu) (outs:aa In) (C:Nat),(∀ mu∈D,PS p mu)->(∀ u∈qh c0 C D outs,p u=false)/\∀ u∈ox ns cn c0 C D outs,u.1≠e/\u.2.drop e=u.2
 |[],outs,C,_=>⟨(λu hu=>by simp[qh]at hu),(λu hu=>by simp[ox]at hu)⟩
 |.aB _ _ _::_,[],C,_=>⟨(λu hu=>by cases hu),(λu hu=>by cases hu)⟩
 |.sl _ _::_,[],C,_=>⟨(λu hu=>by cases hu),(λu hu=>by cases hu)⟩
 |.aB _ _ _::_,.sl _::_,C,_=>⟨(λu hu=>by cases hu),(λu hu=>by cases hu)⟩
 |.sl _ _::_,.aB _::_,C,_=>⟨(λu hu=>by cases hu),(λu hu=>by cases hu)⟩
 | .aB r' cs vs :: D,.aB xs :: outs,C,h=>by
  obtain⟨L,h2,h3⟩:=h _ (.head _);obtain⟨U,O⟩:=Yh (ns:=ns) (cn:=cn) E T D outs (C+1+vs.length) (λm Y=>h m (.tail _ Y));have dy:∀n,p n=false->n≠e:=by rintro n hn rfl;rw[E]at hn;cases hn
  have Z:=Ye T vs (C+1) h3
  refine⟨λu hu=>?_,λu hu=>?_⟩
  ·simp only[qh]at hu;rcases List.mem_append.1 hu with hu | hu
   ·exact Z u (Yf _ _ u hu)
   ·exact U u hu
  ·simp only[ox]at hu;rcases iw.1 hu with rfl | hu
   ·refine⟨dy _ L,?_⟩;rw[bh.Jg,qU.zW (ae0 _ _ _ Z h2) E]
   ·rcases List.mem_append.1 hu with hu | hu
    ·obtain⟨g1,y,g2⟩:=Yg _ _ u hu;exact⟨dy _ (Z _ g1),by rw[g2];rfl⟩
    ·exact O u hu
 | .sl q y :: D,.sl y' :: outs,C,h=>by
  have L:p q=false:=h _ (.head _);obtain⟨U,O⟩:=Yh (ns:=ns) (cn:=cn) E T D outs (C+1) (λm Y=>h m (.tail _ Y))
  refine⟨λu hu=>U u (by simpa [qh]using hu),λu hu=>?_⟩
  simp only[ox]at hu;cases hy:y'.kg with
  |false=>rw[hy]at hu;exact O u hu
  |true=>
  rw[hy]at hu;rcases iw.1 hu with rfl|hu
  ·exact⟨(by rintro rfl;rw[E]at L;cases L),rfl⟩
  ·exact O u hu
def Yi:∀ (xs:aa V) (c:Nat),e<c->(om c xs).map (Lf.drop e)=om c xs
 |[],_,_=>rfl
 | y :: xs,c,h=>by
  simp only[om,List.map_cons];rw[Yi xs (c+1) (by omega)];cases y.aF with
  |true=>rfl
  | false=>
   have:dc e [c]=false:=by simp[dc];omega
   simp only[aq,Lf.drop,this,Lf.cL]
def asC{b:Bool}{xs:aa Lf}{y:A}(h:zm (b,xs)=some y)(C:xs.map (Lf.drop e)=xs):y.drop e=y:=by
 unfold zm at h;split at h
 next D=>injection h with h;subst h;obtain⟨_,rfl⟩:=D;exact aZ A.agg C
 next z D=>injection h with h;subst h;obtain⟨_,rfl⟩:=D;simp at C;exact aZ A.lf C
 ·cases h
def ae1:∀ (ps:aa Pt) (c:Nat),e<c->(sx c ps).map (λq=>(q.1,q.2.map (Lf.drop e)))=sx c ps
 |[],_,_=>rfl
 | q :: ps,c,h=>by
  simp only[sx,List.map_cons];rw[Yi _ _ h,ae1 ps _ (by omega)]
def asD(ps:aa Pt)(c:Nat)(h:e<c):A.drop e (.fk (sx c ps)) = .fk (sx c ps):=aZ A.fk (ae1 ps c h)
def ae2(C:kz x)(D:mT e u)(U:e<20000)(E:d≠e){L:gj}{O:S}(h:oq σ d L some=some O):oq (cO e x u σ) d L some=some (cO e x u O):=by
 unfold oq at h ⊢;split at h
 ·split at h
  next y T=>injection h with h;subst h;rw[PO C D _ _ _ (by omega),PR E (asC T (Yi _ _ (by omega)))]
  ·cases h
 ·injection h with h;subst h;rw[aeT C D _ _ _ (by omega),PR E (asD _ _ (by omega))]
def asE(O:kz x)(T:mT e u)(U:e<20000){C:ah Tmp}(Y:C≠some e){E:gj}{D:S}(h:vP N σ C E some=some D):vP N (cO e x u σ) C E some=some (cO e x u D):=by
 cases C with
 | none=>
  have h:some σ=some D:=h;injection h with h;rw[<-h];rfl
 | some d=>
  unfold vP at h ⊢;cases L:Nat.blt d N with
  |false=>simp only[L,aq]at h;cases h
  | true=>
   simp only[L,au]at h ⊢;exact ae2 O T U (by rintro rfl;exact Y rfl) h
def asF(eE:fX P Φ)(hx:kz x)(Y:mT e u)(he:e<20000)(T:p e=true)(Ct:∀ n,20000<=n->p n=false)(C:nQ Φ o=true)(hd:o.dst≠some e)(sL:∀ y∈o.op.operands,(aL σ y).nr p=true/\y ≠ .tmp e)(hl:∀ n∈sH Φ σ o,xP σ p n=true){τ:S}
  (h:dX P N Φ σ o some=some τ):dX P N Φ (cO e x u σ) o some=some (cO e x u τ):=by
 have vW:∃ f args nM,o.op = .call { callee:=.value (.func f),args:=args,argTypes:=nM }:=by
  unfold nQ at C;split at C
  ·exact⟨_,_,_,by assumption⟩
  ·cases C
 obtain⟨f,args,nM,D⟩:=vW;have me:∀ y∈args.toList,(aL σ y).nr p=true/\y ≠ .tmp e:=by
  intro y hy;refine sL y ?_;rw[D];simp only[Op.operands,Call.operands];simp only[Array.mem_append]
  first
   |exact .inr (by simpa using hy)
   |exact .inl (by simpa using hy)
 have dP:∀ σ2,dX P N Φ σ2 o some=iU P N Φ σ2 o some:=by
  intro σ2;unfold dX;rw[show fY o.op=false by rw[D];rfl,aq]
 rw[dP]at h ⊢;cases L:Φ f with
 |none=>simp only[iU,D,L]at h;cases h
 | some c=>
  cases c with
  |n F=>rw[nQ,D]at C;simp[L]at C
  |v c=>rw[nQ,D]at C;simp[L]at C
  |i c=>rw[nQ,D]at C;simp[L]at C
  |d c=>rw[nQ,D]at C;simp[L]at C
  |q c=>rw[nQ,D]at C;simp[L]at C
  |c c=>rw[nQ,D]at C;simp[L]at C
  | p c=>
   simp only[iU,D,L]at h ⊢;obtain⟨d,Z,h⟩:=ku h;have hde:d≠e:=by rintro rfl;exact hd Z
   obtain⟨res,sr,h1,E,h3⟩:=Pf (Ji eE L) E0 h;injection E with E;subst E;simp only[hD,Z];exact(h3 (cO e x u σ) (cO e x u sr) (λX k=>sv (cO e x u σ) args.toList k) (λX k=>aeW T _ k me) (ae2 hx Y he hde h1)).at_ _
  | m c=>
   simp only[iU,D,L]at h ⊢;have IU:∀ n∈oz σ c.ps args.toList,xP σ p n=true:=by
    intro n U;refine hl n ?_;simp only[sH,D,L];exact U
   unfold sD at h;split at h
   ·rename_i O zV;obtain⟨g1,g2⟩:=Yb (x:=x) (u:=u) T c.ps args.toList O me IU zV;cases mN:(once (ov 0 O)&&Nat.ble O.length 40)with
    |false=>rw[mN]at h;cases h
    | true=>
     rw[mN,au]at h;obtain⟨z,E,ae3⟩:=(Xy _ _ _).nK h;simp only[sD,g1,mN,au];rw[PT T _ _ _ _ _ me];refine(ae3 S _).trans ?_;split at E
     ·rename_i y hy;unfold O5 at E ⊢;generalize pG:qh (jc o.dst) (fF c.ro y.1).len O (lJ (fC c.ps) y.2)=cn at E;generalize jE:IQ N O (lJ (fC c.ps) y.2) cn=ok at E;cases ok with
      |false=>cases E
      | true=>
       rw[au]at E;have xy:∀ n,jc o.dst<=n->p n=false:=by
        intro n U;refine Ct n ?_;cases Z:o.dst with
        |none=>rw[Z]at U;simp only[jc]at U;omega
        |some d=>rw[Z]at U;simp only[jc]at U;omega
       obtain⟨k1,k2⟩:=Yh (ns:=(ov 0 O).map (·.1)) (cn:=cn) T xy O (lJ (fC c.ps) y.2) (fF c.ro y.1).len g2;rw[pG]at k1;rw[au,asw hx Y ?_ ?_ k2]
       ·exact asE hx Y he hd E
       ·cases hm:dK e ((ov 0 O).map (·.1))with
        |false=>rfl
        | true=>
         obtain⟨u,Y,e1⟩:=List.mem_map.1 (xB.1 hm);have:=Yd O 0 g2 u Y;rw[e1,T]at this;cases this
       ·cases hm:dK e cn with
        |false=>rfl
        |true=>have:=k1 e (xB.1 hm);rw[T]at this;cases this
     ·cases E
   ·cases h
def A.ae4{y:A}(h:y.fY=true)(K:nI):y.cL K=y:=by
 refine A.qT ?_;cases y with
 |lf l=>cases l<;>first|rfl|cases h
 | agg cs=>
  refine cx.2 λl hl=>?_
  have:=cx.1 h l hl;cases l<;>first|rfl|cases this
 |_=>cases h
def A.PU{y:A}(h:y.fY=true)(n:Nat):y.drop n=y:=A.ae4 h _
def A.asG{y:A}(h:y.fY=true)(ns cn:aa Nat):y.fo ns cn=y:=A.ae4 h _
def Yj:∀ (xs:aa V) (c:Nat) (σ:S) {t:Nat},(σ.t t).fY=true -> (mL c σ xs).t t=σ.t t
 |[],c,σ,t,h=>rfl
 | y :: xs,c,σ,t,h=>by
  simp[mL];cases y.aF with
  |true=>exact Yj xs _ σ h
  | false=>
   simp;have C:(((σ.drop c).root c (.sl y)).t t)=σ.t t:=by rw[X7];exact A.PU h c
   rw[Yj xs _ _ (by rw[C];exact h),C]
def ae5:∀ (ps:aa Pt) (c:Nat) (σ:S) {t:Nat},(σ.t t).fY=true -> (pI c σ ps).t t=σ.t t
 |[],c,σ,t,h=>rfl
 | q :: ps,c,σ,t,h=>by
  simp[pI];have C:=Yj q.2 c σ h;rw[ae5 ps _ _ (by rw[C];exact h),C]
def ae6{D:gj}{C:S}(h:oq σ d D some=some C){t:Nat}(E:(σ.t t).fY=true)(L:t≠d):C.t t=σ.t t:=by
 obtain⟨ps,u,O⟩:=aeK h;rw[O]at h;injection h with h;rw[<-h];exact(cR _ _ _ L).trans (ae5 _ _ _ E)
def asH{C:ah Tmp}{L:gj}{D:S}(h:vP N σ C L some=some D){t:Nat}(O:(σ.t t).fY=true)(T:C≠some t):D.t t=σ.t t:=by
 cases C with
 | none=>
  have h:some σ=some D:=h;injection h with h;rw[<-h]
 | some d=>
  unfold vP at h;cases E:Nat.blt d N with
  |false=>simp only[E,aq]at h;cases h
  | true=>
   simp only[E,au]at h;exact ae6 h O (by rintro rfl;exact T rfl)
def asJ(eE:fX P Φ)(C:nQ Φ o=true){U:S}(h:dX P N Φ σ o some=some U){t:Nat}(T:(σ.t t).fY=true)(Y:o.dst≠some t):U.t t=σ.t t:=by
 have vW:∃ f args Z,o.op = .call { callee:=.value (.func f),args:=args,argTypes:=Z }:=by
  unfold nQ at C;split at C
  ·exact⟨_,_,_,by assumption⟩
  ·cases C
 obtain⟨f,args,Z,E⟩:=vW;have dP:dX P N Φ σ o some=iU P N Φ σ o some:=by
  unfold dX;rw[show fY o.op=false by rw[E];rfl,aq]
 rw[dP]at h;cases L:Φ f with
 |none=>simp only[iU,E,L]at h;cases h
 | some c=>
  cases c with
  |n F=>rw[nQ,E]at C;simp[L]at C
  |v c=>rw[nQ,E]at C;simp[L]at C
  |i c=>rw[nQ,E]at C;simp[L]at C
  |d c=>rw[nQ,E]at C;simp[L]at C
  |q c=>rw[nQ,E]at C;simp[L]at C
  |c c=>rw[nQ,E]at C;simp[L]at C
  | p c=>
   simp only[iU,E,L]at h;obtain⟨d,tY,h⟩:=ku h;obtain⟨res,sr,h1,D,h3⟩:=Pf (Ji eE L) E0 h;injection D with D;subst D;exact ae6 h1 T (by rintro rfl;exact Y tY)
  | m c=>
   simp only[iU,E,L]at h;unfold sD at h;split at h
   ·rename_i O zV;cases mN:(once (ov 0 O)&&Nat.ble O.length 40)with
    |false=>rw[mN]at h;cases h
    | true=>
     rw[mN,au]at h;obtain⟨z,D,ae3⟩:=(Xy _ _ _).nK h;split at D
     ·rename_i y hy;unfold O5 at D;generalize IQ N O (lJ (fC c.ps) y.2) (qh (jc o.dst) (fF c.ro y.1).len O (lJ (fC c.ps) y.2))=ok at D;cases ok with
      |false=>cases D
      | true=>
       rw[au]at D;have e1:∀ns cn nr,(σ.fo ns cn nr).t t=σ.t t:=λns cn nr=>A.asG T ns cn
       have:=asH (t:=t) D (by rw[e1];exact T) Y;rw[this,e1]
     ·cases D
   ·cases h
def asK{E:Nat}{L:bh}{O:A}(T:kz x)(U:mT e u)(Y:kz L)(Z:mT E O)(h:e≠E):cO E L O (cO e x u σ)=cO e x u (cO E L O σ):=by
 refine S.ext' (λk=>?_) λn=>?_
 ·simp only[rB];by_cases C:k=E
  ·subst C;rw[bI rfl,bU (Ne.symm h),bI rfl,Z.drop (Ne.symm h)]
  ·rw[bU C];by_cases D:k=e
   ·subst D;rw[bI rfl,bI rfl,U.drop h]
   ·rw[bU D,bU D,bU C,A.X6]
 ·simp only[pN];by_cases C:n=E
  ·subst C;rw[bI rfl,bU (Ne.symm h),bI rfl,Option.map_some,Y.drop]
  ·rw[bU C];by_cases D:n=e
   ·subst D;rw[bI rfl,bI rfl,Option.map_some,T.drop]
   ·rw[bU D,bU D,bU C];cases σ.m n with
    |none=>rfl
    |some y=>simp only[Option.map_some,bh.X6]
def asM(O:kz x)(T:mT e u)(U:p e=true)(Y:oA o=true)(Z:o.dst≠some e)(C:∀ y∈o.op.operands,(aL σ y).nr p=true/\y ≠ .tmp e){D:S}
  (h:dX P N Φ σ o some=some D):dX P N Φ (cO e x u σ) o some=some (cO e x u D):=by
 obtain⟨e',x',u',hd',IJ,mb,vF,iI,tX⟩:=PF (o:={ o with guard:=none }) (ops:=#[]) Y rfl h;have dy:e≠e':=by rintro rfl;exact Z hd'
 have E:=tX (cO e x u σ) rfl λy L=>xS (C y L).1 U (C y L).2
 rw[asK O T mb vF dy,<- iI]at E;exact E
def asN(D:oA o=true){C:S}(h:dX P N Φ σ o some=some C){t:Nat}(E:(σ.t t).fY=true)(L:o.dst≠some t):C.t t=σ.t t:=by
 obtain⟨O,Z,u',T,IJ,mb,vF,U,tX⟩:=PF (o:={ o with guard:=none }) (ops:=#[]) D rfl h;have Y:t≠O:=by rintro rfl;exact L T
 rw[U,rB,bU Y,A.PU E]
def asO(hx:kz x)(hu:mT e u)(C:p e=true)(hm:isApp o=true)(hd:o.dst≠some e)(O:∀ y∈o.op.operands,(aL σ y).nr p=true/\y ≠ .tmp e){T:S}
  (h:dX P N Φ σ o some=some T):dX P N Φ (cO e x u σ) o some=some (cO e x u T):=by
 obtain⟨a,b,t,t',L,hn,nL,hk⟩:=X0 hm;have E:=O a (by rw[L];simp[Op.operands,Call.operands]);have hb:=O b (by rw[L];simp[Op.operands,Call.operands]);rw[Jj L hn nL hk]at h ⊢;obtain⟨d,U,h⟩:=ku h;obtain⟨r,v,iI,hr,tX⟩:=PG h;have Y:d≠e:=by rintro rfl;exact hd U
 have Z:r≠e:=by
  rcases hr with h1|h1
  ·rw[h1];exact Y
  ·rintro rfl;have D:=E.1;rw[h1]at D;simp[A.nr,A.fr,vS,Lf.nr,Lf.fr,oy,jB,C]at D
 unfold hD;rw[U];simp only;rw[xS E.1 C E.2,xS hb.1 C hb.2,tX (cO e x u σ) (λk=>asx hb.1 C) (λr' v' fE vE=>?_)]
 ·rw[aeS v hx hu (Ne.symm Z),PR Y ?_,iI];have:dc e [r]=false:=by simp[dc,Z]
  simp only[A.drop,Lf.drop,this,aq,A.cL,xd,Lf.cL]
 ·have dy:r'≠e:=by
   rintro rfl;have D:=E.1;rw[fE]at D;simp[A.nr,A.fr,vS,Lf.nr,Lf.fr,oy,jB,C]at D
  rw[pN,bU dy,vE];rfl
def asP(D:isApp o=true){C:S}(h:dX P N Φ σ o some=some C){t:Nat}(E:(σ.t t).fY=true)(L:o.dst≠some t):C.t t=σ.t t:=by
 obtain⟨a,b,t1,t2,O,T,U,Y⟩:=X0 D;rw[Jj O T U Y]at h;obtain⟨d,Z,h⟩:=ku h;obtain⟨r,v,iI,hr,tX⟩:=PG h;have dy:t≠d:=by rintro rfl;exact L Z
 rw[iI];show cg ((σ.drop r).root r _).t d _ t=_;rw[cR _ _ _ dy];exact A.PU E r
def ae7(C:∃ ty t y,o.op = .store ty (.tmp t) y/\o.dst=none /\ ∃ r j,σ.t t = .aH r j){L:S}(h:dX P N Φ σ o some=some L):∃ t y r j cs xs,o.op.operands = #[.tmp t,y]/\σ.t t = .aH r j/\(aL σ y).zk=some xs/\σ.m r=some (.aB cs)/\L=σ.root r (.aB (splice cs j xs)) /\
  ∀(σ2:S) (D:aa Lf),σ2.t t = .aH r j -> aL σ2 y=aL σ y -> σ2.m r=some (.aB D) -> D.length=cs.length -> dX P N Φ σ2 o some=some (σ2.root r (.aB (splice D j xs))):=by
 obtain⟨ty,t,y,C,Y,r,j,O⟩:=C;have T:∀ σ2:S,σ2.t t = .aH r j -> dX P N Φ σ2 o some=qe P σ2 ty (.aH r j) (aL σ2 y) some:=by
  intro σ2 E;unfold dX;rw[show fY o.op=false by rw[C];rfl,aq];simp[iU,C,Y];have Z:aL σ2 (.tmp t) = .aH r j:=E;rw[Z,show xN _ _=false from rfl,aq]
 rw[T σ O]at h;unfold qe at h;split at h
 ·rename_i n xs hn U;split at h
  ·rename_i hlen;simp only at h;split at h
   ·rename_i cs gI;split at h
    ·rename_i hj;cases hl:xs.all Lf.live with
     |false=>simp_all
     | true=>
      rw[hl,au]at h;injection h with h
      refine⟨t,y,r,j,cs,xs,by rw[C];rfl,O,U,gI,h.symm,λσ2 D h1 E h3 h4=>?_⟩
      rw[T σ2 h1,E];simp only[qe,hn,U,bI hlen,h3];rw[bI (by rw[h4];exact hj),hl];rfl
    ·cases h
   ·cases h
  ·cases h
 ·cases h
def ae8(C:Jd o=true)(E:xO σ o=true):∃ ty t y,o.op = .store ty (.tmp t) y/\o.dst=none /\ ∃ r j,σ.t t = .aH r j:=by
 unfold Jd at C;rw[aU]at C;obtain⟨D,L⟩:=C;split at D
 ·rename_i ty t y O;refine⟨ty,t,y,O,Option.isNone_iff_eq_none.1 L,?_⟩;unfold xO at E
  grind
 ·cases D
def asQ{y:A}{xs:aa Lf}(h:y.zk=some xs)(C:y.nr p=true):xs.all (Lf.nr p)=true:=by
 cases y with
 |lf l=>injection h with h;subst h;rw[List.all_cons,show l.nr p=true from C];rfl
 |agg cs=>injection h with h;subst h;exact C
 |_=>cases h
def asR(hx:kz x)(hu:mT e u)(C:p e=true)(hm:Jd o=true)(hs:xO σ o=true)(O:∀ y∈o.op.operands,(aL σ y).nr p=true/\y ≠ .tmp e){T:S}
  (h:dX P N Φ σ o some=some T):dX P N Φ (cO e x u σ) o some=some (cO e x u T):=by
 obtain⟨t,y,r,j,cs,xs,U,Y,g3,g4,g5,g6⟩:=ae7 (ae8 hm hs) h;have D:=O (.tmp t) (by rw[U];simp);have E:=O y (by rw[U];simp);have e1:(cO e x u σ).t t = .aH r j:=(xS D.1 C D.2).trans Y;have Z:r≠e:=by
  have h2:(aL σ (.tmp t)).nr p=true:=D.1;have h3:aL σ (.tmp t) = .aH r j:=Y;rw[h3]at h2;exact ase h2 C
 have e3:(cO e x u σ).m r=some (.aB (cs.map (Lf.drop e))):=by
  rw[pN,bU Z,g4];rfl
 have pn:=qU.zW (asQ g3 E.1) C;rw[g6 (cO e x u σ) _ e1 (xS E.1 C E.2) e3 (by rw[eS]),g5];congr 1
 refine S.ext' (λk=>?_) λn=>?_
 ·show (cO e x u σ).t k=(cO e x u (σ.root r (.aB (splice cs j xs)))).t k;rw[rB,rB];rfl
 ·show cg (cO e x u σ).m r (some (.aB (splice (cs.map (Lf.drop e)) j xs))) n=(cO e x u (σ.root r (.aB (splice cs j xs)))).m n;rw[pN];by_cases L:n=r
  ·subst L;rw[cv,bU Z];show _=(cg σ.m n (some (bh.aB (splice cs j xs))) n).map (bh.drop e);rw[cv];simp only[Option.map_some,bh.Jg,splice,List.map_append,List.map_take,List.map_drop,pn]
  ·rw[cR _ _ _ L,pN];have:(σ.root r (.aB (splice cs j xs))).m n=σ.m n:=cR _ _ _ L;rw[this]
def asT(D:Jd o=true)(E:xO σ o=true){C:S}(h:dX P N Φ σ o some=some C)(t:Nat):C.t t=σ.t t:=by
 obtain⟨_,_,r,j,cs,xs,_,_,_,_,L,_⟩:=ae7 (ae8 D E) h;rw[L];rfl
def asU(Y:fX P Φ)(C:kz x)(D:mT e u)(Z:e<20000)(E:p e=true)(Ct:∀ n,20000<=n->p n=false)(O:Je Φ o=true)(ko:xO σ o=true)(T:o.dst≠some e)(L:∀ y∈o.op.operands,(aL σ y).nr p=true/\y ≠ .tmp e)(hl:∀ n∈sH Φ σ o,xP σ p n=true){U:S}
  (h:dX P N Φ σ o some=some U):dX P N Φ (cO e x u σ) o some=some (cO e x u U):=by
 unfold Je at O;rw[eG,eG,eG]at O;rcases O with ((hc|hc)|hc)|hc
 ·exact asF Y C D Z E Ct hc T L hl h
 ·exact asM C D E hc T L h
 ·exact asO C D E hc T L h
 ·exact asR C D E hc ko L h
def asW(O:fX P Φ)(C:Je Φ o=true)(T:xO σ o=true){L:S}(h:dX P N Φ σ o some=some L){t:Nat}(D:(σ.t t).fY=true)(E:o.dst≠some t):L.t t=σ.t t:=by
 unfold Je at C;rw[eG,eG,eG]at C;rcases C with ((hc|hc)|hc)|hc
 ·exact asJ O hc h D E
 ·exact asN hc h D E
 ·exact asP hc h D E
 ·exact asT hc T h t
def ae9{i W j:Nat}{C:Oper}(D:ops[j]?=some C)(h:Ja ops i W j=true):∃ e∈C.after,Region.binds .any e=true/\(e.on=i\/W.testBit e.on=true):=by
 unfold Ja at h;rw[D]at h;obtain⟨e,E,hb⟩:=List.any_eq_true.1 h;rw[aU,eG]at hb
 refine⟨e,by simpa using E,hb.1,hb.2.imp (λh=>cK h) id⟩
def Yk{g:Oper -> Bool}{C:Oper}{i L W:Nat}:∀ (n j:Nat),Jb g ops C i L W n j=true -> ∀ k,j <= k -> k<j+n -> k=i \/ L.testBit k=true \/ (W.testBit k=true/\Ja ops i W k=true) \/ (W.testBit k=false /\ ∀ ok,ops[k]?=some ok -> g ok=true/\C.apart ops ok=true)
 |0,j,_,k,D,E=>by omega
 | n+1,j,h,k,D,E=>by
  unfold Jb at h;rw[aU,eG,eG]at h;by_cases O:k=j
  ·subst O;rcases h.1 with (h | h) | h
   ·exact .inl (cK h)
   ·exact .inr (.inl h)
   ·grind
  ·exact Yk n (j+1) h.2 k (by omega) (by omega)
def qt{g:Oper -> Bool}{i L W:Nat}:∀ (n j:Nat) (k:Nat),j <= k -> k<j+n -> k≠i -> L.testBit k=false -> W.testBit k=false -> ∀ ok,ops[k]?=some ok -> g ok=true -> jS g ops i L W n j=true
 |0,j,k,C,D,_,_,_,_,_,_=>by omega
 | n+1,j,k,C,D,hi,E,O,ok,T,U=>by
  unfold jS;rw[eG];by_cases Y:k=j
  ·subst Y;refine .inl ?_;have hb:Nat.beq k i=false:=by
    cases hb:Nat.beq k i with
    |false=>rfl
    |true=>simp_all
   simp_all
  ·exact .inr (qt n _ k (by omega) (by omega) hi E O ok T U)
def afa{g:Oper -> Bool}{i L W:Nat}:∀ (n j:Nat),jS g ops i L W n j=true -> ∃ k ok,ops[k]?=some ok/\k≠i/\L.testBit k=false/\W.testBit k=false/\g ok=true
 |0,j,h=>by cases h
 | n+1,j,h=>by
  unfold jS at h;rw[eG]at h;rcases h with h|h
  ·rw[aU,gV,oW,oW]at h;obtain⟨⟨⟨D,E⟩,O⟩,C⟩:=h;split at C
   next ok T=>exact⟨j,ok,T,(by rintro rfl;rw[Nat.beq_refl]at D;cases D),E,O,C⟩
   ·cases C
  ·exact afa n _ h
theorem asX[Inhabited Wd]{L i:Nat}{k:S -> ah X}(E:fY o.op=true \/ fZ σ ops o=some false)(O:XI σ (zZ Φ ops i L (waits ops i ops.size 0 0) σ) (Cp σ ops i L (waits ops i ops.size 0 0)) o=true)(h:Jc P N Φ ops L i σ o k=some r):
  ∃v,k (gw σ o.dst v)=some r/\mS P ops o (zZ Φ ops i L (waits ops i ops.size 0 0) σ) (Cp σ ops i L (waits ops i ops.size 0 0)) v σ /\ ∀σ:S,iy N σ o.dst v some=some (gw σ o.dst v):=by
 unfold Jc at h;unfold XI at O;rw[aU]at O;split at h
 ·rename_i C;obtain⟨v,D,hd,_⟩:=XN (w0:=default) (N:=N) h;cases T:v.pM _ _ with
  |false=>rw[T]at D;cases D
  | true=>
   rw[T,au]at D;obtain⟨U,Y⟩:=sJ D;have E:=E.resolve_right (by rw[C];simp)
   refine⟨v,U,.inl ⟨C,E,hd,λy Z=>cx.1 O.1 y (by simpa using Z),T,λt y r j e Z=>?_⟩,λσ=>(Y σ).at_ _⟩
   simp_all
 next C=>obtain⟨U,Y⟩:=sJ h;exact⟨.skip,U,.inr ⟨C,rfl⟩,λσ=>(Y σ).at_ _⟩
 ·cases h
def Jm{i L W n:Nat}(h:Co Φ ops i L W σ n=true):zZ Φ ops i L W σ n=true:=by unfold zZ;rw[h];rfl
def asY{i L W:Nat}(h:HV Φ ops i L W σ o=true):∃ ty t y,o.op = .store ty (.tmp t) y/\o.dst=none/\Pz Φ ops i L W σ t=true/\(∀ k,σ.t t ≠ .ptr k) /\ ∀ r j,σ.t t = .aH r j -> Cn σ o=[r]:=by
 unfold HV at h;split at h
 ·rename_i ty t y C;rw[aU,aU]at h
  refine⟨ty,t,y,C,by simpa using h.1.1,h.1.2,λk E=>?_,λr j D=>by simp[Cn,C,D]⟩
  simp_all
 ·cases h
def asZ{i L W:Nat}(h:XG Φ ops i L W o=true):∃ x y t C,o.op = .call ⟨.builtin .append,⟨[.tmp x,y]⟩,⟨[t,C]⟩⟩/\mQ Φ ops i L W x=true/\(qm t=false/\Nat.beq t C=true/\Cl o.dst t (.tmp x)=false):=by
 unfold XG at h
 grind
def Jo{p:Nat -> Bool}:∀ (ps:aa PK) (xs:aa Operand),(∀ x∈xs,(aL σ x).nr p=true) -> ∀ n∈oz σ ps xs,p n=false
 |[],[],_,n,hn=>by cases hn
 |.v _ _::ps,x::xs,h,n,hn=>Jo ps xs (λy C=>h y (.tail _ C)) n hn
 |.s _ _::ps,x::xs,h,n,hn=>Jo ps xs (λy C=>h y (.tail _ C)) n hn
 | .p _ _ _ :: ps,x :: xs,h,n,hn=>by
  simp[oz]at hn;split at hn
  ·rename_i L j E;rcases iw.1 hn with rfl | hn
   ·have D:=h x (.head _);rw[E]at D;have D:(!p n)=true:=D
    simpa using D
   ·exact Jo ps xs (λy C=>h y (.tail _ C)) n hn
  ·exact Jo ps xs (λy C=>h y (.tail _ C)) n hn
def PW{D:ah Tmp}{g:Bool}{k:S -> ah X}(h:sG σ D g k=some r):k σ=some r:=by
 unfold sG at h;cases g with
 |false=>exact h
 | true=>
  rw[au]at h;split at h
  ·rename_i d;split at h
   ·rename_i b hb;have:∀ c,b=c -> σ.set d (.lf (.v (.bool c)))=σ:=by
     rintro c rfl
     refine S.ext' (λk=>?_) λ_=>rfl
     show cg _ _ _ _=_;by_cases C:k=d
     ·subst C;rw[cv,hb]
     ·rw[cR _ _ _ C]
    grind
   ·exact h
  ·exact h
def afb{L j:Nat}(h:mj ops L j=true):j<ops.size:=by
 obtain⟨_,o,C,_⟩:=Jk.1 h
 grind
def Cu{L j:Nat}:j∈(List.range ops.size).filter (mj ops L) ↔ mj ops L j=true:=by
 rw[List.mem_filter,fK];exact⟨λh=>h.2,λh=>⟨afb h,h⟩⟩
structure afc (ops:Array Oper) (p:Nat->Bool) (σ:S) (o:Oper):Prop where
 is:oA o=true
 want:fZ σ ops o=some true
 aJM:∀y∈o.op.operands,(aL σ y).fY=true/\∀t,y = .tmp t->p t=false
 guard:∀g c t,o.guard=some (g,c)->(ops[g]?).bind (·.dst)=some t->p t=false
def as0{x:A}{n:Nat}{z:V}(h:rm x n=some z)(X:Type)(k:A -> ah X):BN x n k=k (.lf (.v z)):=by
 unfold rm at h;split at h
 ·split at h
  next xs _ _ C=>injection h with h;subst h;simp[BN,C,Option.bind_some,zm]
  ·cases h
 ·cases h
def afd{x:A}{n:Nat}{z:V}{g:Lf -> Lf}{G:A -> A}(C:∀ xs,G (.fk xs) = .fk (xs.map λp=>(p.1,p.2.map g)))(D:∀ z,g (.v z) = .v z)(h:rm x n=some z):rm (G x) n=some z:=by
 unfold rm at h;split at h
 ·split at h
  next xs _ _ E=>injection h with h;subst h;rw[C];simp[rm,eR,E,Option.map_some,List.map_cons,List.map_nil,D]
  ·cases h
 ·cases h
def Yl{v:A}(C:∀ q,v.drop q=v){rr d:Nat}{key:Nat -> aa Nat}:∀ (f j:Nat) (xs:aa Lf) (σ:S),iA rr key f j xs (σ.set d v)=(iA rr key f j xs σ).map λp=>(p.1,p.2.set d v)
 |_,_,[],σ=>by simp[iA]
 |0,j,x::xs,σ=>by cases x<;>simp[iA]
 | f+1,j,.v x :: xs,σ=>by
  simp only[iA,Yl C f];cases iA rr key f (j+1) xs σ<;>rfl
 | f+1,j,.own [q] :: xs,σ=>by
  simp only[iA];show (match σ.m q with
   |some (.sl z)=>_
   |_=>none)=_
  cases D:σ.m q with
  |none=>rfl
  | some y=>
   cases y with
   | sl z=>
    cases Nat.beq q rr with
    |true=>rfl
    | false=>
     simp only[aq];rw[S.drop_set q (C q),Yl C f];cases iA rr key f (j+1) (xs.map (Lf.drop q)) (σ.drop q)<;>rfl
   |_=>rfl
 |f+1,j,.own []::xs,σ=>rfl
 |f+1,j,.own (_::_::_)::xs,σ=>rfl
 |f+1,j,.dead::xs,σ=>rfl
def Ym{rr:Nat}{key:Nat -> aa Nat}{x n:Nat}{z:V}:∀ (f j:Nat) (xs:aa Lf) (σ C:S) (D:aa V),iA rr key f j xs σ=some (D,C) -> rm (σ.t x) n=some z -> rm (C.t x) n=some z
 | _,_,[],σ,C,D,h,E=>by
  simp only[iA]at h;simp_all
 |0,j,y::xs,σ,C,D,h,E=>by cases y<;>simp[iA]at h
 | f+1,j,.v y :: xs,σ,C,D,h,E=>by
  simp only[iA]at h;cases L:iA rr key f (j+1) xs σ with
  |none=>simp_all
  | some p=>
   rw[L]at h;injection h with h;injection h with _ h;subst h;exact Ym f (j+1) xs σ p.2 p.1 L E
 | f+1,j,.own [q] :: xs,σ,C,D,h,E=>by
  simp only[iA]at h;split at h
  ·cases hb:Nat.beq q rr with
   |true=>simp_all
   | false=>
    rw[hb,aq]at h;cases L:iA rr key f (j+1) (xs.map (Lf.drop q)) (σ.drop q)with
    |none=>simp_all
    | some p=>
     rw[L]at h;injection h with h;injection h with _ h;subst h;refine Ym f (j+1) _ (σ.drop q) p.2 p.1 L ?_;exact afd (G:=A.drop q) (g:=Lf.drop q) (λ_=>rfl) (λ_=>rfl) E
  ·cases h
def as1{d:Nat}{v:V}{t:TypeId}{x y:A}{L:S}(h:tT P (σ.set d (.lf (.v v))) t x y some=some L):∃ D,tT P σ t x y some=some D/\L=D.set d (.lf (.v v)) /\ ∀ (e n:Nat) (z:V),rm (σ.t e) n=some z -> rm (D.t e) n=some z:=by
 unfold tT at h;split at h
 ·rename_i n xs j i s rr hn pn;split at h
  ·rename_i hlen;cases O:xs.all Lf.live with
   |false=>simp_all
   | true=>
    rw[O,au]at h;split at h
    ·rename_i vs τ1 C;rw[Yl (v:=.lf (.v v)) (λ_=>rfl)]at C;cases E:iA rr (λm=>(j+m) :: i :: s :: [rr]) xs.length 0 xs σ with
     |none=>simp_all
     | some p=>
      rw[E]at C;obtain⟨vs0,T⟩:=p;injection C with C;injection C with e1 e2;subst e1 e2;split at h
      ·rename_i U Y Z l iI;have as2:T.m rr=some (.sl (.sl U (Y+2) Z l)):=iI;split at h
       ·rename_i o8;split at h
        ·rename_i hi;split at h
         ·rename_i hj;split at h
          ·rename_i e he;injection h with h
           refine⟨T.fo [rr] [] [(rr,.sl (.sl U (Y+2) Z (l.set i e)))],?_,?_,λex nx z hz=>?_⟩
           ·simp[tT,hn,pn,bI hlen,O,au,E,as2,bI o8,aA hi,bI hj,he]
           ·rw[<- h];exact S.asm _ rfl
           ·exact afd (G:=A.fo [rr] []) (λ_=>rfl) (λ_=>rfl) (Ym _ _ _ _ _ _ E hz)
          ·cases h
         ·cases h
        ·cases h
       ·cases h
      ·cases h
    ·cases h
  ·cases h
 ·cases h
def afe{t:TypeId}{a b:Operand}(C:o.op = .store t a b)(D:o.dst=none)(E:xN (aL σ a) (aL σ b)=true):dX P N Φ σ o some=tT P σ t (aL σ a) (aL σ b) some:=by
 unfold dX;rw[show fY o.op=false by rw[C];rfl,aq];simp[iU,C,D,E,au]
theorem as3[Inhabited Wd](eE:fX P Φ){K:S -> Prop}{f L i:Nat}{Y:Oper}{τ:S}(hi:ops[i]?=some Y)(hr:mj ops L i=true)(D:XK ops L σ i=true)(iI:dL P N Φ ops σ Y some=some τ)(H:Any P N Φ ops K f (L ||| 2 ^ i) τ):Any P N Φ ops K (f+1) L σ:=by
 unfold XK at D;rw[hi]at D;split at D
 ·rename_i oi' j0 e1 as4;injection e1 with e1;subst e1;split at D
  ·rename_i x n d oj vW Ae Cv hj0;split at D
   ·rename_i ty a b Z aff afg;rw[aU,aU]at D;obtain⟨⟨c1,c2⟩,c3⟩:=D;obtain⟨z,hz⟩:=Option.isSome_iff_exists.1 c1;obtain⟨a1,a2,a3⟩:=Oper.apart_spec c3;have hpd:∀ j,j<ops.size -> j≠i -> L.testBit j=false -> j=j0:=by
     intro j E O T;have:j∈(List.range ops.size).filter (λj=>!(Nat.beq j i || L.testBit j)):=by
      rw[List.mem_filter];refine⟨fK.2 E,?_⟩;rw[T,Bool.or_false];cases hb:Nat.beq j i with
      |false=>rfl
      |true=>exact absurd (cK hb) O
     rw[as4]at this;exact List.mem_singleton.1 this
    have rA:∀ σ2:S,rm (σ2.t x) n=some z -> dL P N Φ ops σ2 Y some=iy N σ2 (some d) (.lf (.v z)) some:=by
     intro σ2 h2;unfold dL;simp only[fZ,Cv];unfold dX;rw[show fY Y.op=true by rw[vW];rfl,au,vW];simp only[mP];rw[show aL σ2 (.tmp x)=σ2.t x from rfl,as0 h2,Ae]
    have hN:∀ σ2:S,iy N σ2 (some d) (.lf (.v z)) some=some (σ2.set d (.lf (.v z))):=by
     intro σ2;rw[rA σ hz]at iI;obtain⟨_,g2⟩:=sJ iI;exact(g2 σ2).at_ _
    have hE:τ=σ.set d (.lf (.v z)):=by
     grind
    rw[hE]at H
    refine X5 (W:=0) hi (λj oj _ E=>by rw[Nat.zero_testBit]at E;cases E) (λσ=>σ.set d (.lf (.v z)))
     (λL' C=>rm (C.t x) n=some z /\ ∀j,j<ops.size -> j≠i -> L'.testBit j=false -> j=j0/\xN (aL C a) (aL C b)=true)
     (λL' C hI=>(rA C hI.1).trans (hN C)) (λL' C j oj' sr hI U O T _ Ad=>?_) f L σ (λj E=>by rw[Nat.zero_testBit]at E;cases E) hr
     ⟨hz,λj E O T=>⟨hpd j E O T,c2⟩⟩ H
    obtain⟨rfl,hg⟩:=hI.2 j (iW.1 U).1 O T;rw[hj0]at U;injection U with U;subst U;have ha:aL (C.set d (.lf (.v z))) a=aL C a:=E6 (a1 d Ae) _ (by rw[Z];simp[Op.operands]);have hb:aL (C.set d (.lf (.v z))) b=aL C b:=E6 (a1 d Ae) _ (by rw[Z];simp[Op.operands]);have ko:dL P N Φ ops (C.set d (.lf (.v z))) oj some=tT P (C.set d (.lf (.v z))) ty (aL C a) (aL C b) some:=by
     unfold dL;simp only[fZ,afg];rw[afe Z aff (by rw[ha,hb];exact hg),ha,hb]
    rw[ko]at Ad;obtain⟨σ2,h1,h2,h3⟩:=as1 Ad
    refine⟨σ2,?_,h2,h3 _ _ _ hI.1,λk hk hki hkL=>?_⟩
    ·unfold dL;simp only[fZ,afg];rw[afe Z aff hg];exact h1
    ·grind
   ·cases D
  ·cases D
 ·cases D
theorem Jp[Inhabited Wd](eE:fX P Φ):∀ (f L:Nat) (σ:S) (k:S->ah X),rq P N Φ ops f L σ k=some r->Any P N Φ ops (λτ=>k τ=some r) f L σ
 | 0,L,σ,k,h=>by
  unfold rq at h;split at h
  ·rename_i hr
   refine⟨λj=>?_,h⟩
   cases Z:mj ops L j with
   |false=>rfl
   |true=>have:=Cu.2 Z;rw[hr]at this;cases this
  ·cases h
 | f+1,L,σ,k,h=>by
  unfold rq at h;split at h
  ·rename_i hr
   refine⟨λ_=>h,λj Z=>?_⟩
   have:=Cu.2 Z;rw[hr]at this;cases this
  ·rename_i i hr;have hi:mj ops L i=true:=Cu.1 (by rw[hr];exact .head _)
   refine⟨λh=>absurd (h i) (by rw[hi];simp),λj Z=>?_⟩
   have Z:=Cu.2 Z;rw[hr]at Z;obtain rfl:=List.mem_singleton.1 Z;split at h
   next o ho=>obtain⟨τ,h1,h2⟩:=XU eE h;exact⟨o,τ,ho,h2,Jp eE f _ τ k (PW h1)⟩
   ·cases h
  ·rename_i rs hn hs;split at h
   ·rename_i i hf;have hc:=List.find?_some hf;have hm:=List.mem_of_find?_eq_some hf;have hi:=Cu.1 hm;split at h
    ·rename_i o ho;unfold aex at hc;rw[ho,aU,aU,aU]at hc;obtain⟨⟨⟨c1,c2⟩,c3⟩,c4⟩:=hc;have c1:fY o.op=true\/fZ σ ops o=some false:=by
      rw[eG]at c1
      refine c1.imp id λc1=>?_
      split at c1
      next b hb=>rw[hb];cases b<;>first|rfl|cases c1
      ·cases c1
     obtain⟨v,h1,hF,hN⟩:=asX c1 c4 h;have xT:=Yk _ _ c3;have c2:=cK c2;have Jq:∀ j,(waits ops i ops.size 0 0).testBit j=true->(L ||| 2 ^ i).testBit j=false:=by
      intro j Z;have:((L |||2 ^ i) &&& waits ops i ops.size 0 0).testBit j=false:=by rw[c2];exact Nat.zero_testBit j
      rw[Nat.testBit_and,Z,Bool.and_true]at this;exact this
     have vV:∀ j,(waits ops i ops.size 0 0).testBit j=true->L.testBit j=false:=by
      intro j Z;have:=Jq j Z;rw[Ab,oW]at this;exact this.1
     refine asu (W:=waits ops i ops.size 0 0) (ok:=λt r=>!jS (lK t) ops i L (waits ops i ops.size 0 0) ops.size 0 && !jS (λok=>fR ok r) ops i L (waits ops i ops.size 0 0) ops.size 0 && !jS isApp ops i L (waits ops i ops.size 0 0) ops.size 0) (rz:=Pz Φ ops i L (waits ops i ops.size 0 0) σ) (mR:=mR Φ ops i L (waits ops i ops.size 0 0) σ) (mQ:=mQ Φ ops i L (waits ops i ops.size 0 0)) eE ho hN (λj C D Z=>?_) f L σ (λt r jE j C D T U Y=>?_) (λx hx j C D T U Y=>?_) (λx hx=>?_) (λt jE j C D T U Y=>?_) (λt jE j C D T U Y=>?_) (λj C D T U Y=>?_) vV hi hF (Jp eE f _ _ k (PW h1))
     ·have dI:=(iW.1 D).1;rcases xT j (by omega) (by omega)with e | e | e | e
      ·subst e;have:=Jq j Z;rw[Ab]at this;simp at this
      ·rw[vV j Z]at e;cases e
      ·exact ae9 D e.2
      ·rw[Z]at e;cases e.1
     ·have dI:=(iW.1 D).1;rw[aU,aU,gV,gV,gV]at jE
      refine⟨λhd=>?_,?_,?_⟩
      ·have:=qt (g:=lK t) ops.size 0 j (by omega) (by omega) T U Y C D (by unfold lK;rw[hd];exact Nat.beq_refl t);rw[jE.1.1]at this;cases this
      ·cases hn:fR C r with
       |false=>rfl
       | true=>
        have:=qt (g:=λok=>fR ok r) ops.size 0 j (by omega) (by omega) T U Y C D hn;rw[jE.1.2]at this;cases this
      ·cases hn:isApp C with
       |false=>rfl
       | true=>
        have:=qt (g:=isApp) ops.size 0 j (by omega) (by omega) T U Y C D hn;rw[jE.2]at this;cases this
     ·have dI:=(iW.1 D).1;unfold mR at hx;rw[aU]at hx;intro hd;have:=qt (g:=lK x) ops.size 0 j (by omega) (by omega) T U Y C D (by unfold lK;rw[hd];exact Nat.beq_refl x);rw[this]at hx;cases hx.1
     ·unfold mR at hx;rw[aU]at hx;have hx:=hx.2;cases hz:σ.t x with
      |aH r j=>rw[hz]at hx;exact hx
      |jr cs=>trivial
      |_=>rw[hz]at hx;cases hx
     ·have dI:=(iW.1 D).1;by_cases hd:C.dst=some t
      ·refine .inr ?_;have Yn:lK t C=true:=by unfold lK;rw[hd];exact Nat.beq_refl t
       cases E9:vU C with
       | false=>
        cases Jr:Py Φ ops i L (waits ops i ops.size 0 0) σ C with
        | false=>
         have:=qt (g:=λok=>lK t ok && !(vU ok ||Py Φ ops i L (waits ops i ops.size 0 0) σ ok)) ops.size 0 j (by omega) (by omega) T U Y C D (by rw[Yn,E9,Jr];rfl);unfold Pz at jE;rw[this]at jE;cases jE
        | true=>
         unfold Py at Jr;split at Jr
         next s x f Af=>exact .inr ⟨s,x,f,Af,Jr⟩
         ·cases Jr
       | true=>
        refine .inl ⟨rfl,?_⟩;refine Jm ?_;unfold Co;rw[eG]
        refine .inl (qt (g:=λo=>fR o t) _ 0 j (by omega) (by omega) T U Y C D ?_)
        obtain⟨ty,e,h1,_,h3,_⟩:=aeP E9;unfold fR;rw[hd,h1];exact Nat.beq_refl t
      ·exact .inl hd
     ·have dI:=(iW.1 D).1;by_cases hd:C.dst=some t
      ·refine .inr ?_;have Yn:lK t C=true:=by unfold lK;rw[hd];exact Nat.beq_refl t
       cases vN:oA C with
       | false=>
        cases hma:isApp C with
        |true=>exact .inr (.inl rfl)
        | false=>
         cases Cr:z0 Φ C with
         |true=>exact .inr (.inr rfl)
         | false=>
          have:=qt (g:=λok=>lK t ok && !(oA ok ||isApp ok ||z0 Φ ok)) ops.size 0 j (by omega) (by omega) T U Y C D (by rw[Yn,vN,hma,Cr];rfl);unfold mQ at jE;rw[this]at jE;cases jE
       | true=>
        refine .inl ?_;have pL:fR C t=true:=by
         unfold oA at vN;rw[aU]at vN;have h1:=vN.1;unfold fR;rw[hd];split at h1
         next B0=>simp only[B0];exact Nat.beq_refl t
         next B0=>simp only[B0];exact Nat.beq_refl t
         next B0=>simp only[B0];exact Nat.beq_refl t
         ·cases h1
        have h9:=qt (g:=λo=>fR o t) ops.size 0 j (by omega) (by omega) T U Y C D pL;refine⟨rfl,?_,?_⟩
        ·refine Jm ?_;unfold Co;rw[eG];exact .inl h9
        ·unfold Cp;rw[eG];exact .inl h9
      ·exact .inl hd
     ·have dI:=(iW.1 D).1;rcases xT j (by omega) (by omega)with e | e | e | e
      ·exact absurd e T
      ·rw[U]at e;cases e
      ·rw[Y]at e;cases e.1
      ·obtain⟨e1,e2⟩:=e.2 C D
       refine⟨e2,?_,λn hn=>?_⟩
       ·rw[eG,eG,eG]at e1;rcases e1 with ((e1 | e1) | e1) | e1
        ·exact .inl e1
        ·cases e1
        ·obtain⟨ty,t,y,g1,g2,g3,g4,g5⟩:=asY e1;refine .inr (.inr (.inl ⟨ty,t,y,g1,g2,g3,?_⟩));cases hx:σ.t t with
         | aH r' j'=>
          show zZ Φ ops i L (waits ops i ops.size 0 0) σ r'=true;refine Jm ?_;unfold Co;rw[eG]
          refine .inr (qt (g:=λo=>dK r' (sH Φ σ o) ||dK r' (Cn σ o)) _ 0 j (by omega) (by omega) T U Y C D ?_)
          rw[g5 r' j' hx,eG];exact .inr (xB.2 (.head _))
         |ptr k=>exact absurd hx (g4 k)
         |_=>trivial
        ·obtain⟨x,y,t1,t2,g1,g2,g3⟩:=asZ e1
         refine .inr (.inr (.inr ⟨x,y,t1,t2,g1,g2,g3,λr' fE=>⟨?_,?_⟩⟩))
         ·refine Jm ?_;unfold Co;rw[eG]
          refine .inr (qt (g:=λo=>dK r' (sH Φ σ o) ||dK r' (Cn σ o)) _ 0 j (by omega) (by omega) T U Y C D ?_)
          have:Cn σ C=[r']:=by simp only[Cn,g1,fE]
          rw[this,eG];exact .inr (xB.2 (.head _))
         ·unfold Cp;rw[eG]
          refine .inr (qt (g:=λo=>dK r' (Px σ o)) _ 0 j (by omega) (by omega) T U Y C D ?_)
          have:Px σ C=[r']:=by simp only[Px,g1,fE]
          rw[this];exact xB.2 (.head _)
       ·have h9:=qt (g:=λo=>fR o n) ops.size 0 j (by omega) (by omega) T U Y C D hn;refine⟨?_,?_⟩
        ·refine Jm ?_;unfold Co;rw[eG];exact .inl h9
        ·unfold Cp;rw[eG];exact .inl h9
    ·cases h
   ·split at h
    ·rename_i i hf;have hc:=List.find?_some hf;have hm:=List.mem_of_find?_eq_some hf;have hi:=Cu.1 hm;split at h
     ·rename_i o ho;unfold aey at hc;rw[ho,aU,aU,aU,aU,aU]at hc;obtain⟨⟨⟨⟨⟨c1,c2⟩,c3⟩,c4⟩,c5⟩,c6⟩:=hc;have xT:=Yk _ _ c3;have c2:=cK c2;have Jq:∀ j,(waits ops i ops.size 0 0).testBit j=true->(L ||| 2 ^ i).testBit j=false:=by
       intro j Z;have:((L |||2 ^ i) &&& waits ops i ops.size 0 0).testBit j=false:=by rw[c2];exact Nat.zero_testBit j
       rw[Nat.testBit_and,Z,Bool.and_true]at this;exact this
      have vV:∀ j,(waits ops i ops.size 0 0).testBit j=true->L.testBit j=false:=by
       intro j Z;have:=Jq j Z;rw[Ab,oW]at this;exact this.1
      obtain⟨τ,h1,h2⟩:=XU eE h;generalize hp:(λn=>jS (λo=>E5 o n) ops i L (waits ops i ops.size 0 0) ops.size 0)=p at c4 c5;have hpe:∀ j C e,ops[j]?=some C->j≠i->L.testBit j=false->(waits ops i ops.size 0 0).testBit j=false->C.dst=some e->p e=true:=by
       intro j C e D T U Y hd;have dI:=(iW.1 D).1;rw[<-hp];exact qt (g:=λo=>E5 o e) _ 0 j (by omega) (by omega) T U Y C D (by unfold E5 lK;rw[hd];exact Nat.beq_refl e)
      have Cs:∀ j C,ops[j]?=some C->j≠i->L.testBit j=false->(waits ops i ops.size 0 0).testBit j=false->XJ ops i L (waits ops i ops.size 0 0) σ C=true/\o.apart ops C=true:=by
       intro j C D T U Y;have dI:=(iW.1 D).1;rcases xT j (by omega) (by omega)with e|e|e|e
       ·exact absurd e T
       ·rw[U]at e;cases e
       ·rw[Y]at e;cases e.1
       ·exact e.2 C D
      have vN:∀ j C,ops[j]?=some C->j≠i->L.testBit j=false->(waits ops i ops.size 0 0).testBit j=false->afc ops p σ C:=by
       intro j C D T U Y;have hb:=(Cs j C D T U Y).1;unfold XJ at hb;rw[aU,aU,aU]at hb;obtain⟨⟨⟨b1,b2⟩,b3⟩,b4⟩:=hb;have PD:∀t,jS (lK t) ops i L (waits ops i ops.size 0 0) ops.size 0=false->p t=false:=λt ht=>by rw[<-hp];exact ht
       refine⟨b1,?_,λy O=>?_,λg c t hg ht=>?_⟩
       ·split at b2
        next b BQ=>rw[BQ,b2]
        ·cases b2
       ·have:=cx.1 b3 y (by simpa using O);rw[aU]at this
        refine⟨this.1,λt ht=>?_⟩
        have h2:=this.2;rw[ht]at h2;exact PD t (by simpa using h2)
       ·rw[hg]at b4;simp only[ht]at b4;exact PD t (by simpa using b4)
      have Ct:∀ n,20000<=n->p n=false:=by
       intro n hn;cases Cw:p n with
       |false=>rfl
       | true=>
        rw[<-hp]at Cw;obtain⟨k',Yo,hk1,Yp,hk3,hk4,PX⟩:=afa _ _ Cw;have hm:=(vN k' Yo hk1 Yp hk3 hk4).is;unfold oA at hm;rw[aU]at hm;have hm:=hm.2;unfold E5 lK at PX;split at PX
        next e he=>rw[he]at hm;have h1:e=n:=cK PX;subst h1;exact absurd (cZ hm) (Nat.not_le_of_gt (Nat.lt_succ_of_le hn))
        ·cases PX
      have hE:τ=(dL P N Φ ops σ o some).getD σ:=by rw[h2];rfl
      refine X5 (W:=waits ops i ops.size 0 0) ho (λj C D Z=>?_) (λσ=>(dL P N Φ ops σ o some).getD σ)
       (λL' E=>((dL P N Φ ops E o some).isSome=true/\XH E p o=true/\(sH Φ E o).all (xP E p)=true/\xO E o=true)/\(∀ j,L'.testBit j=false->L.testBit j=false)/\
        ∀j C,ops[j]?=some C->j≠i->L'.testBit j=false->(waits ops i ops.size 0 0).testBit j=false->afc ops p E C)
       (λL' E hI=>?_) (λL' E j C sr hI D T U Y iI=>?_) f L σ vV hi ⟨⟨by rw[h2];rfl,c4,c5,c6⟩,λ_ h=>h,vN⟩ (by rw[<-hE];exact Jp eE f _ τ k (PW h1))
      ·have dI:=(iW.1 D).1;rcases xT j (by omega) (by omega)with e | e | e | e
       ·subst e;have:=Jq j Z;rw[Ab]at this;simp at this
       ·rw[vV j Z]at e;cases e
       ·exact ae9 D e.2
       ·rw[Z]at e;cases e.1
      ·obtain⟨z,hz⟩:=Option.isSome_iff_exists.1 hI.1.1;rw[hz];rfl
      ·obtain⟨⟨i1,i2,i3,i6⟩,i4,i5⟩:=hI;have ap:=(Cs j C D T (i4 j U) Y).2;obtain⟨m1,m2,m3,m4⟩:=i5 j C D T U Y;obtain⟨a1,a2,a3⟩:=Oper.apart_spec ap;obtain⟨z,hz⟩:=Option.isSome_iff_exists.1 i1;have hEz:(dL P N Φ ops E o some).getD E=z:=by rw[hz];rfl
       have iI:dL P N Φ ops z C some=some sr:=by rw[<-hEz];exact iI
       have afh:∀ t,(E.t t).fY=true->o.dst≠some t->z.t t=E.t t:=by
        intro t ht hd;unfold dL at hz;split at hz
        ·exact asW eE c1 i6 hz ht hd
        ·obtain⟨g1,_⟩:=sJ hz;injection g1 with g1;rw[<-g1];cases Ae:o.dst with
         |none=>rfl
         |some d=>exact cR _ _ _ (by rintro rfl;exact hd Ae)
        ·cases hz
       have as5:∀ g c t,C.guard=some (g,c)->(ops[g]?).bind (·.dst)=some t->(E.t t).fY=true\/E.t t = .skip:=by
        intro g c t hg ht;unfold fZ at m2;rw[hg]at m2;simp only[ht]at m2;split at m2
        next b hb=>left;rw[hb];rfl
        next hb=>exact .inr hb
        ·cases m2
       have Cv:∀ g c t,C.guard=some (g,c)->(ops[g]?).bind (·.dst)=some t->o.dst≠some t:=by
        intro g c t hg ht hd;refine a1 t hd (List.mem_append_right _ ?_);rw[hg];simp only[ht];simp
       have hwz:fZ z ops C=some true:=by
        rw[Aa (σ:=E) λg c t hg ht=>?_]
        ·exact m2
        ·rcases as5 g c t hg ht with h | h
         ·exact afh t h (Cv g c t hg ht)
         ·exfalso;unfold fZ at m2;rw[hg]at m2;simp only[ht,h]at m2;cases m2
       have as6:∀ y∈C.op.operands,aL z y=aL E y:=by
        intro y O;cases y with
        | tmp t=>
         refine afh t (m3 _ O).1 λhd=>?_
         exact a1 t hd (List.mem_append_left _ (List.mem_filterMap.2 ⟨.tmp t,by simpa using O,rfl⟩))
        |_=>rfl
       obtain⟨e,x,u,hd,he,hx,hu,Ad,tX⟩:=PF m1 hwz iI;have Cx:=hpe j C e D T (i4 j U) Y hd;have q7:=a3 e hd;have sL:∀ y∈o.op.operands,(aL E y).nr p=true/\y ≠ .tmp e:=by
        intro y O;refine⟨cx.1 i2 y (by simpa using O),?_⟩;rintro rfl;exact q7 (List.mem_append_left _ (List.mem_filterMap.2 ⟨.tmp e,by simpa using O,rfl⟩))
       have Ae:o.dst≠some e:=λh=>a2 e h hd
       have as7:fZ (cO e x u E) ops o=fZ E ops o:=by
        have hw:∃ b,fZ E ops o=some b:=by
         unfold dL at hz;cases hw:fZ E ops o with
         |none=>rw[hw]at hz;cases hz
         |some b=>exact⟨b,rfl⟩
        obtain⟨b,hw⟩:=hw
        refine Aa λg c t' Ex ht'=>?_
        rw[rB,bU ?_]
        ·exact A.E1 (p:=p) (pb:=p) (XV hw g c t' Ex ht') Cx Cx
        ·rintro rfl;refine q7 (List.mem_append_right _ ?_);rw[Ex];simp only[ht'];simp
       have rA:dL P N Φ ops (cO e x u E) o some=some (cO e x u z):=by
        unfold dL at hz ⊢;rw[as7];split at hz
        next hw=>exact asU eE hx hu he Cx Ct c1 i6 Ae sL (λn hn=>cx.1 i3 n hn) hz
        next hw=>obtain⟨g1,g2⟩:=sJ hz;injection g1 with g1;refine((g2 (cO e x u E)).at_ _).trans ?_;rw[<-g1,asv Ae rfl]
        ·cases hz
       have Yq:∀y∈o.op.operands,aL (cO e x u E) y=aL E y:=λy O=>xS (sL y O).1 Cx (sL y O).2
       have hL:∀ k,(L' ||| 2 ^ j).testBit k=false->L'.testBit k=false/\k≠j:=by
        intro k hk;rw[Ab,oW]at hk;refine⟨hk.1,?_⟩;rintro rfl;simp at hk
       refine⟨cO e x u E,tX E m2 (λy O=>(as6 y O).symm),?_,⟨by rw[rA];rfl,?_,?_,?_⟩,λk hk=>i4 k (hL k hk).1,λk Yo hk hki hkL hkW=>?_⟩
       ·rw[Ad,rA];rfl
       ·unfold XH;rw[cx];intro y O;rw[Yq y (by simpa using O)];exact(sL y (by simpa using O)).1
       ·have hrj:sH Φ (cO e x u E) o=sH Φ E o:=by
         unfold sH;split
         ·rename_i f' args nM Af;split
          ·refine PE _ _ λy O=>Yq y ?_
           rw[Af];simp only[Op.operands,Call.operands];simp only[Array.mem_append]
           first
            |exact .inr (by simpa using O)
            |exact .inl (by simpa using O)
          ·rfl
         ·rfl
        rw[hrj,cx];intro n hn;have h3:=cx.1 i3 n hn;have dy:n≠e:=by
         rintro rfl;have Cw:p n=false:=by
          unfold sH at hn;split at hn
          ·rename_i f' args nM Af;split at hn
           ·refine Jo _ _ (λy O=>(sL y ?_).1) n hn
            rw[Af];simp only[Op.operands,Call.operands];simp only[Array.mem_append]
            first
             |exact .inr (by simpa using O)
             |exact .inl (by simpa using O)
           ·cases hn
          ·cases hn
         rw[Cx]at Cw;cases Cw
        unfold xP at h3 ⊢;rw[pN,bU dy];cases hm:E.m n with
        |none=>rfl
        | some y=>
         cases y with
         |sl=>rfl
         |mp=>rfl
         |gh=>rfl
         | aB cs=>
          rw[hm]at h3;simp only[Option.map_some,bh.Jg,qU.zW h3 Cx];exact h3
       ·unfold xO at i6 ⊢;split
        next ty t y Af=>rw[Af]at i6;have e1:(cO e x u E).t t=E.t t:=Yq (.tmp t) (by rw[Af];simp[Op.operands]);rw[e1];exact i6
        ·rfl
       ·obtain⟨n1,n2,n3,n4⟩:=i5 k Yo hk hki (hL k hkL).1 hkW;have as8:∀ t,p t=false->t≠e:=by rintro t ht rfl;rw[Cx]at ht;cases ht
        have afi:∀ t,(E.t t).fY=true->p t=false->(cO e x u E).t t=E.t t:=by
         intro t ht htp;rw[rB,bU (as8 t htp)];exact A.PU ht e
        refine⟨n1,?_,λy O=>?_,n4⟩
        ·rw[Aa (σ:=E) λg c t hg ht=>?_]
         ·exact n2
         ·unfold fZ at n2;rw[hg]at n2;simp only[ht]at n2;split at n2
          next b hb=>exact afi t (by rw[hb];rfl) (n4 g c t hg ht)
          next hb=>cases n2
          ·cases n2
        ·refine⟨?_,(n3 y O).2⟩;cases y with
         | tmp t=>
          show ((cO e x u E).t t).fY=true;rw[afi t (n3 _ O).1 ((n3 _ O).2 t rfl)];exact(n3 _ O).1
         |const v=>exact(n3 _ O).1
         |global g=>exact(n3 _ O).1
         |func f=>exact(n3 _ O).1
     ·cases h
    ·split at h
     ·rename_i i hf;have hc:=List.find?_some hf;have hm:=List.mem_of_find?_eq_some hf;have hi:=Cu.1 hm;split at h
      next o ho=>obtain⟨τ,h1,h2⟩:=XU eE h;exact as3 eE ho hi hc h2 (Jp eE f _ τ k (PW h1))
      ·cases h
     ·cases h
def Fb{b:Bool}(h:fZ σ ops o=some b)(hR:Rl w0 N aj ρ σ a w):Region.wanted o (yielded ops a.tmps)=b:=by
 unfold fZ at h;split at h
 next L=>injection h with h;subst h;simp[Region.wanted,L]
 ·rename_i j want L;split at h
  ·rename_i t O;have D:=hR.tmp t;rw[iM]at D;split at h
   ·rename_i c T;rw[T]at D;have E:=D.2.zj;injection h with h;subst h;cases C:a.tmps[t]? with
    |none=>rw[C]at E;cases E
    | some v=>
     rw[C]at E;subst E;simp only[Region.wanted,L,yielded,O,Option.bind_some,C];simp_all
   ·rename_i T;rw[T]at D;injection h with h;subst h;cases C:a.tmps[t]? with
    |none=>simp[Region.wanted,L,yielded,O,C]
    | some v=>
     rw[C]at D;have E:=D;subst E;simp only[Region.wanted,L,yielded,O,Option.bind_some,C,undef];simp_all
   ·cases h
  ·cases h
structure tZ (ops:Array Oper) (afj:Array Bool) (L:Nat):Prop where
 size:afj.size=ops.size
 bit:∀j,j<ops.size->afj[j]?=some (L.testBit j)
 out:∀j,ops.size<=j->L.testBit j=false
def tZ.afk{C:Array Bool}{L:Nat}(h:tZ ops C L)(j:Nat):C.getD j false=L.testBit j:=by
 rw[iM];by_cases D:j<ops.size
 ·rw[h.bit j D];rfl
 ·rw[h.out j (by omega),Array.getElem?_eq_none (by rw[h.size];omega)];rfl
def tZ.ready{U:Array Bool}{L:Nat}(h:tZ ops U L)(j:Nat):j∈Region.ready .any ops U ↔ mj ops L j=true:=by
 rw[mem_ready,Jk];constructor
 ·rintro⟨D,o,C,E⟩;have O:=(iW.1 C).1;rw[iM,h.bit j O]at D;exact⟨D,o,C,λe T hb=>by rw[<-h.afk];exact E e T hb⟩
 ·rintro⟨D,o,C,E⟩;have O:=(iW.1 C).1;exact⟨by rw[iM,h.bit j O];exact D,o,C,λe T hb=>by rw[h.afk];exact E e T hb⟩
def tZ.set{D:Array Bool}{L i:Nat}(h:tZ ops D L)(hi:i<ops.size):tZ ops (D.setIfInBounds i true) (L ||| 2 ^ i):=by
 refine⟨by simp[h.size],λj C=>?_,λj C=>?_⟩
 ·rw[Ab];by_cases E:i=j
  ·subst E;rw[Array.getElem?_setIfInBounds_self_of_lt (by rw[h.size];exact hi)];simp
  ·rw[Array.getElem?_setIfInBounds_ne E,h.bit j C];simp_all
 ·rw[Ab,h.out j C]
  grind
def tZ.start:tZ ops (Array.replicate ops.size false) 0:=
 ⟨by simp,λj C=>by simp[C],λj _=>Nat.zero_testBit j⟩
def as9(Y:fX P Φ){k:S -> ah X}{i:Nat}(hi:ops[i]?=some o)(h:dL P N Φ ops σ o k=some r):∃ E,k E=some r /\ ∀ a w (K:Act -> World -> Prop) (Q:Exit -> Act -> World -> Prop),R w0 N σ a w -> (∀ T w',R w0 N E T w' -> K T w') -> wpOp P ops Q i K a w:=by
 unfold dL at h;split at h
 ·rename_i L;obtain⟨E,Z,vW⟩:=XO Y h
  refine⟨E,Z,λa w K Q hR D=>?_⟩
  obtain⟨aj,ρ,C⟩:=hR;unfold wpOp;rw[hi];simp[Fb L C];exact .inl (vW a w K Q ⟨aj,ρ,C⟩ D)
 ·rename_i L;unfold iy at h;split at h
  ·rename_i O
   refine⟨σ,h,λa w K Q hR D=>?_⟩
   obtain⟨aj,ρ,C⟩:=hR;unfold wpOp;rw[hi];simp[Fb L C,O];exact D _ _ ⟨aj,ρ,C⟩
  ·rename_i d O;cases U:Nat.blt d N with
   |false=>simp_all
   | true=>
    rw[U,au]at h
    refine⟨_,h,λa w K Q hR D=>?_⟩
    obtain⟨aj,ρ,C⟩:=hR;unfold wpOp;rw[hi];simp only[Fb L C,O];exact D _ _ ⟨aj,ρ,C.set rfl (by have:=cZ U;omega)⟩
 ·cases h
def afl(Y:fX P Φ){K:S -> Prop}{Q:Exit -> Act -> World -> Prop}(O:∀ T,K T -> ∀ a w,R w0 N T a w -> Q .normal a w):
  ∀(f L:Nat) (σ:S) (E:Array Bool),Any P N Φ ops K f L σ -> tZ ops E L -> ∀a w,R w0 N σ a w -> wpAny P .any ops Q f E a w
 | 0,L,σ,E,h,D,a,w,hR=>by
  refine⟨List.eq_nil_iff_forall_not_mem.2 λj C=>?_,O σ h.2 a w hR⟩
  rw[D.ready,h.1]at C;cases C
 | f+1,L,σ,E,h,D,a,w,hR=>by
  refine⟨λhr=>O σ (h.1 λj=>?_) a w hR,λj C=>?_⟩
  ·cases C:mj ops L j with
   |false=>rfl
   | true=>
    have:=(D.ready j).2 C;simp_all
  ·have Z:=(D.ready j).1 C;obtain⟨o,T,ho,hd,hA⟩:=h.2 j Z;obtain⟨sr,U,hw⟩:=as9 Y ho hd;injection U with U;subst U;exact hw a w _ Q hR λa' w' dJ=>afl Y O f _ _ _ hA (D.set (afb Z)) a' w' dJ
def R.drawn(hR:R w0 N σ a w):R w0 N σ a { w with drawn:=w.drawn+1 }:=by
 obtain⟨aj,ρ,h⟩:=hR;exact⟨aj,ρ,h.grow ⟨rfl,rfl,rfl,dQ _,λ_ _=>rfl⟩ (λ_ _=>rfl) (λb k hb hl=>absurd (h.dw b k hl).2.1 (Nat.not_lt.2 hb))⟩
theorem ata[Inhabited Wd](C:fX P Φ){id:Nat}{k:S->ah X}(E:P.follows .mixedOrders=true)(h:rq P N Φ ops ops.size 0 σ k=some r){Q:Exit->Act->World->Prop}(L:∀ D,k D=some r->∀ a w,R w0 N D a w->Q .normal a w)(hR:R w0 N σ a w):
  (Code.region id ops true).wp P Q a w:=
 wp_region_any E (afl C L _ _ _ _ (Jp C _ _ _ _ h) tZ.start a _ hR.drawn)
/-! Values. -/
end
end Go.Proofs.YtnilicojgkhpnaaGreat
