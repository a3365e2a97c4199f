/-
  Running the program over pure contents, and that it follows (part 4). Nothing here is a claim.
-/
import Derived.Test.YtnilicojgkhpnaaGreatV3
set_option linter.unusedSimpArgs false
namespace Go.Proofs.YtnilicojgkhpnaaGreat
set_option linter.defProp false
open Go.RowKit
set_option linter.unusedVariables false
def fY(σ:S):ah Tmp->A->S
 |none,_=>σ
 |some d,v=>σ.set d v
section
variable {P:Program} {w w':World} {w0:Wd} {B N:Nat} {aj aA:bG} {ρ ρ':Nat->Loc} {σ:S} {a:Act} {X:Type} {d:Nat} {r:X} {o:Oper} {Φ:ez} {p pb:Nat->Bool} {e:Nat} {x:bg} {u:A} {ops:Array Oper}
def sn{C:ah Tmp}{x:A}{k:S -> ah X}(h:gX N σ C x k=some r):k (fY σ C x)=some r /\ ∀ (σ2:S),lW (λX k=>gX (X:=X) N σ2 C x k) (fY σ2 C x):=by
 unfold gX at h;split at h
 ·exact⟨h,λ_ X k=>rfl⟩
 ·rename_i d;cases D:Nat.blt d N with
  |false=>simp_all
  |true=>rw[D]at h;exact⟨h,λ_ X k=>by simp[gX,D];rfl⟩
def Ia{f:Nat}{c:iK}(C:fL P Φ)(h:Φ f=some (.p c)):ig P f c:=(C f _ h).2
def qOK{f:Nat}{c:iK}(C:fL P Φ)(h:Φ f=some (.q c)):ig P f c:=(C f _ h).2
def ap6{f:Nat}{C:ah Tmp}{c:tF}{xs:aa A}(D:fL P Φ)(h:Φ f=some (.i c)):cL λX k=>HN (X:=X) N σ C c xs k:=λX Y k g=>
 ((D f _ h).2.1 N σ xs X Y _ g).trans (aY (c.run Y N σ xs) (funext λE=>funext λy=>xl X Y k g))
def ac7(C:fL P Φ):cL λX k=>dP (X:=X) P N Φ σ o k:=λX Y k g=>by
 unfold dP
 refine dj ((Wa.comp λv=>xl) X Y k g) ?_
 unfold iD gL qD zB yY xm yU
 repeat' first
  |rfl
  |exact NV _ _ _ _
  |exact acD _ _ _ _
  |exact apo _ _ _ _
  |exact acG (Ia C (by assumption)) Ei _ _ _ _
  |exact VW _ _ _ _
  |exact apu _ _ _ _
  |exact ap6 C (by assumption) _ _ _ _
  |exact aoV (λ_=>VW) _ _ _ _
  |exact acG (qOK C (by assumption)) acF _ _ _ _
  |exact apB _ _ _ _
  |exact apm _ _ _ _
  |exact apS _ _ _ _
  |exact ao9 _ _ _ _
  |exact apH _ _ _ _
  |exact(apI.comp λv=>xl) X Y k g
  |exact apJ _ _ _ _
  |exact xl _ _ _ _
  |exact(anR.comp λv=>xl) X Y k g
  |refine dj ?_ ?_
  |split
def iM.bp{σ C:S}(h:iM p pb σ C){t r j:Nat}(D:σ.t t = .aJ r j)(E:pb r=false):C.t t = .aJ r j:=by
 rw[<-D];exact h.t (by rw[D];simpa [A.oU,A.fr,vt]using E)
def jy(p:Nat->Bool):A->Prop
 |.aJ r _=>p r=true
 |.ptr _=>False
 |_=>True
def iM.st{D:Nat->Bool}{σ C:S}(h:iM p pb σ C){t:Nat}(E:jy D (σ.t t)):jy D (C.t t):=by
 rcases h.nw t with e|e
 ·rw[e];exact E
 ·revert e;cases C.t t<;>simp[A.xw,jy]
def iM.Wg{σ C:S}(h:iM p pb σ C){x:Operand}(D:(aK σ x).oU p pb=true):aK C x=aK σ x:=by
 cases x with
 |tmp t=>exact h.t D
 |const v=>rfl
 |global g=>rfl
 |func f=>rfl
def iM.val{σ U:S}(h:iM p pb σ U){E:Op}{v:A}(D:lW (λX k=>me (X:=X) P σ E k) v)(T:∀ y∈E.operands,(aK σ y).oU p pb=true)(Z:v.oU p pb=true)(O:∀ t y r j,E = .load t y->aK σ y = .aJ r j->p r=false):lW (λX k=>me (X:=X) P U E k) v:=by
 intro X k
 refine(acZ E (λy L=>⟨h.Wg (T y L),λq e X k=>Oc h.sl q k (ac6 (T y L) e)⟩) (λt y e k=>?_) k).trans (D X k)
 subst e;have D:lW (λX k=>nP (X:=X) P σ t (aK σ y) k) v:=D;have L:=T y (by simp[Op.operands]);have O:=λr j=>O t y r j rfl
 generalize aK σ y=u at D L O;by_cases Y:∃r j,u = .aJ r j
 ·obtain⟨r,j,rfl⟩:=Y;have C:nP P σ t (.aJ r j) some=some v:=D A some;rw[D.at_ k];simp only[nP]at C ⊢;split at C
  ·cases C
  ·split at C
   next cs gp=>obtain⟨f,e1,e2⟩:=h.aC r (O r j rfl) cs gp;obtain⟨z,⟨⟩,e4⟩:=NU.mT C;rw[e1];simp only[];rw[<-List.map_drop,<-List.map_take,List.map_congr_left λl hl=>e2 l (ap4 C Z l hl),List.map_id'];exact e4.at_ k
   ·cases C
 ·exact Sm.load (λq e X k=>Oc h.sl q k (ac6 L e)) (λr j e=>absurd ⟨r,j,e⟩ Y) k
def Wh:∀ (xs:aa V) (c:Nat) (σ:S),(∀ n,c <= n -> p n=true/\pb n=true) -> iM p pb σ (lY c σ xs)
 |[],c,σ,h=>.refl σ
 | x :: xs,c,σ,h=>by
  simp[lY];cases D:x.aF with
  |true=>exact Wh xs _ σ (λn C=>h n (by omega))
  |false=>exact .trans (.root c (.sl x) (h c (dM _)).1 (h c (dM _)).2 (.refl σ)) (Wh xs (c+1) _ (λn C=>h n (by omega)))
def Wi:∀ (ps:aa Pt) (c:Nat) (σ:S),(∀ n,c<=n->p n=true/\pb n=true)->iM p pb σ (oP c σ ps)
 |[],c,σ,h=>.refl σ
 |q::ps,c,σ,h=>(Wh q.2 c σ h).trans (Wi ps _ _ (λn C=>h n (by omega)))
def zF{σ2:S}{ops:Array Oper}(h:∀ g b t,o.guard=some (g,b) -> (ops[g]?).bind (·.dst)=some t -> σ2.t t=σ.t t):fN σ2 ops o=fN σ ops o:=by
 unfold fN
 grind
def qN(p pb:Nat->Bool)(x:A):Prop:=∀r,x = .lf (.own [r])->p r=true/\pb r=true
def iM.tg{C D:Nat->Bool}{σ E:S}(h:iM p pb σ E){t:Nat}(L:qN C D (σ.t t)):qN C D (E.t t):=by
 rcases h.nw t with e|e
 ·rw[e];exact L
 ·intro r O;rw[O]at e;cases e
structure sq (P:Program) (N:Nat) (Φ:ez) (o:Oper) (p pb:Nat->Bool) (pT τ:S) where
 G:S->S
 u:A
 eq:τ=fY (G pT) o.dst u
 run:∀σ2:S,(∀x∈o.op.operands,aK σ2 x=aK pT x)->σ2.m=pT.m->dP P N Φ σ2 o some=some (fY (G σ2) o.dst u)
 grow:∀σ,iM p pb σ (G σ)
 set:∀(σ:S) d v,(A.oU p pb v)=true->G (σ.set d v)=(G σ).set d v
 bp:isApp o=false->∀(σ:S) t r j,σ.t t = .aJ r j->fE o r=false->(G σ).t t = .aJ r j
theorem sq.new{D:S}{d:Nat}(E:o.dst=some d)(C:p d=true/\pb d=true)(T:fE o d=true)(x:bg)(u:A){L:S}(e:L=((D.drop d).root d x).set d u)
  (U:∀σ2:S,(∀x∈o.op.operands,aK σ2 x=aK D x)->dP P N Φ σ2 o some=some (((σ2.drop d).root d x).set d u)):Nonempty (sq P N Φ o p pb D L):=
 ⟨{ G:=λσ=>(σ.drop d).root d x,u:=u,eq:=by rw[E];exact e,run:=λσ2 h _=>by rw[U σ2 h,E];rfl,grow:=λσ=>.root d x C.1 C.2 (.refl σ),
    set:=λσ e v Y=>by rw[S.drop_set d (A.Ej Y C.1 C.2)];rfl
    bp:=λ_ σ t r j Z O=>by
     show A.drop d (σ.t t)=_;rw[Z];exact A.qy (by simp only[A.fr,wN];rw[oC (by rintro rfl;rw[T]at O;cases O)];rfl) }⟩
def ac8{d:Nat}{C:fR}{D:S}(h:nU σ d C some=some D):∃ (ps:aa Pt) (u:A),∀ σ,nU σ d C some=some ((oP (1000000000100000+1000*d) σ ps).set d u):=by
 unfold nU at h ⊢;split at h
 ·rename_i q;split at h
  next y E=>exact⟨[q],y,λσ=>rfl⟩
  ·cases h
 ·exact⟨_,_,λσ=>rfl⟩
theorem ac9{f d:Nat}{c:iK}{T:S}{ev:S->(X:Type)->(aa Pt->ah X)->ah X}(U:o.dst=some d)(E:∀ n,1000000000100000+1000*d<=n->fE o n=true)(Z:∀ n,fE o n=true->p n=true/\pb n=true)(hc:ig P f c)(C:cL (ev σ))
  (VX:∀σ2:S,(∀x∈o.op.operands,aK σ2 x=aK σ x)->σ2.m=σ.m->∀(X:Type) (k:aa Pt->ah X),ev σ2 X k=ev σ X k) (dB:∀σ2,dP P N Φ σ2 o some=rR N σ2 d c (ev σ2 S) some) (h:rR N σ d c (ev σ S) some=some T):Nonempty (sq P N Φ o p pb σ T):=by
 obtain⟨res,rO,D,L,h3⟩:=NX hc C h;injection L with L;subst L;obtain⟨ps,u,Y⟩:=ac8 D;have O:∀n,1000000000100000+1000*d<=n->p n=true/\pb n=true:=λn C=>Z n (E n C)
 rw[Y]at D;injection D with D;exact⟨{ G:=λσ=>oP (1000000000100000+1000*d) σ ps,u:=u,eq:=by rw[U];exact D.symm,run:=λσ2 sr hm=>by rw[dB,U];exact(h3 σ2 _ _ (VX σ2 sr hm) (Y σ2)).at_ _,grow:=λσ=>Wi ps _ σ O,set:=λσ e v hv=>acI v ps _ σ λn C=>A.Ej hv (O n C).1 (O n C).2,bp:=λ_ σ t r j ht hr=>(Wi (p:=fE o) (pb:=fE o) ps _ σ (λn C=>⟨E n C,E n C⟩)).bp ht hr }⟩
theorem ap7[Inhabited Wd](ei:fL P Φ){τ:S}(E:N7 Φ o.op=true)(hp:∀ n,fE o n=true->p n=true/\pb n=true)(h:dP P N Φ σ o some=some τ):Nonempty (sq P N Φ o p pb σ τ):=by
 have h0:=h;unfold dP at h;cases hv:fM o.op with
 | true=>
  rw[hv,au]at h;obtain⟨v,L,D,_⟩:=Wb (w0:=default) (N:=N) h;obtain⟨T,h3⟩:=sn L;injection T with T
  refine⟨{ G:=λσ=>σ,u:=v,eq:=T.symm,run:=λσ2 C hm=>?_,grow:=.refl,set:=λ_ _ _ _=>rfl,bp:=λ_ _ _ _ _ h _=>h }⟩
  unfold dP;rw[hv,au,ac0 o.op hm C];refine(D.at_ _).trans ?_;exact(h3 σ2).at_ _
 | false=>
  rw[hv,aq]at h;have Z:∀σ2,dP P N Φ σ2 o some=iD P N Φ σ2 o some:=λσ2=>by unfold dP;rw[hv,aq]
  unfold iD at h Z;unfold N7 at E;rw[hv,Bool.false_or]at E;split at h
  ·rename_i e C;obtain⟨d,D,h⟩:=jP h;obtain⟨x,y,L,_,T⟩:=ao8 h;injection L with L;have U:fE o d=true:=by unfold fE;rw[D,C];exact Nat.beq_refl d
   refine sq.new D (hp d U) U x y L.symm λσ2 _=>?_
   rw[Z,C];simp only[gL,D];exact(T σ2).at_ _
  ·rename_i e x C;obtain⟨d,D,h⟩:=jP h;obtain⟨y,u,L,T⟩:=apd h;injection L with L;have U:fE o d=true:=by unfold fE;rw[D,C];exact Nat.beq_refl d
   refine sq.new D (hp d U) U _ _ L.symm λσ2 O=>?_
   rw[Z,C];simp only[gL,D];rw[O x (by rw[C];simp[Op.operands])];exact(T σ2).at_ _
  ·rename_i t len parts C;obtain⟨d,D,h⟩:=jP h;have U:fE o d=true:=by unfold fE;rw[D,C];exact Nat.beq_refl d
   cases hn:pU t with
   | true=>
    rw[hn,au]at h;obtain⟨y,u,L,T⟩:=apg h;injection L with L
    refine sq.new D (hp d U) U _ _ L.symm λσ2 O=>?_
    rw[Z,C];simp only[gL,D,hn,au]
    refine(T σ2 λq hq=>O _ ?_).at_ _
    rw[C];simp only[Op.operands];exact List.mem_toArray.2 (List.mem_map_of_mem (f:=(·.2)) hq)
   | false=>
    rw[hn,aq]at h;obtain⟨y,L,T⟩:=acB h;injection L with L
    refine sq.new D (hp d U) U _ _ L.symm λσ2 O=>?_
    rw[Z,C];simp only[gL,D,hn,aq]
    refine(T σ2 λq hq=>O _ ?_).at_ _
    rw[C];simp only[Op.operands];exact List.mem_toArray.2 (List.mem_map_of_mem (f:=(·.2)) hq)
  next t x y C=>rw[C]at E;cases E
  ·rename_i t l c C;obtain⟨d,D,h⟩:=jP h;obtain⟨y,L,T⟩:=acA h;injection L with L;have U:fE o d=true:=by unfold fE;rw[D,C];exact Nat.beq_refl d
   refine sq.new D (hp d U) U _ _ L.symm λσ2 O=>?_
   rw[Z,C];simp only[gL,D];rw[O l (by rw[C];simp[Op.operands]),O c (by rw[C];simp[Op.operands])];exact(T σ2).at_ _
  ·rename_i f args kQ C;have ada:∀ σ2:S,(∀ x∈o.op.operands,aK σ2 x=aK σ x)->∀ x∈args.toList,aK σ2 x=aK σ x:=λσ2 O x hx=>O x (by
    rw[C];simp only[Op.operands,Call.operands,Array.mem_append]
    first
     |exact .inr (by simpa using hx)
     |exact .inl (by simpa using hx))
   have nm:∀d,o.dst=some d->∀n,1000000000100000+1000*d<=n->fE o n=true:=λd D n hn=>by unfold fE;rw[D,C];exact js hn
   split at h
   next c Y=>obtain⟨d,D,h⟩:=jP h;exact ac9 D (nm d D) hp (Ia ei Y) (ev:=λσ X k=>rP σ args.toList k) Ei (λσ2 O hm X k=>apX hm _ _ (ada σ2 O)) (λσ2=>by rw[Z,C];simp only[Y,gL,D];rfl) h
   iterate 5 (rename_i c Y;rw[C]at E;simp[Y]at E)
   next c Y=>obtain⟨d,D,h⟩:=jP h;exact ac9 D (nm d D) hp (qOK ei Y) (ev:=λσ X k=>Bn σ args.toList k) acF (λσ2 O hm X k=>apZ hm _ _ (ada σ2 O)) (λσ2=>by rw[Z,C];simp only[Y,gL,D];rfl) h
   next c Y=>rw[C]at E;simp[Y]at E
   ·cases h
  next x y t t' C=>rw[C]at E;cases E
  next t C=>rw[C]at E;cases E
  next t x i C=>rw[C]at E;cases E
  next t x i v C=>rw[C]at E;cases E
  next t args kQ C=>rw[C]at E;cases E
  next f acY C=>rw[C]at E;cases E
  next x t C=>rw[C]at E;cases E
  ·cases h
def adb(C:fL P Φ){ops:Array Oper}:cL λX k=>dH (X:=X) P N Φ ops σ o k:=λX Y k g=>by
 unfold dH;split
 ·exact ac7 C _ _ _ _
 ·exact xl _ _ _ _
 ·rfl
theorem Wj[Inhabited Wd](D:fL P Φ){ops:Array Oper}{k:S->ah X}(h:dH P N Φ ops σ o k=some r):∃ C,k C=some r/\dH P N Φ ops σ o some=some C:=
 let ⟨C,E,L⟩:=(adb D).mT h
 ⟨C,E,L S some⟩
def Wl{ops:Array Oper}{b:Bool}(h:fN σ ops o=some b):∀ g c t,o.guard=some (g,c) -> (ops[g]?).bind (·.dst)=some t -> (σ.t t).oU p pb=true:=by
 intro g c t D E;unfold fN at h;rw[D]at h;simp[E]at h;split at h
 next C=>rw[C];rfl
 next C=>rw[C];rfl
 ·cases h
def Ep{ops:Array Oper}{d:Nat}(h:d ∉ o.looksAt ops)(v:A){x:Operand}(C:x∈o.op.operands):aK (σ.set d v) x=aK σ x:=by
 cases x with
 | tmp t=>
  have:t≠d:=by
   rintro rfl;exact h (List.mem_append_left _ (List.mem_filterMap.2 ⟨.tmp t,by simpa using C,rfl⟩))
  exact cM _ _ _ this
 |_=>rfl
def Wm{ops:Array Oper}{d:Nat}(h:d ∉ o.looksAt ops)(v:A):∀ g b t,o.guard=some (g,b) -> (ops[g]?).bind (·.dst)=some t -> (σ.set d v).t t=σ.t t:=by
 intro g b t C D;have:t≠d:=by
  rintro rfl;refine h (List.mem_append_right _ ?_);simp_all
 exact cM _ _ _ this
def mj(P:Program)(ops:Array Oper)(C:Oper)(p pb:Nat->Bool)(v:A)(σ:S):Prop:=
 (fN σ ops C=some true/\fM C.op=true/\lW (λX k=>me (X:=X) P σ C.op k) v/\(∀y∈C.op.operands,(aK σ y).oU p pb=true)/\v.oU p pb=true/\∀t y r j,C.op = .load t y->aK σ y = .aJ r j->p r=false)\/(fN σ ops C=some false/\v = .skip)
def mj.grow{ops:Array Oper}{U:Oper}{v:A}(h:mj P ops U p pb v σ){Y:S}(C:iM p pb σ Y):mj P ops U p pb v Y:=by
 rcases h with ⟨D,L,h3,E,Z,h6⟩|⟨D,L⟩
 ·refine .inl ⟨?_,L,C.val h3 E Z h6,λy hy=>?_,Z,λt y r j e h=>?_⟩
  ·rw[zF λg b t O T=>C.t (Wl D g b t O T)];exact D
  ·rw[C.Wg (E y hy)];exact E y hy
  ·exact h6 t y r j e (by rw[<-C.Wg (E y (by rw[e];simp[Op.operands]))];exact h)
 ·refine .inr ⟨?_,L⟩;rw[zF λg b t O T=>C.t (Wl D g b t O T)];exact D
def mj.set{ops:Array Oper}{D:Oper}{v u:A}(h:mj P ops D p pb v σ){d:Nat}(C:d ∉ D.looksAt ops):mj P ops D p pb v (σ.set d u):=by
 rcases h with ⟨E,L,T,U,Y,Z⟩|⟨E,L⟩
 ·refine .inl ⟨?_,L,λX k=>?_,λy O=>?_,Y,λt y r j e h=>?_⟩
  ·rw[zF (Wm C u)];exact E
  ·exact(ac0 (σ:=σ) (σ2:=σ.set d u) D.op rfl (λx hx=>Ep C u hx) k).trans (T.at_ k)
  ·rw[Ep C u O];exact U y O
  ·exact Z t y r j e (by rw[<-Ep C u (by rw[e];simp[Op.operands])];exact h)
 ·refine .inr ⟨?_,L⟩;rw[zF (Wm C u)];exact E
def mj.put{ops:Array Oper}{C:Oper}{v u:A}(h:mj P ops C p pb v σ){D:ah Tmp}(E:∀ d,D=some d->d ∉ C.looksAt ops):mj P ops C p pb v (fY σ D u):=by
 cases D with
 |none=>exact h
 |some d=>exact h.set (E d rfl)
def mj.nr{ops:Array Oper}{C:Oper}{v:A}(h:mj P ops C p pb v σ):v.oU p pb=true:=by
 rcases h with ⟨_,_,_,_,D,_⟩|⟨_,E⟩
 ·exact D
 ·rw[E];rfl
def ade{x y:ah Tmp}(v u:A)(h:∀ d,x=some d->y≠some d):fY (fY σ x v) y u=fY (fY σ y u) x v:=by
 cases x with
 |none=>rfl
 | some d=>cases y with
  |none=>rfl
  |some e=>exact S.set_set (λC=>h d rfl (aY some C)) v u
def ap8(x:ah Tmp)(v:A):(fY σ x v).m=σ.m:=by cases x<;>rfl
def Wn{ops:Array Oper}{C:ah Tmp}(h:∀ d,C=some d->d ∉ o.looksAt ops)(v:A){x:Operand}(D:x∈o.op.operands):aK (fY σ C v) x=aK σ x:=by
 cases C with
 |none=>rfl
 |some d=>exact Ep (h d rfl) v D
def ap9{ops:Array Oper}{C:ah Tmp}(h:∀ d,C=some d->d ∉ o.looksAt ops)(v:A):fN (fY σ C v) ops o=fN σ ops o:=by
 cases C with
 |none=>rfl
 |some d=>exact zF (Wm (h d rfl) v)
/-! Calls that write blocks alone. -/
def S.aqa{ns:aa Nat}{nr:aa (Nat×bg)}(v:A)(h:v.eV ns []=v):(σ.set d v).eV ns [] nr=(σ.eV ns [] nr).set d v:=by
 refine S.ext' (λk=>?_) λ_=>rfl
 show (cc σ.t d v k).eV ns []=cc (λk=>(σ.t k).eV ns []) d v k;by_cases C:k=d
 ·subst C;rw[cm,cm];exact h
 ·rw[cM _ _ _ C,cM _ _ _ C]
def Wo{n:Nat}{x:bg}:∀ {l:aa (Nat×bg)},l.lookup n=some x -> (n,x)∈l
 |[],h=>by cases h
 | q :: l,h=>by
  rw[List.lookup_cons]at h;cases C:n==q.1 with
  |true =>grind
  |false=>rw[C]at h;exact .tail _ (Wo h)
def Calm(Φ:ez)(ok:Nat->Nat->Bool)(qO mg p pb:Nat->Bool)(σ:S)(o:Oper):Prop:=
 N7 Φ o.op=true\/False\/
 (∃ty t y,o.op = .store ty (.tmp t) y/\o.dst=none/\qO t=true/\jy p (σ.t t))\/
 ∃x y t C,o.op = .call ⟨.builtin .append,⟨[.tmp x,y]⟩,⟨[t,C]⟩⟩/\mg x=true/\(pU t=false/\Nat.beq t C=true/\BO o.dst t (.tmp x)=false)/\qN p pb (σ.t x)
theorem aqb{Z:S}{ty:TypeId}{t:Tmp}{y:Operand}(L:o.op = .store ty (.tmp t) y)(Y:o.dst=none)(C:jy p (σ.t t))(h:dP P N Φ σ o some=some Z):Nonempty (sq P N Φ o p pb σ Z):=by
 have HE:∀ (x:A) (z:A),(∀ k,x ≠ .ptr k) -> xo x z=false:=by
  intro x z E;unfold xo;split
  ·grind
  ·rfl
 have dB:∀ σ2:S,(∀ k,σ2.t t ≠ .ptr k) -> dP P N Φ σ2 o some=pN P σ2 ty (σ2.t t) (aK σ2 y) some:=by
  intro σ2 Od;unfold dP;rw[show fM o.op=false by rw[L];rfl,aq];simp only[iD,L,Y];rw[show xo (aK σ2 (.tmp t)) (aK σ2 y)=false from HE _ _ Od,aq];rfl
 rw[dB σ (λk O=>by rw[O]at C;exact C)]at h;cases E:σ.t t with
 | aJ D j=>
  rw[E]at h C;have hp:p D=true:=C;have key:∃ x,∀ σ2:S,σ2.m=σ.m -> ∀ v,v=aK σ y -> pN P σ2 ty (.aJ D j) v some=some (σ2.root D x):=by
   unfold pN at h;split at h
   ·rename_i n xs hn mU;split at h
    ·rename_i hlen;simp only at h;split at h
     ·rename_i cs gp;split at h
      ·rename_i hj;cases hl:xs.all Lf.live with
       |false=>grind
       | true=>
        refine⟨.aC (splice cs j xs),λσ2 T v hv=>?_⟩
        subst hv;simp only[pN,hn,mU,bL hlen,T,gp,bL hj,hl,au];simp only[S.root,T]
      ·cases h
     ·cases h
    ·cases h
   ·cases h
  obtain⟨x,lC⟩:=key;have U:=lC σ rfl _ rfl;rw[h]at U;injection U with U
  refine⟨{ G:=λσ=>σ.root D x,u:=.undef,eq:=by rw[Y];exact U,run:=λσ2 sr T=>?_,grow:=λσ=>.rt D x hp (.refl σ),set:=λσ d v hv=>rfl,bp:=λ_ σ t r j ht _=>ht }⟩
  have e1:σ2.t t = .aJ D j:=(sr (.tmp t) (by rw[L];simp[Op.operands])).trans E;rw[dB σ2 (λk O=>by rw[e1]at O;cases O),e1,lC σ2 T _ (sr y (by rw[L];simp[Op.operands])),Y];rfl
 |ptr k=>rw[E]at C;exact C.elim
 | _=>
  rw[E]at h;exfalso;revert h;unfold pN;split
  ·grind
  ·grind
def cJ(e:Nat)(x:bg)(u:A)(σ:S):S:=((σ.drop e).root e x).set e u
def mm(e:Nat)(u:A):Prop:=u = .aJ e 0\/u = .lf (.own [e])
structure jQ (x:bg):Prop where
 cE:∀K:mR,x.cE K=x
def jQ.drop{x:bg}(h:jQ x)(n:Nat):x.drop n=x:=h.cE _
def jQ.eV{x:bg}(h:jQ x)(ns cn:aa Nat):x.eV ns cn=x:=h.cE _
def jQ.zero(C:aa Value):jQ (.aC (C.map nR)):=⟨λK=>aY bg.aC (qz.qy (cw.2 λc D=>by
 obtain⟨v,_,rfl⟩:=List.mem_map.1 D;unfold nR;split<;>rfl))⟩
def adf(h:vw o=true):∃ t,∃ e:Nat,o.op = .alloc t/\o.guard=none/\o.dst=some e/\e<20000:=by
 unfold vw at h;rw[aN,aN]at h;obtain⟨⟨C,E⟩,D⟩:=h;split at C
 ·rename_i t L;split at D
  ·simp_all
  ·cases D
 ·cases C
def aqc{ops:Array Oper}{t:TypeId}{e:Nat}(D:o.op = .alloc t)(O:o.guard=none)(T:o.dst=some e){E:S}(h:dH P N Φ ops σ o some=some E):∃ x,jQ x/\E=cJ e x (.aJ e 0) σ/\∀ σ2,dH P N Φ ops σ2 o some=some (cJ e x (.aJ e 0) σ2):=by
 have L:∀ σ2,dH P N Φ ops σ2 o some=qD P N σ2 e t some:=by
  intro σ2;unfold dH fN;rw[O];simp only;unfold dP;rw[show fM o.op=false by rw[D];rfl,aq];simp only[iD,D,gL,T]
 rw[L]at h;unfold qD at h;split at h
 ·rename_i z U;unfold g9 at h;cases C:Nat.blt e N with
  |false=>rw[C]at h;cases h
  | true=>
   rw[C,au]at h;injection h with h
   refine⟨_,.zero _,h.symm,λσ2=>(L σ2).trans ?_⟩
   unfold qD g9;rw[U,C];rfl
 ·cases h
def Oe{σ2:S}:∀ (ps:aa PK) (xs:aa Operand),(∀ x∈xs,aK σ2 x=aK σ x) -> n6 σ2 ps xs=n6 σ ps xs
 |[],[],_=>rfl
 |[],_::_,_=>rfl
 |.v _ _::_,[],_=>rfl
 |.p _ _ _::_,[],_=>rfl
 |.s _ _::_,[],_=>rfl
 |.v _ _::ps,x::xs,h=>by simp[n6];exact Oe ps xs (λy C=>h y (.tail _ C))
 |.s _ _::ps,x::xs,h=>by simp only[n6];exact Oe ps xs (λy C=>h y (.tail _ C))
 | .p _ _ _ :: ps,x :: xs,h=>by
  simp only[n6];rw[h x (.head _),Oe ps xs (λy C=>h y (.tail _ C))]
def Calm.lu{ok:Nat->Nat->Bool}{qO mg:Nat->Bool}{σ2:S}(h:Calm Φ ok qO mg p pb σ o)(Z:∀ t r j,σ.t t = .aJ r j->ok t r=true->σ2.t t = .aJ r j)(L:∀ t,qO t=true->jy p (σ.t t)->jy p (σ2.t t))(O:∀ t,mg t=true->qN p pb (σ.t t)->qN p pb (σ2.t t)):Calm Φ ok qO mg p pb σ2 o:=by
 rcases h with h|h|⟨ty,t,y,E,C,D,T⟩|⟨x,y,t,U,E,C,Y,D⟩
 ·exact .inl h
 ·exact h.elim
 ·exact .inr (.inr (.inl ⟨ty,t,y,E,C,D,L t D T⟩))
 ·exact .inr (.inr (.inr ⟨x,y,t,U,E,C,Y,O x C D⟩))
def Of{ops:Array Oper}(U:n7 o=true)(Y:fN σ ops o=some true){τ:S}(h:dH P N Φ ops σ o some=some τ):∃ (e:Nat) (x:bg) (u:A),o.dst=some e/\e<20000/\jQ x/\mm e u/\τ=cJ e x u σ/\
  ∀σ2,fN σ2 ops o=some true->(∀y∈o.op.operands,aK σ2 y=aK σ y)->dH P N Φ ops σ2 o some=some (cJ e x u σ2):=by
 have Z:fM o.op=false->∀ σ2,fN σ2 ops o=some true->dH P N Φ ops σ2 o some=iD P N Φ σ2 o some:=by
  intro hv σ2 L;unfold dH;rw[L];simp only;unfold dP;rw[hv,aq]
 have bsl:∀y:V,jQ (.sl y):=λy=>⟨λ_=>rfl⟩
 unfold n7 at U;rw[aN]at U;obtain⟨Wp,Er⟩:=U;split at Er
 ·rename_i e D;have dA:e<20000:=cQ Er;split at Wp
  ·rename_i t C;have E:=Z (by rw[C];rfl);rw[E σ Y]at h;simp only[iD,C,gL,D]at h;unfold qD at h;split at h
   ·rename_i z hz;unfold g9 at h;cases hN:Nat.blt e N with
    |false=>rw[hN]at h;cases h
    | true=>
     rw[hN,au]at h;injection h with h
     refine⟨e,.aC (z.cells.toList.map nR),.aJ e 0,D,dA,.zero _,.inl rfl,h.symm,λσ2 L _=>(E σ2 L).trans ?_⟩
     simp only[iD,C,gL,D];unfold qD g9;rw[hz,hN];rfl
   ·cases h
  ·rename_i t len parts C;have E:=Z (by rw[C];rfl);rw[E σ Y]at h;have hn:pU t=false:=by simpa using Wp
   simp only[iD,C,gL,D,hn,aq]at h;obtain⟨y,O,h2⟩:=acB h;injection O with O
   refine⟨e,.sl y,.lf (.own [e]),D,dA,bsl y,.inr rfl,O.symm,λσ2 L T=>(E σ2 L).trans ?_⟩
   simp only[iD,C,gL,D,hn,aq]
   refine(h2 σ2 λq hq=>T _ ?_).at_ _
   rw[C];simp only[Op.operands];exact List.mem_toArray.2 (List.mem_map_of_mem (f:=(·.2)) hq)
  ·rename_i t l c C;have E:=Z (by rw[C];rfl);rw[E σ Y]at h;simp only[iD,C,gL,D]at h;obtain⟨y,O,h2⟩:=acA h;injection O with O
   refine⟨e,.sl y,.lf (.own [e]),D,dA,bsl y,.inr rfl,O.symm,λσ2 L T=>(E σ2 L).trans ?_⟩
   simp only[iD,C,gL,D];rw[T l (by rw[C];simp[Op.operands]),T c (by rw[C];simp[Op.operands])];exact(h2 σ2).at_ _
  ·cases Wp
 ·cases Er
def Og{d:Nat}{t:TypeId}{y z:A}{Y:S}(h:sY P N σ d t y z some=some Y):∃ (r:Nat) (v:V),Y=((σ.drop r).root r (.sl v)).set d (.lf (.own [r]))/\(r=d\/y = .lf (.own [r]))/\
  ∀σ2:S,(∀(k:V->ah S),rN σ2 z k=rN σ z k)->(∀r v,y = .lf (.own [r])->σ.m r=some (.sl v)->σ2.m r=some (.sl v))->sY P N σ2 d t y z some=some (((σ2.drop r).root r (.sl v)).set d (.lf (.own [r]))):=by
 unfold sY at h;split at h
 ·rename_i e O Z;cases L:(Nat.beq (full O) 0&&(zeroOf P e).any (λz=>Nat.beq z.cells.size (aD O)))with
  |false=>rw[L]at h;cases h
  | true=>
   rw[L,au]at h;obtain⟨yv,C,hd⟩:=VJ.mT h;clear h;split at C
   ·cases C
   ·rename_i l2 ku;split at C
    ·cases D:bO l2.length with
     |false=>rw[D]at C;cases C
     | true=>
      rw[D,au]at C;cases T:Nat.blt d N with
      |false=>unfold g9 at C;rw[T]at C;cases C
      | true=>
       have E:=C;unfold g9 at E;rw[T,au]at E;injection E with E
       refine⟨d,.sl O 2 false l2,E.symm,.inl rfl,λσ2 U Er=>?_⟩
       simp only[sY,Z,L,au];refine(U _).trans ((hd.at_ _).trans ?_);simp only[ku,D,au];unfold g9;rw[T,au]
    ·rename_i rr;split at C
     ·rename_i t' o q l hm;split at C
      ·rename_i mV;cases D:(Nat.blt d N&&(Nat.blt rr N || Nat.ble 60000 rr)&&bO (l.length+l2.length))with
       |false=>rw[D]at C;cases C
       | true=>
        rw[D,au]at C;injection C with C
        refine⟨rr,_,C.symm,.inr rfl,λσ2 U Er=>?_⟩
        simp only[sY,Z,L,au];refine(U _).trans ((hd.at_ _).trans ?_);simp only[ku,Er rr _ rfl hm,az mV,D,au]
      ·cases C
     ·cases C
    ·cases C
 ·cases h
def Wq(h:isApp o=true):∃ x y t C,o.op = .call ⟨.builtin .append,⟨[x,y]⟩,⟨[t,C]⟩⟩/\pU t=false/\Nat.beq t C=true/\BO o.dst t x=false:=by
 unfold isApp at h
 grind
def Ib{x y:Operand}{t D:TypeId}(E:o.op = .call ⟨.builtin .append,⟨[x,y]⟩,⟨[t,D]⟩⟩)(L:pU t=false)(O:Nat.beq t D=true)(C:BO o.dst t x=false)(σ:S):dP P N Φ σ o some=gL o λd=>sY P N σ d t (aK σ x) (aK σ y) some:=by
 unfold dP;rw[show fM o.op=false by rw[E];rfl];simp[iD,E,L,O,au];unfold gL;cases T:o.dst with
 |none=>rfl
 | some d=>
  rw[T]at C;have C:N6 t d x=false:=C;simp_all
theorem aqd{U:S}{x:Tmp}{y:Operand}{t Y:TypeId}(C:o.op = .call ⟨.builtin .append,⟨[.tmp x,y]⟩,⟨[t,Y]⟩⟩)(E:pU t=false)(L:Nat.beq t Y=true)(O:BO o.dst t (.tmp x)=false)(hp:∀ n,fE o n=true->p n=true/\pb n=true)(jN:qN p pb (σ.t x))(h:dP P N Φ σ o some=some U):Nonempty (sq P N Φ o p pb σ U):=by
 rw[Ib C E L O]at h;obtain⟨d,T,h⟩:=jP h;obtain⟨r,v,ij,hr,tH⟩:=Og h;have D:p r=true/\pb r=true:=by
  rcases hr with hr|hr
  ·rw[hr];exact hp d (by unfold fE;rw[T,C];exact Nat.beq_refl d)
  ·exact jN r hr
 refine⟨{ G:=λσ=>(σ.drop r).root r (.sl v),u:=.lf (.own [r]),eq:=by rw[T];exact ij,run:=λσ2 Z hm=>?_,grow:=λσ=>.root r _ D.1 D.2 (.refl σ),set:=λσ e v' hv=>(by rw[S.drop_set r (A.Ej hv D.1 D.2)];rfl),bp:=λha=>(by rw[isApp,C]at ha;simp[E,L,O]at ha) }⟩
 rw[Ib C E L O];unfold gL;rw[T];simp only;rw[Z (.tmp x) (by rw[C];simp[Op.operands,Call.operands]),Z y (by rw[C];simp[Op.operands,Call.operands]),tH σ2 (λk=>apW hm _ k) (λr' v' _ h'=>by rw[hm];exact h')];rfl
theorem aqe[Inhabited Wd](ei:fL P Φ){ok:Nat->Nat->Bool}{qO mg mh:Nat->Bool}(hX:∀ x,mh x=true->jy p (σ.t x)){ops:Array Oper}{oi D:Oper}{v:A}{τ:S}(hF:mj P ops oi p pb v σ)(ha:oi.apart ops D=true)(ht:Calm Φ ok qO mg p pb σ D)(hp:∀ n,fE D n=true->p n=true/\pb n=true)
  (h:dH P N Φ ops (fY σ oi.dst v) D some=some τ):∃ T,dH P N Φ ops σ D some=some T/\τ=fY T oi.dst v/\mj P ops oi p pb v T/\(isApp D=false->∀ t r j,σ.t t = .aJ r j->D.dst≠some t->fE D r=false->T.t t = .aJ r j)/\
   (∀t,jy p (σ.t t)->(D.dst≠some t\/(vw D=true/\p t=true)\/∃s x f,D.op = .fieldAddr s (.tmp x) f/\mh x=true)->jy p (T.t t))/\
   ∀t,qN p pb (σ.t t)->(D.dst≠some t\/(n7 D=true/\p t=true/\pb t=true)\/(isApp D=true\/zE Φ D=true))->qN p pb (T.t t):=by
 obtain⟨a1,a2,a3⟩:=Oper.apart_spec ha;have Es:∀ (σ:S) (u:A) t,D.dst≠some t->(fY σ D.dst u).t t=σ.t t:=by
  intro σ u t ht;cases O:D.dst with
  |none=>rfl
  |some d=>exact cM _ _ _ (by rintro rfl;exact ht O)
 have Et:∀ T,dH P N Φ ops σ D some=some T->∀ t,vw D=true->D.dst=some t->p t=true->jy p (T.t t):=by
  intro T C t Et O VY;obtain⟨ty,e,L,Y,h3,_⟩:=adf Et;rw[h3]at O;injection O with O;subst O;obtain⟨x,_,e1,_⟩:=aqc L Y h3 C;rw[e1];show jy p (cc _ e (.aJ e 0) e);rw[cm];exact VY
 have fin:∀ T,dH P N Φ ops σ D some=some T->(∀ t,D.dst≠some t->jy p (σ.t t)->jy p (T.t t))->∀ t,jy p (σ.t t)->(D.dst≠some t\/(vw D=true/\p t=true)\/∃ s x f,D.op = .fieldAddr s (.tmp x) f/\mh x=true)->jy p (T.t t):=by
  intro T C hk t ht Wr;rcases Wr with Z|⟨L,Y⟩|⟨s,x,f,L,Y⟩
  ·exact hk t Z ht
  ·by_cases O:D.dst=some t
   ·exact Et T C t L O Y
   ·exact hk t O ht
  ·by_cases O:D.dst=some t
   ·unfold dH at C;split at C
    ·unfold dP at C;rw[show fM D.op=true by rw[L];rfl,au]at C;rw[L]at C;simp only[me]at C;have hx:=hX x Y;have hx:jy p (aK σ (.tmp x)):=hx;generalize aK σ (.tmp x)=z at hx C;have key:∀ v,gX N σ D.dst v some=some T->jy p v->jy p (T.t t):=by
      intro v hv hA;obtain⟨E,_⟩:=sn hv;injection E with E;rw[<-E,O];show jy p (cc σ.t t v t);rw[cm];exact hA
     unfold DT at C;split at C
     ·cases C
     ·split at C
      ·split at C
       ·exact key _ C hx
       ·exact key _ C trivial
       ·exact hx.elim
       ·cases C
      ·cases C
    ·obtain⟨E,_⟩:=sn C;injection E with E;rw[<-E,O];show jy p (cc σ.t t .skip t);rw[cm];trivial
    ·cases C
   ·exact hk t O ht
 have aqf:=ht;have adg:∀ T,dH P N Φ ops σ D some=some T->(∀ t,D.dst≠some t->qN p pb (σ.t t)->qN p pb (T.t t))->∀ t,qN p pb (σ.t t)->(D.dst≠some t\/(n7 D=true/\p t=true/\pb t=true)\/(isApp D=true\/zE Φ D=true))->qN p pb (T.t t):=by
  intro T C hk t ht Wr;rcases Wr with Z|⟨L,Y⟩|aqg|BV
  ·exact hk t Z ht
  ·by_cases O:D.dst=some t
   ·cases hw:fN σ ops D with
    |none=>unfold dH at C;rw[hw]at C;cases C
    | some b=>
     cases b with
     | true=>
      obtain⟨e,x,u,E,g2,g3,g4,g5,_⟩:=Of L hw C;rw[O]at E;injection E with E;subst E;rw[g5];intro r hr;have hr:cc _ t u t = .lf (.own [r]):=hr;rw[cm]at hr;rcases g4 with g4|g4
      ·rw[g4]at hr;cases hr
      ·rw[g4]at hr;injection hr with hr;injection hr with hr;injection hr with hr;subst hr;exact Y
     | false=>
      unfold dH at C;rw[hw]at C;obtain⟨E,_⟩:=sn C;injection E with E;rw[<-E,O];intro r hr;have hr:cc σ.t t .skip t = .lf (.own [r]):=hr;rw[cm]at hr;cases hr
   ·exact hk t O ht
  ·by_cases O:D.dst=some t
   ·obtain⟨x,y,t1,t2,E,g2,g3,g4⟩:=Wq aqg;have hT:qN p pb (aK σ x):=by
     rcases aqf with q|q|⟨ty,tt,yy,q1,_⟩|⟨x',y',t1',t2',q1,q2,q3,q4⟩
     ·rw[E]at q;cases q
     ·exact q.elim
     ·rw[E]at q1;cases q1
     ·rw[E]at q1;injection q1 with q1;injection q1 with _ q1 _;injection q1 with q1;injection q1 with q1 _;subst q1;exact q4
    cases hw:fN σ ops D with
    |none=>unfold dH at C;rw[hw]at C;cases C
    | some b=>
     cases b with
     | true=>
      unfold dH at C;rw[hw]at C;have C:dP P N Φ σ D some=some T:=C;rw[Ib E g2 g3 g4]at C;obtain⟨d,tJ,C⟩:=jP C;rw[O]at tJ;injection tJ with tJ;subst tJ;obtain⟨r,v,ij,hr,_⟩:=Og C;rw[ij];intro r' fl;have fl:cc ((σ.drop r).root r (.sl v)).t t (.lf (.own [r])) t = .lf (.own [r']):=fl;rw[cm]at fl;injection fl with fl;injection fl with fl;injection fl with fl;subst fl;rcases hr with hr|hr
      ·rw[hr];exact hp t (by unfold fE;rw[O,E];exact Nat.beq_refl t)
      ·exact hT r hr
     | false=>
      unfold dH at C;rw[hw]at C;obtain⟨E,_⟩:=sn C;injection E with E;rw[<-E,O];intro r hr;have hr:cc σ.t t .skip t = .lf (.own [r]):=hr;rw[cm]at hr;cases hr
   ·exact hk t O ht
  ·by_cases O:D.dst=some t
   ·cases hw:fN σ ops D with
    |none=>unfold dH at C;rw[hw]at C;cases C
    | some b=>
     cases b with
     | true=>
      unfold dH at C;rw[hw]at C;have C:dP P N Φ σ D some=some T:=C;unfold zE at BV;split at BV
      ·rename_i f args kQ ho;split at BV
       ·rename_i c hc;unfold dP at C;rw[show fM D.op=false by rw[ho];rfl,aq]at C;simp only[iD,ho,hc]at C;obtain⟨d,tJ,C⟩:=jP C;rw[O]at tJ;injection tJ with tJ;subst tJ;obtain⟨res,rO,L,Y,_⟩:=NX (Ia ei hc) Ei C;injection Y with Y;subst Y;have oT:∀ n,1000000000100000+1000*t<=n->p n=true/\pb n=true:=λn hn=>hp n (by unfold fE;rw[O,ho];exact js hn)
        intro r hr;unfold nU at L;cases res with
        | one q=>
         simp only at L;split at L
         ·rename_i y U;injection L with L;rw[<-L]at hr;have hr:cc _ t y t=A.lf (Lf.own [r]):=hr;rw[cm]at hr;subst hr;obtain⟨b,vs⟩:=q;cases b with
          |true=>cases U
          | false=>
           match vs,U with
           | [v],U=>
            have U:some (A.lf (bif v.aF then Lf.v v else Lf.own [1000000000100000+1000*t]))=some (A.lf (Lf.own [r])):=U;injection U with U;injection U with U;cases hf:v.aF with
            |true=>rw[hf]at U;cases U
            | false=>
             rw[hf]at U;injection U with U;injection U with U;subst U;exact oT _ (dM _)
         ·cases L
        | eS ps=>
         injection L with L;rw[<-L]at hr;have hr:cc _ t _ t=A.lf (Lf.own [r]):=hr;rw[cm]at hr;cases hr
       ·cases BV
      ·cases BV
     | false=>
      unfold dH at C;rw[hw]at C;obtain⟨E,_⟩:=sn C;injection E with E;rw[<-E,O];intro r hr;have hr:cc σ.t t .skip t = .lf (.own [r]):=hr;rw[cm]at hr;cases hr
   ·exact hk t O ht
 unfold dH at h;rw[ap9 a1]at h;split at h
 ·rename_i hw;have aqh:Nonempty (sq P N Φ D p pb (fY σ oi.dst v) τ):=by
   rcases ht with ht|ht|⟨ty,t,y,L,Y,h3,h4⟩|⟨x,y,t1,t2,L,Y,hn,h3⟩
   ·exact ap7 ei ht hp h
   ·exact ht.elim
   ·refine aqb L Y ?_ h;have e1:aK (fY σ oi.dst v) (.tmp t)=aK σ (.tmp t):=Wn a1 v (by rw[L];simp[Op.operands]);have e1:(fY σ oi.dst v).t t=σ.t t:=e1;rw[e1];exact h4
   ·refine aqd L hn.1 hn.2.1 hn.2.2 hp ?_ h;have e1:aK (fY σ oi.dst v) (.tmp x)=aK σ (.tmp x):=Wn a1 v (by rw[L];simp[Op.operands,Call.operands]);have e1:(fY σ oi.dst v).t x=σ.t x:=e1;rw[e1];exact h3
  obtain⟨G,u,e,hr,hg,hs,hbp⟩:=aqh;have qP:dH P N Φ ops σ D some=some (fY (G σ) D.dst u):=by
   unfold dH;rw[hw];exact hr σ (λx hx=>(Wn a1 v hx).symm) (ap8 _ _).symm
  refine⟨fY (G σ) D.dst u,qP,?_,(hF.grow (hg σ)).put a3,λvu t r j ht Z oT=>?_,fin _ qP λt Z ht=>?_,adg _ qP λt Z ht=>?_⟩
  ·refine e.trans ?_;have:∀ dst,G (fY σ dst v)=fY (G σ) dst v:=by
    intro dst;cases dst with
    |none=>rfl
    |some d=>exact hs σ d v hF.nr
   rw[this];exact ade _ _ a2
  ·rw[Es _ _ t Z];exact hbp vu σ t r j ht oT
  ·rw[Es _ _ t Z];exact(hg σ).st ht
  ·rw[Es _ _ t Z];exact(hg σ).tg ht
 ·rename_i hw;obtain⟨L,Y⟩:=sn h;injection L with L;have qP:dH P N Φ ops σ D some=some (fY σ D.dst .skip):=by
   unfold dH;rw[hw];exact(Y σ).at_ _
  exact⟨fY σ D.dst .skip,qP,by rw[<-L];exact ade _ _ a2,hF.put a3,λ_ t r j ht Z _=>(by rw[Es _ _ t Z];exact ht),fin _ qP λt Z ht=>(by rw[Es _ _ t Z];exact ht),adg _ qP λt Z ht=>(by rw[Es _ _ t Z];exact ht)⟩
 ·cases h
def Any(P:Program)(N:Nat)(Φ:ez)(ops:Array Oper)(K:S->Prop):Nat->Nat->S->Prop
 |0,L,σ=>(∀j,lH ops L j=false)/\K σ
 |f+1,L,σ=>((∀j,lH ops L j=false)->K σ)/\∀j,lH ops L j=true->∃o C,ops[j]?=some o/\dH P N Φ ops σ o some=some C/\Any P N Φ ops K f (L |||2 ^ j) C
def zG(L i j:Nat):(L ||| 2 ^ i).testBit j=(L.testBit j || decide (i=j)):=by
 rw[Nat.testBit_or,Nat.testBit_two_pow]
def Ic{ops:Array Oper}{L j:Nat}:lH ops L j=true ↔ L.testBit j=false /\ ∃ o,ops[j]?=some o /\ ∀ e∈o.after,Region.binds .any e=true -> L.testBit e.on=true:=by
 unfold lH
 grind
def Ws{ops:Array Oper}{L i j:Nat}(h:lH ops L j=true)(C:j≠i):lH ops (L ||| 2 ^ i) j=true:=by
 rw[Ic]at h ⊢
 grind
def mj.step{ops:Array Oper}{C:Oper}{v:A}(L:mj P ops C p pb v σ)(O:∀ σ:S,gX N σ C.dst v some=some (fY σ C.dst v)):dH P N Φ ops σ C some=some (fY σ C.dst v):=by
 unfold dH;rcases L with ⟨D,E,T,_,_,_⟩|⟨D,E⟩
 ·rw[D];unfold dP;rw[E,au];exact(T.at_ _).trans (O σ)
 ·simp_all
def Wt{K:S -> Prop}{ops:Array Oper}{i W:Nat}{U:Oper}(hi:ops[i]?=some U)(hW:∀ j C,ops[j]?=some C -> W.testBit j=true -> ∃ e∈C.after,Region.binds .any e=true/\(e.on=i \/ W.testBit e.on=true))(E:S -> S)(I:Nat -> S -> Prop)
  (r1:∀L σ,I L σ -> dH P N Φ ops σ U some=some (E σ))
  (r2:∀L σ j C Y,I L σ -> ops[j]?=some C -> j≠i -> L.testBit j=false -> W.testBit j=false -> dH P N Φ ops (E σ) C some=some Y -> ∃O,dH P N Φ ops σ C some=some O/\Y=E O/\I (L |||2 ^ j) O):
  ∀(f L:Nat) (σ:S),(∀j,W.testBit j=true -> L.testBit j=false) -> lH ops L i=true -> I L σ -> Any P N Φ ops K f (L |||2 ^ i) (E σ) -> Any P N Φ ops K (f+1) L σ:=by
 intro f
 induction f with
 | zero=>
  intro L σ vA T Z H
  refine⟨λh=>absurd (h i) (by rw[T];simp),λj hj=>?_⟩
  by_cases D:j=i
  ·subst D;exact⟨U,_,hi,r1 L σ Z,H⟩
  ·have:=Ws hj D;rw[H.1]at this;cases this
 | succ f ih=>
  intro L σ vA T Z H
  refine⟨λh=>absurd (h i) (by rw[T];simp),λj hj=>?_⟩
  by_cases D:j=i
  ·subst D;exact⟨U,_,hi,r1 L σ Z,H⟩
  ·obtain⟨C,Y,xx,ij,H'⟩:=H.2 j (Ws hj D);obtain⟨Eu,oj',Oh,tH⟩:=Ic.1 hj;rw[xx]at Oh;injection Oh with Oh;subst Oh;have zH:W.testBit j=false:=by
    cases zH:W.testBit j with
    |false=>rfl
    | true=>
     obtain⟨e,he,hb,mb⟩:=hW j C xx zH;have h1:=tH e he hb;rcases mb with mb|mb
     ·rw[mb,(Ic.1 T).1]at h1;cases h1
     ·rw[vA _ mb]at h1;cases h1
   obtain⟨O,hs,zI,hI'⟩:=r2 L σ j C Y Z xx D Eu zH ij
   refine⟨C,O,xx,hs,ih (L |||2 ^ j) O (λk hk=>?_) (Ws T (Ne.symm D)) hI' ?_⟩
   ·grind
   ·rw[<- zI]
    grind
theorem aqi[Inhabited Wd](ei:fL P Φ){ok:Nat -> Nat -> Bool}{qO mg mh:Nat -> Bool}{K:S -> Prop}{ops:Array Oper}{i W:Nat}{O:Oper}{v:A}(hi:ops[i]?=some O)(hN:∀ σ:S,gX N σ O.dst v some=some (fY σ O.dst v))
  (hW:∀j C,ops[j]?=some C -> W.testBit j=true -> ∃e∈C.after,Region.binds .any e=true/\(e.on=i \/ W.testBit e.on=true)) (f L:Nat) (σ:S)
  (fo:∀t r,ok t r=true -> ∀j C,ops[j]?=some C -> j≠i -> L.testBit j=false -> W.testBit j=false -> C.dst≠some t/\fE C r=false/\isApp C=false)
  (Oi:∀x,mh x=true -> ∀j C,ops[j]?=some C -> j≠i -> L.testBit j=false -> W.testBit j=false -> C.dst≠some x) (hX:∀x,mh x=true -> jy p (σ.t x))
  (Oj:∀t,qO t=true -> ∀j C,ops[j]?=some C -> j≠i -> L.testBit j=false -> W.testBit j=false -> C.dst≠some t \/ (vw C=true/\p t=true) \/ ∃s x f,C.op = .fieldAddr s (.tmp x) f/\mh x=true)
  (Ok:∀t,mg t=true -> ∀j C,ops[j]?=some C -> j≠i -> L.testBit j=false -> W.testBit j=false -> C.dst≠some t \/ (n7 C=true/\p t=true/\pb t=true) \/ (isApp C=true \/ zE Φ C=true))
  (BW:∀j C,ops[j]?=some C -> j≠i -> L.testBit j=false -> W.testBit j=false -> O.apart ops C=true/\Calm Φ ok qO mg p pb σ C /\ ∀n,fE C n=true -> p n=true/\pb n=true)
  (vA:∀j,W.testBit j=true -> L.testBit j=false) (hr:lH ops L i=true) (hF:mj P ops O p pb v σ) (H:Any P N Φ ops K f (L |||2 ^ i) (fY σ O.dst v)):Any P N Φ ops K (f+1) L σ:=by
 refine Wt hi hW (λσ=>fY σ O.dst v)
  (λL σ=>mj P ops O p pb v σ/\(∀ t r,ok t r=true -> ∀ j C,ops[j]?=some C -> j≠i -> L.testBit j=false -> W.testBit j=false -> C.dst≠some t/\fE C r=false/\isApp C=false) /\
   ((∀x,mh x=true -> ∀j C,ops[j]?=some C -> j≠i -> L.testBit j=false -> W.testBit j=false -> C.dst≠some x) /\ ∀x,mh x=true -> jy p (σ.t x)) /\
   (∀t,qO t=true -> ∀j C,ops[j]?=some C -> j≠i -> L.testBit j=false -> W.testBit j=false -> C.dst≠some t \/ (vw C=true/\p t=true) \/ ∃s x f,C.op = .fieldAddr s (.tmp x) f/\mh x=true) /\
   (∀t,mg t=true -> ∀j C,ops[j]?=some C -> j≠i -> L.testBit j=false -> W.testBit j=false -> C.dst≠some t \/ (n7 C=true/\p t=true/\pb t=true) \/ (isApp C=true \/ zE Φ C=true)) /\
   ∀j C,ops[j]?=some C -> j≠i -> L.testBit j=false -> W.testBit j=false -> O.apart ops C=true/\Calm Φ ok qO mg p pb σ C /\ ∀n,fE C n=true -> p n=true/\pb n=true)
  (λL σ h=>h.1.step hN) (λL σ j C τ h xx Ie Eu zH ij=>?_) f L σ vA hr ⟨hF,fo,⟨Oi,hX⟩,Oj,Ok,BW⟩ H
 obtain⟨hF,fo,⟨Oi,hX⟩,Oj,Ok,BW⟩:=h;obtain⟨c1,c2,c3⟩:=BW j C xx Ie Eu zH;obtain⟨cS,hs,zI,hF',VT,jN,hta⟩:=aqe (mh:=mh) ei hX hF c1 c2 c3 ij;have hL:∀ k,(L ||| 2 ^ j).testBit k=false -> L.testBit k=false:=by
  intro k D;rw[zG,Bool.or_eq_false_iff]at D;exact D.1
 refine⟨cS,hs,zI,hF',λt r E k T D U Y Z=>fo t r E k T D U (hL k Y) Z,⟨λx hx k T D U Y Z=>Oi x hx k T D U (hL k Y) Z,λx hx=>jN x (hX x hx) (.inl (Oi x hx j C xx Ie Eu zH))⟩,λt E k T D U Y Z=>Oj t E k T D U (hL k Y) Z,λt E k T D U Y Z=>Ok t E k T D U (hL k Y) Z,λk T D U Y Z=>?_⟩
 obtain⟨d1,d2,d3⟩:=BW k T D U (hL k Y) Z
 refine⟨d1,d2.lu (λt r j' E h=>?_) (λt h E=>jN t E (Oj t h j C xx Ie Eu zH)) (λt h E=>hta t E (Ok t h j C xx Ie Eu zH)),d3⟩
 grind
def A.Wu(y:A)(a b:Nat):(y.drop a).drop b=(y.drop b).drop a:=A.oB y _ _
def bg.Wu(y:bg)(a b:Nat):(y.drop a).drop b=(y.drop b).drop a:=bg.oB y _ _
def mm.drop(h:mm e u){n:Nat}(C:e≠n):u.drop n=u:=by
 rcases h with rfl|rfl
 ·simp only[A.drop,oC C,aq,A.cE,wN]
 ·have:cU n [e]=false:=by simp[cU,C]
  simp only[A.drop,Lf.drop,this,aq,A.cE,wN,Lf.cE]
def mm.eV(h:mm e u){ns cn:aa Nat}(D:dG e ns=false)(C:dG e cn=false):u.eV ns cn=u:=by
 rcases h with rfl|rfl
 ·simp only[A.eV,C,aq,A.cE,D9]
 ·have E:gq [e] ns=false:=D;have L:gq [e] cn=false:=C;simp only[A.eV,Lf.eV,E,L,A.cE,D9,Lf.cE];rfl
def qQ(k:Nat):(cJ e x u σ).t k=if k=e then u else (σ.t k).drop e:=by
 by_cases C:k=e
 ·subst C;rw[bL rfl];exact cm _ _ _
 ·rw[bX C];exact cM _ _ _ C
def oV(n:Nat):(cJ e x u σ).m n=if n=e then some x else (σ.m n).map (bg.drop e):=by
 show cc (λr=>bif Nat.beq r e then none else (σ.m r).map (bg.drop e)) e (some x) n=_;by_cases C:n=e
 ·subst C;rw[bL rfl,cm]
 ·rw[bX C,cM _ _ _ C,oC C];rfl
def Wv(c:Nat)(y:bg)(k:Nat):((σ.drop c).root c y).t k=(σ.t k).drop c:=rfl
def adh(c:Nat)(y:bg)(n:Nat):((σ.drop c).root c y).m n=if n=c then some y else (σ.m n).map (bg.drop c):=by
 show cc (λr=>bif Nat.beq r c then none else (σ.m r).map (bg.drop c)) c (some y) n=_;by_cases C:n=c
 ·subst C;rw[bL rfl,cm]
 ·rw[bX C,cM _ _ _ C,oC C];rfl
def adi{c:Nat}(z:V)(L:jQ x)(O:mm e u)(T:e≠c):((cJ e x u σ).drop c).root c (.sl z)=cJ e x u ((σ.drop c).root c (.sl z)):=by
 refine S.ext' (λk=>?_) λn=>?_
 ·rw[Wv,qQ,qQ,Wv];by_cases C:k=e
  ·rw[bL C,bL C];exact O.drop T
  ·rw[bX C,bX C];exact A.oB _ _ _
 ·rw[adh,oV,oV,adh];by_cases D:n=c
  ·rw[bL D,bX,bL D];rfl
  ·rw[bX D];by_cases E:n=e
   ·rw[bL E,bL E];simp only[Option.map_some,L.drop]
   ·rw[bX E,bX E,bX D,Option.map_map,Option.map_map];congr 1;funext y;exact bg.oB y _ _
def Ol(C:jQ x)(D:mm e u):∀ (xs:aa V) (c:Nat) (σ:S),e<c -> lY c (cJ e x u σ) xs=cJ e x u (lY c σ xs)
 |[],c,σ,_=>rfl
 | y :: xs,c,σ,h=>by
  simp[lY];cases E:y.aF with
  |true=>exact Ol C D xs _ σ (by omega)
  | false=>
   rw[adi y C D (by omega)];exact Ol C D xs _ _ (by omega)
def adj(C:jQ x)(D:mm e u):∀ (ps:aa Pt) (c:Nat) (σ:S),e<c -> oP c (cJ e x u σ) ps=cJ e x u (oP c σ ps)
 |[],c,σ,_=>rfl
 | q :: ps,c,σ,h=>by
  simp[oP];rw[Ol C D _ _ _ h];exact adj C D ps _ _ (by omega)
def Om{v:A}(D:d≠e)(E:v.drop e=v):(cJ e x u σ).set d v=cJ e x u (σ.set d v):=by
 refine S.ext' (λk=>?_) λn=>?_
 ·show cc (cJ e x u σ).t d v k=_;rw[qQ];show _=if k=e then u else (cc σ.t d v k).drop e;by_cases C:k=d
  ·subst C;rw[cm,bX D,cm,E]
  ·rw[cM _ _ _ C,cM _ _ _ C,qQ]
 ·rfl
def aqj{v:A}{C:ah Tmp}(D:C≠some e)(E:v.drop e=v):fY (cJ e x u σ) C v=cJ e x u (fY σ C v):=by
 cases C with
 |none=>rfl
 |some d=>exact Om (by rintro rfl;exact D rfl) E
def aqk{ns cn:aa Nat}{nr:aa (Nat×bg)}(U:jQ x)(Y:mm e u)(L:dG e ns=false)(O:dG e cn=false)(T:∀ q∈nr,q.1≠e/\q.2.drop e=q.2):(cJ e x u σ).eV ns cn nr=cJ e x u (σ.eV ns cn nr):=by
 have D:nr.lookup e=none:=by
  cases D:nr.lookup e with
  |none=>rfl
  |some y=>exact absurd rfl (T _ (Wo D)).1
 refine S.ext' (λk=>?_) λn=>?_
 ·show ((cJ e x u σ).t k).eV ns cn=_;rw[qQ,qQ];by_cases C:k=e
  ·rw[bL C,bL C];exact Y.eV L O
  ·rw[bX C,bX C];exact A.oB _ _ _
 ·rw[oV];show (match nr.lookup n with | some x=>some x | none=>bif dG n ns || dG n cn then none else ((cJ e x u σ).m n).map (bg.eV ns cn))=if n=e then some x else (match nr.lookup n with | some x=>some x | none=>bif dG n ns || dG n cn then none else (σ.m n).map (bg.eV ns cn)).map (bg.drop e);by_cases E:n=e
  ·subst E;rw[bL rfl,D,L,O];simp only[Bool.or_false,aq,oV,if_true,Option.map_some,U.eV]
  ·rw[bX E];cases Z:nr.lookup n with
   |some y=>simp only[Option.map_some];rw[(T _ (Wo Z)).2]
   | none=>
    simp only;cases (dG n ns ||dG n cn)with
    |true=>rfl
    | false=>
     simp only[aq];rw[oV,bX E,Option.map_map,Option.map_map];congr 1;funext y;exact bg.oB y _ _
/-! What a call reads. -/
def adk{q:aa Nat}{k:V->ah X}(h:cU e q=false):jb (cJ e x u σ).m q k=jb σ.m q k:=ap2 q k h
def xy{y:Operand}(h:(aK σ y).nr p=true)(C:p e=true)(D:y ≠ .tmp e):aK (cJ e x u σ) y=aK σ y:=by
 cases y with
 | tmp t=>
  show (cJ e x u σ).t t=σ.t t;rw[qQ,bX (by rintro rfl;exact D rfl)];exact A.zz h C
 |_=>rfl
def Ww{l:Lf}{k:V->ah X}(h:l.nr p=true)(C:p e=true):oG (cJ e x u σ) l k=oG σ l k:=by
 cases l with
 |own q=>exact adk (acH h C)
 |_=>rfl
def adl{q:aa Nat}{s i j:Nat}{k:V->ah X}(h:n5 p q=true)(C:p e=true):va (cJ e x u σ) q s i j k=va σ q s i j k:=by
 unfold va;exact adk (acH h C)
def aql{y:A}{k:V->ah X}(h:y.nr p=true)(C:p e=true):rN (cJ e x u σ) y k=rN σ y k:=by
 cases y with
 |lf l=>exact Ww h C
 |view q s i j=>exact adl h C
 |_=>rfl
def Wx(C:p e=true):∀ (xs:aa Lf) (k:aa V -> ah X),xs.all (Lf.nr p)=true -> qI (cJ e x u σ) xs k=qI σ xs k
 |[],k,_=>rfl
 | y :: xs,k,h=>by
  rw[List.all_cons,aN]at h;simp[qI,Ww h.1 C];congr 1;funext z;exact Wx C xs _ h.2
def aqm{y:A}{k:Pt->ah X}(h:y.nr p=true)(C:p e=true):nS (cJ e x u σ) y k=nS σ y k:=by
 cases y with
 |lf l=>simp only[nS];exact Wx C _ _ (by rw[List.all_cons,show l.nr p=true from h];rfl)
 |agg cs=>simp only[nS];exact Wx C _ _ h
 |view q s i j=>simp only[nS];exact adl h C
 |iZ cs=>cases cs<;>rfl
 |_=>rfl
def adm(C:p e=true):∀ (xs:aa Operand) (k:aa Pt->ah X),(∀ y∈xs,(aK σ y).nr p=true/\y ≠ .tmp e)->rP (cJ e x u σ) xs k=rP σ xs k
 |[],k,_=>rfl
 | y :: xs,k,h=>by
  obtain⟨D,E⟩:=h y (.head _);unfold rP vm;rw[xy D C E,aqm D C];congr 1;funext z;exact adm C xs _ (λy L=>h y (.tail _ L))
def Wy{ns:aa Nat}(C:p e=true):∀ (xs:aa Lf) (k:aa V -> ah X),xs.all (Lf.nr p)=true -> xg (cJ e x u σ) ns xs k=xg σ ns xs k
 |[],k,_=>rfl
 | y :: xs,k,h=>by
  rw[List.all_cons,aN]at h;simp[xg,Ww h.1 C];congr 2;funext z;exact Wy C xs _ h.2
def adn{d:Nat}:∀ (xs:aa Lf),qB (xs.map (Lf.drop d))=qB xs
 |[]=>rfl
 | x :: xs=>by
  have C:(x.drop d).pl=x.pl:=by
   cases x with
   | own k=>
    show (bif cU d k then _ else Lf.own k).pl=_;cases cU d k<;>rfl
   |_=>rfl
  simp[List.map_cons,qB,C,adn]
def aqn{ns:aa Nat}{y:A}{k:Pt->ah X}(h:y.nr p=true)(C:p e=true):vo (cJ e x u σ) ns y k=vo σ ns y k:=by
 cases y with
 |lf l=>simp only[vo];exact Wy C _ _ (by rw[List.all_cons,show l.nr p=true from h];rfl)
 |agg cs=>simp only[vo];exact Wy C _ _ h
 |mQ f cs=>cases cs<;>rfl
 | fn f cap=>
  match cap,h with
  |[],_=>rfl
  |_::_::_,_=>rfl
  | [(D,j)],h=>
   have E:p D=false:=by simpa [A.nr,A.fr,vt]using h
   have L:D≠e:=by rintro rfl;rw[C]at E;cases E
   simp only[vo,oV,bX L];cases σ.m D with
   |none=>rfl
   | some z=>
    cases z with
    |aC cs=>simp only[Option.map_some,bg.H8,<-List.map_drop,adn]
    |_=>rfl
 |_=>rfl
def aqo{l:Lf}(h:l.nr p=true)(C:p e=true):zp (cJ e x u σ).m l=zp σ.m l:=by
 cases l with
 | own k=>
  match k with
  |[]=>rfl
  | [q]=>
   have D:q≠e:=by
    have h:(!p q)=true:=by simpa [Lf.nr,Lf.fr,n5,jj]using h
    rintro rfl;rw[C]at h;cases h
   simp only[zp];rw[oV,bX D];cases σ.m q with
   |none=>rfl
   |some y=>cases y<;>rfl
  |_::_::_=>rfl
 |v x=>rfl
 |dead=>rfl
def ado(D:p e=true):∀ (C:aa Lf),C.all (Lf.nr p)=true -> tA (cJ e x u σ).m C=tA σ.m C
 |[],_=>rfl
 | l :: C,h=>by
  rw[List.all_cons,aN]at h;simp[tA,aqo h.1 D,ado D C h.2]
def adp{m:Nat->ah bg}:∀ {cs:aa Lf} {E:aa (V×ah Nat)},tA m cs=some E->cs.all (Lf.nr p)=true->∀ v∈E,∀ q,v.2=some q->p q=false
 |[],E,h,_=>by injection h with h;subst h;simp
 | c :: cs,E,h,L=>by
  rw[List.all_cons,aN]at L;unfold tA at h;split at h
  ·rename_i v Y C T;injection h with h;subst h;intro u hu q D;rcases gW.1 hu with rfl | hu
   ·unfold zp at C;split at C
    ·injection C with C;rw[<-C]at D;cases D
    ·rename_i Z;split at C
     ·rename_i y _;cases O:y.aF with
      |true=>rw[O]at C;injection C with C;rw[<-C]at D;cases D
      | false=>
       rw[O,aq]at C;injection C with C;rw[<-C]at D;injection D with D;subst D;have U:=L.1
       simpa [Lf.nr,Lf.fr,n5,jj]using U
     ·cases C
    ·cases C
   ·exact adp T L.2 u hu q D
  ·cases h
def On(p:Nat->Bool):Mu->Prop
 |.aC r cs C=>p r=false/\cs.all (Lf.nr p)=true/\∀v∈C,∀q,v.2=some q->p q=false
 |.sl q _=>p q=false
def Wz(L:p e=true):∀ (ps:aa PK) (xs:aa Operand) (O:aa Mu),(∀ y∈xs,(aK σ y).nr p=true/\y ≠ .tmp e)->(∀ n∈n6 σ ps xs,xu σ p n=true)->mX σ ps xs=some O->mX (cJ e x u σ) ps xs=some O/\∀ C∈O,On p C
 |[],[],O,_,_,h=>⟨h,by injection h with h;subst h;simp⟩
 |[],_::_,O,_,_,h=>by cases h
 |_::_,[],O,_,_,h=>by cases h
 | q :: ps,y :: xs,O,hy,hl,h=>by
  obtain⟨E,h2⟩:=hy y (.head _);have vj:∀ n∈n6 σ ps xs,xu σ p n=true:=by
   intro n Z;refine hl n ?_;cases q with
   |v=>exact Z
   |s=>exact Z
   | p t g off=>
    simp only[n6];split
    ·exact .tail _ Z
    ·exact Z
  unfold mX at h;have D:∀ z,Bv σ q (aK σ y)=some z->Bv (cJ e x u σ) q (aK (cJ e x u σ) y)=some z/\∀ C,z=some C->On p C:=by
   intro z hz;rw[xy E L h2];have T:=Bz hz;cases q with
   | v=>
    cases z with
    |some C=>exact T.elim
    |none=>exact⟨hz,by simp⟩
   | p t g off=>
    cases z with
    |none=>exact T.elim
    | some C=>
     cases C with
     |sl=>exact T.elim
     | aC Y cs vs=>
      obtain⟨U,hm,hg,hlen⟩:=T;have fl:p Y=false:=by
       rw[U]at E;have E:(!p Y)=true:=E
       simpa using E
      have dc:Y≠e:=by rintro rfl;rw[L]at fl;cases fl
      have gp:cs.all (Lf.nr p)=true:=by
       have:=hl Y (by simp only[n6,U];exact .head _);unfold xu at this;rw[hm]at this;exact this
      have vc:(cJ e x u σ).m Y=some (.aC cs):=by
       rw[oV,bX dc,hm];simp only[Option.map_some,bg.H8,qz.zz gp L]
      refine⟨?_,λC D=>?_⟩
      ·rw[U];simp only[Bv,Nat.beq_refl,au,vc,ado L cs gp,hg];have:Nat.blt cs.length 999=true:=js hlen;rw[this];rfl
      ·injection D with D;subst D;exact⟨fl,gp,adp hg gp⟩
   | s t g=>
    cases z with
    |none=>exact T.elim
    | some C=>
     cases C with
     |aC=>exact T.elim
     | sl q y0=>
      obtain⟨U,hm,hf⟩:=T;have hq:p q=false:=by
       rw[U]at E;have E:(!p q)=true:=by simpa [A.nr,A.fr,vt,Lf.nr,Lf.fr,n5,jj]using E
       simpa using E
      have dc:q≠e:=by rintro rfl;rw[L]at hq;cases hq
      refine⟨?_,λC D=>?_⟩
      ·rw[U];simp only[Bv];rw[oV,bX dc,hm];simp only[Option.map_some,bg.drop,hf,aq,bg.cE]
      ·injection D with D;subst D;exact hq
  split at h
  ·rename_i C rV k1 k2;injection h with h;subst h;obtain⟨g1,g2⟩:=D _ k1;obtain⟨f1,f2⟩:=Wz L ps xs rV (λy h=>hy y (.tail _ h)) vj k2
   refine⟨by simp only[mX,g1,f1],λm hm=>?_⟩
   rcases gW.1 hm with rfl|hm
   ·exact g2 _ rfl
   ·exact f2 m hm
  next rV k1 k2=>injection h with h;subst h;obtain⟨g1,g2⟩:=D _ k1;obtain⟨f1,f2⟩:=Wz L ps xs rV (λy h=>hy y (.tail _ h)) vj k2;exact⟨by simp only[mX,g1,f1],f2⟩
  ·cases h
def Oo(D:p e=true)(ns:aa Nat):∀ (ps:aa PK) (xs:aa Operand) (C:aa Mu) (k:lZ ps->ah X),(∀ y∈xs,(aK σ y).nr p=true/\y ≠ .tmp e)->nY (cJ e x u σ) ns ps xs C k=nY σ ns ps xs C k
 |[],[],[],k,_=>rfl
 | .v b t :: ps,y :: xs,C,k,h=>by
  obtain⟨L,O⟩:=h y (.head _);simp only[nY];rw[xy L D O,aqn L D];congr 1;funext z;congr 1;split
  ·exact Oo D ns ps xs C _ (λy E=>h y (.tail _ E))
  ·rfl
 | .p t g off :: ps,y :: xs,.aC T cs U :: C,k,h=>by
  simp only[nY];split
  ·exact Oo D ns ps xs C _ (λy E=>h y (.tail _ E))
  ·rfl
 | .s t g :: ps,y :: xs,.sl q Y :: C,k,h=>by
  simp only[nY];split
  ·exact Oo D ns ps xs C _ (λy E=>h y (.tail _ E))
  ·rfl
 |[],[],_::_,k,_=>rfl
 |[],_::_,_,k,_=>rfl
 |.v _ _::_,[],_,k,_=>rfl
 |.p _ _ _::_,[],_,k,_=>rfl
 |.s _ _::_,[],_,k,_=>rfl
 |.p _ _ _::_,_::_,[],k,_=>rfl
 |.s _ _::_,_::_,[],k,_=>rfl
 |.p _ _ _::_,_::_,.sl _ _::_,k,_=>rfl
 |.s _ _::_,_::_,.aC _ _ _::_,k,_=>rfl
def WA{i:Nat}:∀ (C:aa (V×ah Nat)) (j:Nat),(∀ v∈C,∀ q,v.2=some q -> p q=false) -> ∀ u∈Hy i j C,p u.1=false
 |[],_,_,u,hu=>by cases hu
 |(y,none)::C,j,h,u,hu=>WA C (j+1) (λv D=>h v (.tail _ D)) u hu
 | (y,some q) :: C,j,h,u,hu=>by
  rcases gW.1 hu with rfl|hu
  ·simp_all
  ·exact WA C (j+1) (λv D=>h v (.tail _ D)) u hu
def WB:∀ (C:aa Mu) (i:Nat),(∀ E∈C,On p E) -> ∀ u∈nX i C,p u.1=false
 |[],_,_,u,hu=>by cases hu
 | .aC U cs L :: C,i,h,u,hu=>by
  obtain⟨O,Y,T⟩:=h _ (.head _);rcases gW.1 hu with rfl|hu
  ·exact O
  ·rcases List.mem_append.1 hu with hu | hu
   ·exact WA L 0 T u hu
   ·exact WB C _ (λm D=>h m (.tail _ D)) u hu
 | .sl q y :: C,i,h,u,hu=>by
  rcases gW.1 hu with rfl|hu
  ·exact h _ (.head _)
  ·exact WB C (i+1) (λm D=>h m (.tail _ D)) u hu
def WC{c0:Nat}(E:∀ n,c0 <= n -> p n=false):∀ (C:aa (V×ah Nat)) (n:Nat),(∀ v∈C,∀ q,v.2=some q -> p q=false) -> ∀ u∈oS c0 n C,p u=false
 |[],_,_,u,hu=>by cases hu
 | (y,none) :: C,n,h,u,hu=>by
  rcases gW.1 hu with rfl|hu
  ·simp_all
  ·exact WC E C (n+1) (λv D=>h v (.tail _ D)) u hu
 | (y,some q) :: C,n,h,u,hu=>by
  rcases gW.1 hu with rfl|hu
  ·simp_all
  ·exact WC E C (n+1) (λv D=>h v (.tail _ D)) u hu
def WD:∀ (C:aa Nat) (xs:aa V),∀ u∈BA C xs,u∈C
 |[],[],u,hu=>by cases hu
 | n :: C,y :: xs,u,hu=>by
  simp[BA]at hu;cases D:y.aF with
  |true=>rw[D]at hu;exact .tail _ (WD C xs u hu)
  | false=>
   rw[D]at hu;rcases gW.1 hu with rfl|hu
   ·simp_all
   ·exact .tail _ (WD C xs u hu)
def adq{ns cn:aa Nat}:∀ (C:aa Nat) (D:aa Lf) (xs:aa V),(∀ n∈C,p n=false)->D.all (Lf.nr p)=true->(pR ns cn C D xs).all (Lf.nr p)=true
 |[],_,_,_,_=>by simp[pR]
 |_::_,[],_,_,_=>by simp[pR]
 |_::_,_::_,[],_,_=>by simp[pR]
 | n :: C,l :: D,y :: xs,L,E=>by
  rw[List.all_cons,aN]at E;simp only[pR,List.all_cons,aN]
  refine⟨?_,adq C D xs (λn O=>L n (.tail _ O)) E.2⟩
  cases y.plain with
  |true=>rfl
  | false=>
   simp only[aq];cases y.aF with
   | true=>
    simp only[au];cases l with
    | own k=>
     have T:Lf.eV ns cn (.own k)=(bif gq k cn ||(gq k ns && !(Nat.beq k.length 1))then .dead else .own k):=rfl;rw[T];cases (gq k cn ||(gq k ns && !(Nat.beq k.length 1)))with
     |true=>rfl
     |false=>exact E.1
    |v x=>rfl
    |dead=>rfl
   | false=>
    show (!p n)=true;rw[L n (.head _)];rfl
def WE:∀ (C:aa Nat) (xs:aa V),∀ u∈zu C xs,u.1∈C /\ ∃ y,u.2 = .sl y
 |[],[],u,hu=>by cases hu
 |[],_::_,u,hu=>by cases hu
 | n :: C,y :: xs,u,hu=>by
  simp[zu]at hu;cases L:y.aF with
  |true=>rw[L]at hu;obtain⟨D,E⟩:=WE C xs u hu;exact⟨.tail _ D,E⟩
  | false=>
   rw[L]at hu;rcases gW.1 hu with rfl|hu
   ·simp_all
   ·obtain⟨D,E⟩:=WE C xs u hu;exact⟨.tail _ D,E⟩
def WG{c0:Nat}{ns cn:aa Nat}(E:p e=true)(T:∀ n,c0<=n->p n=false):∀ (D:aa Mu) (outs:aa In) (C:Nat),(∀ mu∈D,On p mu)->(∀ u∈pQ c0 C D outs,p u=false)/\∀ u∈nZ ns cn c0 C D outs,u.1≠e/\u.2.drop e=u.2
 |[],outs,C,_=>⟨(λu hu=>by simp[pQ]at hu),(λu hu=>by simp[nZ]at hu)⟩
 |.aC _ _ _::_,[],C,_=>⟨(λu hu=>by cases hu),(λu hu=>by cases hu)⟩
 |.sl _ _::_,[],C,_=>⟨(λu hu=>by cases hu),(λu hu=>by cases hu)⟩
 |.aC _ _ _::_,.sl _::_,C,_=>⟨(λu hu=>by cases hu),(λu hu=>by cases hu)⟩
 |.sl _ _::_,.aC _::_,C,_=>⟨(λu hu=>by cases hu),(λu hu=>by cases hu)⟩
 | .aC r' cs vs :: D,.aC xs :: outs,C,h=>by
  obtain⟨L,h2,h3⟩:=h _ (.head _);obtain⟨U,O⟩:=WG (ns:=ns) (cn:=cn) E T D outs (C+1+vs.length) (λm Y=>h m (.tail _ Y));have dc:∀n,p n=false->n≠e:=by rintro n hn rfl;rw[E]at hn;cases hn
  have Z:=WC T vs (C+1) h3
  refine⟨λu hu=>?_,λu hu=>?_⟩
  ·simp only[pQ]at hu;rcases List.mem_append.1 hu with hu | hu
   ·exact Z u (WD _ _ u hu)
   ·exact U u hu
  ·simp only[nZ]at hu;rcases gW.1 hu with rfl | hu
   ·refine⟨dc _ L,?_⟩;rw[bg.H8,qz.zz (adq _ _ _ Z h2) E]
   ·rcases List.mem_append.1 hu with hu | hu
    ·obtain⟨g1,y,g2⟩:=WE _ _ u hu;exact⟨dc _ (Z _ g1),by rw[g2];rfl⟩
    ·exact O u hu
 | .sl q y :: D,.sl y' :: outs,C,h=>by
  have L:p q=false:=h _ (.head _);obtain⟨U,O⟩:=WG (ns:=ns) (cn:=cn) E T D outs (C+1) (λm Y=>h m (.tail _ Y))
  refine⟨λu hu=>U u (by simpa [pQ]using hu),λu hu=>?_⟩
  simp only[nZ]at hu;cases hy:y'.jK with
  |false=>rw[hy]at hu;exact O u hu
  |true=>
  rw[hy]at hu;rcases gW.1 hu with rfl|hu
  ·exact⟨(by rintro rfl;rw[E]at L;cases L),rfl⟩
  ·exact O u hu
def WH:∀ (xs:aa V) (c:Nat),e<c->(nT c xs).map (Lf.drop e)=nT c xs
 |[],_,_=>rfl
 | y :: xs,c,h=>by
  simp only[nT,List.map_cons];rw[WH xs (c+1) (by omega)];cases y.aF with
  |true=>rfl
  | false=>
   have:cU e [c]=false:=by simp[cU];omega
   simp only[aq,Lf.drop,this,Lf.cE]
def aqp{b:Bool}{xs:aa Lf}{y:A}(h:yR (b,xs)=some y)(C:xs.map (Lf.drop e)=xs):y.drop e=y:=by
 unfold yR at h;split at h
 next D=>injection h with h;subst h;obtain⟨_,rfl⟩:=D;exact aY A.agg C
 next z D=>injection h with h;subst h;obtain⟨_,rfl⟩:=D;simp at C;exact aY A.lf C
 ·cases h
def adr:∀ (ps:aa Pt) (c:Nat),e<c->(rQ c ps).map (λq=>(q.1,q.2.map (Lf.drop e)))=rQ c ps
 |[],_,_=>rfl
 | q :: ps,c,h=>by
  simp only[rQ,List.map_cons];rw[WH _ _ h,adr ps _ (by omega)]
def aqq(ps:aa Pt)(c:Nat)(h:e<c):A.drop e (.eS (rQ c ps)) = .eS (rQ c ps):=aY A.eS (adr ps c h)
def ads(C:jQ x)(D:mm e u)(U:e<20000)(E:d≠e){L:fR}{O:S}(h:nU σ d L some=some O):nU (cJ e x u σ) d L some=some (cJ e x u O):=by
 unfold nU at h ⊢;split at h
 ·split at h
  next y T=>injection h with h;subst h;rw[Ol C D _ _ _ (by omega),Om E (aqp T (WH _ _ (by omega)))]
  ·cases h
 ·injection h with h;subst h;rw[adj C D _ _ _ (by omega),Om E (aqq _ _ (by omega))]
def aqr(O:jQ x)(T:mm e u)(U:e<20000){C:ah Tmp}(Y:C≠some e){E:fR}{D:S}(h:vp N σ C E some=some D):vp N (cJ e x u σ) C E some=some (cJ e x u D):=by
 cases C with
 | none=>
  have h:some σ=some D:=h;injection h with h;rw[<-h];rfl
 | some d=>
  unfold vp at h ⊢;cases L:Nat.blt d N with
  |false=>simp only[L,aq]at h;cases h
  | true=>
   simp only[L,au]at h ⊢;exact ads O T U (by rintro rfl;exact Y rfl) h
def aqs(ei:fL P Φ)(hx:jQ x)(Y:mm e u)(he:e<20000)(T:p e=true)(BX:∀ n,20000<=n->p n=false)(C:mZ Φ o=true)(hd:o.dst≠some e)(sr:∀ y∈o.op.operands,(aK σ y).nr p=true/\y ≠ .tmp e)(hl:∀ n∈sj Φ σ o,xu σ p n=true){τ:S}
  (h:dP P N Φ σ o some=some τ):dP P N Φ (cJ e x u σ) o some=some (cJ e x u τ):=by
 have vB:∃ f args kQ,o.op = .call { callee:=.value (.func f),args:=args,argTypes:=kQ }:=by
  unfold mZ at C;split at C
  ·exact⟨_,_,_,by assumption⟩
  ·cases C
 obtain⟨f,args,kQ,D⟩:=vB;have lE:∀ y∈args.toList,(aK σ y).nr p=true/\y ≠ .tmp e:=by
  intro y hy;refine sr y ?_;rw[D];simp only[Op.operands,Call.operands];simp only[Array.mem_append]
  first
   |exact .inr (by simpa using hy)
   |exact .inl (by simpa using hy)
 have dB:∀ σ2,dP P N Φ σ2 o some=iD P N Φ σ2 o some:=by
  intro σ2;unfold dP;rw[show fM o.op=false by rw[D];rfl,aq]
 rw[dB]at h ⊢;cases L:Φ f with
 |none=>simp only[iD,D,L]at h;cases h
 | some c=>
  cases c with
  |n F=>rw[mZ,D]at C;simp[L]at C
  |v c=>rw[mZ,D]at C;simp[L]at C
  |i c=>rw[mZ,D]at C;simp[L]at C
  |d c=>rw[mZ,D]at C;simp[L]at C
  |q c=>rw[mZ,D]at C;simp[L]at C
  |c c=>rw[mZ,D]at C;simp[L]at C
  | p c=>
   simp only[iD,D,L]at h ⊢;obtain⟨d,Z,h⟩:=jP h;have hde:d≠e:=by rintro rfl;exact hd Z
   obtain⟨res,rO,h1,E,h3⟩:=NX (Ia ei L) Ei h;injection E with E;subst E;simp only[gL,Z];exact(h3 (cJ e x u σ) (cJ e x u rO) (λX k=>rP (cJ e x u σ) args.toList k) (λX k=>adm T _ k lE) (ads hx Y he hde h1)).at_ _
  | m c=>
   simp only[iD,D,L]at h ⊢;have HG:∀ n∈n6 σ c.ps args.toList,xu σ p n=true:=by
    intro n U;refine hl n ?_;simp only[sj,D,L];exact U
   unfold rW at h;split at h
   ·rename_i O zy;obtain⟨g1,g2⟩:=Wz (x:=x) (u:=u) T c.ps args.toList O lE HG zy;cases mb:(once (nX 0 O)&&Nat.ble O.length 40)with
    |false=>rw[mb]at h;cases h
    | true=>
     rw[mb,au]at h;obtain⟨z,E,adt⟩:=(VV _ _ _).mT h;simp only[rW,g1,mb,au];rw[Oo T _ _ _ _ _ lE];refine(adt S _).trans ?_;split at E
     ·rename_i y hy;unfold NN at E ⊢;generalize oM:pQ (iL o.dst) (fm c.ro y.1).len O (kR (fh c.ps) y.2)=cn at E;generalize fo:HD N O (kR (fh c.ps) y.2) cn=ok at E;cases ok with
      |false=>cases E
      | true=>
       rw[au]at E;have xb:∀ n,iL o.dst<=n->p n=false:=by
        intro n U;refine BX n ?_;cases Z:o.dst with
        |none=>rw[Z]at U;simp only[iL]at U;omega
        |some d=>rw[Z]at U;simp only[iL]at U;omega
       obtain⟨k1,k2⟩:=WG (ns:=(nX 0 O).map (·.1)) (cn:=cn) T xb O (kR (fh c.ps) y.2) (fm c.ro y.1).len g2;rw[oM]at k1;rw[au,aqk hx Y ?_ ?_ k2]
       ·exact aqr hx Y he hd E
       ·cases hm:dG e ((nX 0 O).map (·.1))with
        |false=>rfl
        | true=>
         obtain⟨u,Y,e1⟩:=List.mem_map.1 (xe.1 hm);have:=WB O 0 g2 u Y;rw[e1,T]at this;cases this
       ·cases hm:dG e cn with
        |false=>rfl
        |true=>have:=k1 e (xe.1 hm);rw[T]at this;cases this
     ·cases E
   ·cases h
def A.adu{y:A}(h:y.fM=true)(K:mR):y.cE K=y:=by
 refine A.qy ?_;cases y with
 |lf l=>cases l<;>first|rfl|cases h
 | agg cs=>
  refine cw.2 λl C=>?_
  have:=cw.1 h l C;cases l<;>first|rfl|cases this
 |_=>cases h
def A.Oq{y:A}(h:y.fM=true)(n:Nat):y.drop n=y:=A.adu h _
def A.aqt{y:A}(h:y.fM=true)(ns cn:aa Nat):y.eV ns cn=y:=A.adu h _
def WI:∀ (xs:aa V) (c:Nat) (σ:S) {t:Nat},(σ.t t).fM=true -> (lY c σ xs).t t=σ.t t
 |[],c,σ,t,h=>rfl
 | y :: xs,c,σ,t,h=>by
  simp[lY];cases y.aF with
  |true=>exact WI xs _ σ h
  | false=>
   simp;have C:(((σ.drop c).root c (.sl y)).t t)=σ.t t:=by rw[Wv];exact A.Oq h c
   rw[WI xs _ _ (by rw[C];exact h),C]
def adv:∀ (ps:aa Pt) (c:Nat) (σ:S) {t:Nat},(σ.t t).fM=true -> (oP c σ ps).t t=σ.t t
 |[],c,σ,t,h=>rfl
 | q :: ps,c,σ,t,h=>by
  simp[oP];have C:=WI q.2 c σ h;rw[adv ps _ _ (by rw[C];exact h),C]
def adw{D:fR}{C:S}(h:nU σ d D some=some C){t:Nat}(E:(σ.t t).fM=true)(L:t≠d):C.t t=σ.t t:=by
 obtain⟨ps,u,O⟩:=ac8 h;rw[O]at h;injection h with h;rw[<-h];exact(cM _ _ _ L).trans (adv _ _ _ E)
def aqu{C:ah Tmp}{L:fR}{D:S}(h:vp N σ C L some=some D){t:Nat}(O:(σ.t t).fM=true)(T:C≠some t):D.t t=σ.t t:=by
 cases C with
 | none=>
  have h:some σ=some D:=h;injection h with h;rw[<-h]
 | some d=>
  unfold vp at h;cases E:Nat.blt d N with
  |false=>simp only[E,aq]at h;cases h
  | true=>
   simp only[E,au]at h;exact adw h O (by rintro rfl;exact T rfl)
def aqv(ei:fL P Φ)(C:mZ Φ o=true){U:S}(h:dP P N Φ σ o some=some U){t:Nat}(T:(σ.t t).fM=true)(Y:o.dst≠some t):U.t t=σ.t t:=by
 have vB:∃ f args Z,o.op = .call { callee:=.value (.func f),args:=args,argTypes:=Z }:=by
  unfold mZ at C;split at C
  ·exact⟨_,_,_,by assumption⟩
  ·cases C
 obtain⟨f,args,Z,E⟩:=vB;have dB:dP P N Φ σ o some=iD P N Φ σ o some:=by
  unfold dP;rw[show fM o.op=false by rw[E];rfl,aq]
 rw[dB]at h;cases L:Φ f with
 |none=>simp only[iD,E,L]at h;cases h
 | some c=>
  cases c with
  |n F=>rw[mZ,E]at C;simp[L]at C
  |v c=>rw[mZ,E]at C;simp[L]at C
  |i c=>rw[mZ,E]at C;simp[L]at C
  |d c=>rw[mZ,E]at C;simp[L]at C
  |q c=>rw[mZ,E]at C;simp[L]at C
  |c c=>rw[mZ,E]at C;simp[L]at C
  | p c=>
   simp only[iD,E,L]at h;obtain⟨d,tJ,h⟩:=jP h;obtain⟨res,rO,h1,D,h3⟩:=NX (Ia ei L) Ei h;injection D with D;subst D;exact adw h1 T (by rintro rfl;exact Y tJ)
  | m c=>
   simp only[iD,E,L]at h;unfold rW at h;split at h
   ·rename_i O zy;cases mb:(once (nX 0 O)&&Nat.ble O.length 40)with
    |false=>rw[mb]at h;cases h
    | true=>
     rw[mb,au]at h;obtain⟨z,D,adt⟩:=(VV _ _ _).mT h;split at D
     ·rename_i y hy;unfold NN at D;generalize HD N O (kR (fh c.ps) y.2) (pQ (iL o.dst) (fm c.ro y.1).len O (kR (fh c.ps) y.2))=ok at D;cases ok with
      |false=>cases D
      | true=>
       rw[au]at D;have e1:∀ns cn nr,(σ.eV ns cn nr).t t=σ.t t:=λns cn nr=>A.aqt T ns cn
       have:=aqu (t:=t) D (by rw[e1];exact T) Y;rw[this,e1]
     ·cases D
   ·cases h
def aqw{E:Nat}{L:bg}{O:A}(T:jQ x)(U:mm e u)(Y:jQ L)(Z:mm E O)(h:e≠E):cJ E L O (cJ e x u σ)=cJ e x u (cJ E L O σ):=by
 refine S.ext' (λk=>?_) λn=>?_
 ·simp only[qQ];by_cases C:k=E
  ·subst C;rw[bL rfl,bX (Ne.symm h),bL rfl,Z.drop (Ne.symm h)]
  ·rw[bX C];by_cases D:k=e
   ·subst D;rw[bL rfl,bL rfl,U.drop h]
   ·rw[bX D,bX D,bX C,A.Wu]
 ·simp only[oV];by_cases C:n=E
  ·subst C;rw[bL rfl,bX (Ne.symm h),bL rfl,Option.map_some,Y.drop]
  ·rw[bX C];by_cases D:n=e
   ·subst D;rw[bL rfl,bL rfl,Option.map_some,T.drop]
   ·rw[bX D,bX D,bX C];cases σ.m n with
    |none=>rfl
    |some y=>simp only[Option.map_some,bg.Wu]
def aqx(O:jQ x)(T:mm e u)(U:p e=true)(Y:n7 o=true)(Z:o.dst≠some e)(C:∀ y∈o.op.operands,(aK σ y).nr p=true/\y ≠ .tmp e){D:S}
  (h:dP P N Φ σ o some=some D):dP P N Φ (cJ e x u σ) o some=some (cJ e x u D):=by
 obtain⟨e',x',u',hd',Hx,lC,ve,ij,tH⟩:=Of (o:={ o with guard:=none }) (ops:=#[]) Y rfl h;have dc:e≠e':=by rintro rfl;exact Z hd'
 have E:=tH (cJ e x u σ) rfl λy L=>xy (C y L).1 U (C y L).2
 rw[aqw O T lC ve dc,<- ij]at E;exact E
def aqy(D:n7 o=true){C:S}(h:dP P N Φ σ o some=some C){t:Nat}(E:(σ.t t).fM=true)(L:o.dst≠some t):C.t t=σ.t t:=by
 obtain⟨O,Z,u',T,Hx,lC,ve,U,tH⟩:=Of (o:={ o with guard:=none }) (ops:=#[]) D rfl h;have Y:t≠O:=by rintro rfl;exact L T
 rw[U,qQ,bX Y,A.Oq E]
def aqz(hx:jQ x)(hu:mm e u)(C:p e=true)(hm:isApp o=true)(hd:o.dst≠some e)(T:∀ y∈o.op.operands,(aK σ y).nr p=true/\y ≠ .tmp e){U:S}
  (h:dP P N Φ σ o some=some U):dP P N Φ (cJ e x u σ) o some=some (cJ e x u U):=by
 obtain⟨a,b,t,t',L,hn,mV,hk⟩:=Wq hm;have E:=T a (by rw[L];simp[Op.operands,Call.operands]);have O:=T b (by rw[L];simp[Op.operands,Call.operands]);rw[Ib L hn mV hk]at h ⊢;obtain⟨d,Y,h⟩:=jP h;obtain⟨r,v,ij,hr,tH⟩:=Og h;have Z:d≠e:=by rintro rfl;exact hd Y
 have hre:r≠e:=by
  rcases hr with h1|h1
  ·rw[h1];exact Z
  ·rintro rfl;have D:=E.1;rw[h1]at D;simp[A.nr,A.fr,vt,Lf.nr,Lf.fr,n5,jj,C]at D
 unfold gL;rw[Y];simp only;rw[xy E.1 C E.2,xy O.1 C O.2,tH (cJ e x u σ) (λk=>aql O.1 C) (λr' v' fl vc=>?_)]
 ·rw[adi v hx hu (Ne.symm hre),Om Z ?_,ij];have:cU e [r]=false:=by simp[cU,hre]
  simp only[A.drop,Lf.drop,this,aq,A.cE,wN,Lf.cE]
 ·have dc:r'≠e:=by
   rintro rfl;have D:=E.1;rw[fl]at D;simp[A.nr,A.fr,vt,Lf.nr,Lf.fr,n5,jj,C]at D
  rw[oV,bX dc,vc];rfl
def aqA(D:isApp o=true){C:S}(h:dP P N Φ σ o some=some C){t:Nat}(E:(σ.t t).fM=true)(L:o.dst≠some t):C.t t=σ.t t:=by
 obtain⟨a,b,t1,t2,O,T,U,Y⟩:=Wq D;rw[Ib O T U Y]at h;obtain⟨d,Z,h⟩:=jP h;obtain⟨r,v,ij,hr,tH⟩:=Og h;have dc:t≠d:=by rintro rfl;exact L Z
 rw[ij];show cc ((σ.drop r).root r _).t d _ t=_;rw[cM _ _ _ dc];exact A.Oq E r
def adx(C:∃ ty t y,o.op = .store ty (.tmp t) y/\o.dst=none /\ ∃ r j,σ.t t = .aJ r j){L:S}(h:dP P N Φ σ o some=some L):∃ t y r j cs xs,o.op.operands = #[.tmp t,y]/\σ.t t = .aJ r j/\(aK σ y).yP=some xs/\σ.m r=some (.aC cs)/\L=σ.root r (.aC (splice cs j xs)) /\
  ∀(σ2:S) (D:aa Lf),σ2.t t = .aJ r j -> aK σ2 y=aK σ y -> σ2.m r=some (.aC D) -> D.length=cs.length -> dP P N Φ σ2 o some=some (σ2.root r (.aC (splice D j xs))):=by
 obtain⟨ty,t,y,C,Z,r,j,O⟩:=C;have T:∀ σ2:S,σ2.t t = .aJ r j -> dP P N Φ σ2 o some=pN P σ2 ty (.aJ r j) (aK σ2 y) some:=by
  intro σ2 E;unfold dP;rw[show fM o.op=false by rw[C];rfl,aq];simp[iD,C,Z];have e1:aK σ2 (.tmp t) = .aJ r j:=E;rw[e1,show xo _ _=false from rfl,aq]
 rw[T σ O]at h;unfold pN at h;split at h
 ·rename_i n xs hn U;split at h
  ·rename_i hlen;simp only at h;split at h
   ·rename_i cs gp;split at h
    ·rename_i hj;cases Y:xs.all Lf.live with
     |false=>simp_all
     | true=>
      rw[Y,au]at h;injection h with h
      refine⟨t,y,r,j,cs,xs,by rw[C];rfl,O,U,gp,h.symm,λσ2 D h1 E h3 h4=>?_⟩
      rw[T σ2 h1,E];simp only[pN,hn,U,bL hlen,h3];rw[bL (by rw[h4];exact hj),Y];rfl
    ·cases h
   ·cases h
  ·cases h
 ·cases h
def ady(C:HZ o=true)(E:xq σ o=true):∃ ty t y,o.op = .store ty (.tmp t) y/\o.dst=none /\ ∃ r j,σ.t t = .aJ r j:=by
 unfold HZ at C;rw[aN]at C;obtain⟨D,L⟩:=C;split at D
 ·rename_i ty t y O;refine⟨ty,t,y,O,Option.isNone_iff_eq_none.1 L,?_⟩;unfold xq at E
  grind
 ·cases D
def aqB{y:A}{xs:aa Lf}(h:y.yP=some xs)(C:y.nr p=true):xs.all (Lf.nr p)=true:=by
 cases y with
 |lf l=>injection h with h;subst h;rw[List.all_cons,show l.nr p=true from C];rfl
 |agg cs=>injection h with h;subst h;exact C
 |_=>cases h
def aqC(hx:jQ x)(hu:mm e u)(C:p e=true)(hm:HZ o=true)(hs:xq σ o=true)(O:∀ y∈o.op.operands,(aK σ y).nr p=true/\y ≠ .tmp e){T:S}
  (h:dP P N Φ σ o some=some T):dP P N Φ (cJ e x u σ) o some=some (cJ e x u T):=by
 obtain⟨t,y,r,j,cs,xs,U,Y,g3,g4,g5,g6⟩:=adx (ady hm hs) h;have D:=O (.tmp t) (by rw[U];simp);have E:=O y (by rw[U];simp);have e1:(cJ e x u σ).t t = .aJ r j:=(xy D.1 C D.2).trans Y;have Z:r≠e:=by
  have h2:(aK σ (.tmp t)).nr p=true:=D.1;have h3:aK σ (.tmp t) = .aJ r j:=Y;rw[h3]at h2;exact ap3 h2 C
 have e3:(cJ e x u σ).m r=some (.aC (cs.map (Lf.drop e))):=by
  rw[oV,bX Z,g4];rfl
 have mU:=qz.zz (aqB g3 E.1) C;rw[g6 (cJ e x u σ) _ e1 (xy E.1 C E.2) e3 (by rw[eG]),g5];congr 1
 refine S.ext' (λk=>?_) λn=>?_
 ·show (cJ e x u σ).t k=(cJ e x u (σ.root r (.aC (splice cs j xs)))).t k;rw[qQ,qQ];rfl
 ·show cc (cJ e x u σ).m r (some (.aC (splice (cs.map (Lf.drop e)) j xs))) n=(cJ e x u (σ.root r (.aC (splice cs j xs)))).m n;rw[oV];by_cases L:n=r
  ·subst L;rw[cm,bX Z];show _=(cc σ.m n (some (bg.aC (splice cs j xs))) n).map (bg.drop e);rw[cm];simp only[Option.map_some,bg.H8,splice,List.map_append,List.map_take,List.map_drop,mU]
  ·rw[cM _ _ _ L,oV];have:(σ.root r (.aC (splice cs j xs))).m n=σ.m n:=cM _ _ _ L;rw[this]
def aqD(D:HZ o=true)(E:xq σ o=true){C:S}(h:dP P N Φ σ o some=some C)(t:Nat):C.t t=σ.t t:=by
 obtain⟨_,_,r,j,cs,xs,_,_,_,_,L,_⟩:=adx (ady D E) h;rw[L];rfl
def aqE(Y:fL P Φ)(C:jQ x)(D:mm e u)(Z:e<20000)(E:p e=true)(BX:∀ n,20000<=n->p n=false)(O:H6 Φ o=true)(jN:xq σ o=true)(T:o.dst≠some e)(L:∀ y∈o.op.operands,(aK σ y).nr p=true/\y ≠ .tmp e)(hl:∀ n∈sj Φ σ o,xu σ p n=true){U:S}
  (h:dP P N Φ σ o some=some U):dP P N Φ (cJ e x u σ) o some=some (cJ e x u U):=by
 unfold H6 at O;rw[eB,eB,eB]at O;rcases O with ((hc|hc)|hc)|hc
 ·exact aqs Y C D Z E BX hc T L hl h
 ·exact aqx C D E hc T L h
 ·exact aqz C D E hc T L h
 ·exact aqC C D E hc jN L h
def aqF(O:fL P Φ)(C:H6 Φ o=true)(T:xq σ o=true){L:S}(h:dP P N Φ σ o some=some L){t:Nat}(D:(σ.t t).fM=true)(E:o.dst≠some t):L.t t=σ.t t:=by
 unfold H6 at C;rw[eB,eB,eB]at C;rcases C with ((hc|hc)|hc)|hc
 ·exact aqv O hc h D E
 ·exact aqy hc h D E
 ·exact aqA hc h D E
 ·exact aqD hc T h t
def adz{i W j:Nat}{D:Oper}(E:ops[j]?=some D)(h:HW ops i W j=true):∃ e∈D.after,Region.binds .any e=true/\(e.on=i\/W.testBit e.on=true):=by
 unfold HW at h;rw[E]at h;obtain⟨e,L,C⟩:=List.any_eq_true.1 h;rw[aN,eB]at C
 refine⟨e,by simpa using L,C.1,C.2.imp (λh=>cD h) id⟩
def WJ{g:Oper -> Bool}{C:Oper}{i L W:Nat}:∀ (n j:Nat),HX g ops C i L W n j=true -> ∀ k,j <= k -> k<j+n -> k=i \/ L.testBit k=true \/ (W.testBit k=true/\HW ops i W k=true) \/ (W.testBit k=false /\ ∀ ok,ops[k]?=some ok -> g ok=true/\C.apart ops ok=true)
 |0,j,_,k,D,E=>by omega
 | n+1,j,h,k,D,E=>by
  unfold HX at h;rw[aN,eB,eB]at h;by_cases O:k=j
  ·subst O;rcases h.1 with (h | h) | h
   ·exact .inl (cD h)
   ·exact .inr (.inl h)
   ·grind
  ·exact WJ n (j+1) h.2 k (by omega) (by omega)
def pX{g:Oper -> Bool}{i L W:Nat}:∀ (n j:Nat) (k:Nat),j <= k -> k<j+n -> k≠i -> L.testBit k=false -> W.testBit k=false -> ∀ ok,ops[k]?=some ok -> g ok=true -> jx g ops i L W n j=true
 |0,j,k,C,D,_,_,_,_,_,_=>by omega
 | n+1,j,k,C,D,hi,E,O,ok,T,U=>by
  unfold jx;rw[eB];by_cases Y:k=j
  ·subst Y;refine .inl ?_;have Z:Nat.beq k i=false:=by
    cases Z:Nat.beq k i with
    |false=>rfl
    |true=>simp_all
   simp_all
  ·exact .inr (pX n _ k (by omega) (by omega) hi E O ok T U)
def adA{g:Oper -> Bool}{i L W:Nat}:∀ (n j:Nat),jx g ops i L W n j=true -> ∃ k ok,ops[k]?=some ok/\k≠i/\L.testBit k=false/\W.testBit k=false/\g ok=true
 |0,j,h=>by cases h
 | n+1,j,h=>by
  unfold jx at h;rw[eB]at h;rcases h with h|h
  ·rw[aN,hU,Bool.or_eq_false_iff,Bool.or_eq_false_iff]at h;obtain⟨⟨⟨D,E⟩,O⟩,C⟩:=h;split at C
   next ok T=>exact⟨j,ok,T,(by rintro rfl;rw[Nat.beq_refl]at D;cases D),E,O,C⟩
   ·cases C
  ·exact adA n _ h
theorem aqG[Inhabited Wd]{L i:Nat}{k:S -> ah X}(E:fM o.op=true \/ fN σ ops o=some false)(O:V6 σ (zD Φ ops i L (waits ops i ops.size 0 0) σ) (BS σ ops i L (waits ops i ops.size 0 0)) o=true)(h:HY P N Φ ops L i σ o k=some r):
  ∃v,k (fY σ o.dst v)=some r/\mj P ops o (zD Φ ops i L (waits ops i ops.size 0 0) σ) (BS σ ops i L (waits ops i ops.size 0 0)) v σ /\ ∀σ:S,gX N σ o.dst v some=some (fY σ o.dst v):=by
 unfold HY at h;unfold V6 at O;rw[aN]at O;split at h
 ·rename_i C;obtain⟨v,D,hd,_⟩:=Wb (w0:=default) (N:=N) h;cases T:v.oU _ _ with
  |false=>rw[T]at D;cases D
  | true=>
   rw[T,au]at D;obtain⟨U,Y⟩:=sn D;have E:=E.resolve_right (by rw[C];simp)
   refine⟨v,U,.inl ⟨C,E,hd,λy Z=>cw.1 O.1 y (by simpa using Z),T,λt y r j e Z=>?_⟩,λσ=>(Y σ).at_ _⟩
   simp_all
 next C=>obtain⟨U,Y⟩:=sn h;exact⟨.skip,U,.inr ⟨C,rfl⟩,λσ=>(Y σ).at_ _⟩
 ·cases h
def Ig{i L W n:Nat}(h:BR Φ ops i L W σ n=true):zD Φ ops i L W σ n=true:=by unfold zD;rw[h];rfl
def aqH{i L W:Nat}(h:GM Φ ops i L W σ o=true):∃ ty t y,o.op = .store ty (.tmp t) y/\o.dst=none/\Oa Φ ops i L W σ t=true/\(∀ k,σ.t t ≠ .ptr k) /\ ∀ r j,σ.t t = .aJ r j -> BQ σ o=[r]:=by
 unfold GM at h;split at h
 ·rename_i ty t y C;rw[aN,aN]at h
  refine⟨ty,t,y,C,by simpa using h.1.1,h.1.2,λk E=>?_,λr j D=>by simp[BQ,C,D]⟩
  simp_all
 ·cases h
def aqI{i L W:Nat}(h:V4 Φ ops i L W o=true):∃ x y t C,o.op = .call ⟨.builtin .append,⟨[.tmp x,y]⟩,⟨[t,C]⟩⟩/\mg Φ ops i L W x=true/\(pU t=false/\Nat.beq t C=true/\BO o.dst t (.tmp x)=false):=by
 unfold V4 at h
 grind
def Ih{p:Nat -> Bool}:∀ (ps:aa PK) (xs:aa Operand),(∀ x∈xs,(aK σ x).nr p=true) -> ∀ n∈n6 σ ps xs,p n=false
 |[],[],_,n,hn=>by cases hn
 |.v _ _::ps,x::xs,h,n,hn=>Ih ps xs (λy C=>h y (.tail _ C)) n hn
 |.s _ _::ps,x::xs,h,n,hn=>Ih ps xs (λy C=>h y (.tail _ C)) n hn
 | .p _ _ _ :: ps,x :: xs,h,n,hn=>by
  simp[n6]at hn;split at hn
  ·rename_i L j E;rcases gW.1 hn with rfl | hn
   ·have D:=h x (.head _);rw[E]at D;have D:(!p n)=true:=D
    simpa using D
   ·exact Ih ps xs (λy C=>h y (.tail _ C)) n hn
  ·exact Ih ps xs (λy C=>h y (.tail _ C)) n hn
def Ot{D:ah Tmp}{g:Bool}{k:S -> ah X}(h:sg σ D g k=some r):k σ=some r:=by
 unfold sg at h;cases g with
 |false=>exact h
 | true=>
  rw[au]at h;split at h
  ·rename_i d;split at h
   ·rename_i b E;have:∀ c,b=c -> σ.set d (.lf (.v (.bool c)))=σ:=by
     rintro c rfl
     refine S.ext' (λk=>?_) λ_=>rfl
     show cc _ _ _ _=_;by_cases C:k=d
     ·subst C;rw[cm,E]
     ·rw[cM _ _ _ C]
    grind
   ·exact h
  ·exact h
def adB{L j:Nat}(h:lH ops L j=true):j<ops.size:=by
 obtain⟨_,o,C,_⟩:=Ic.1 h
 grind
def BY{L j:Nat}:j∈(List.range ops.size).filter (lH ops L) ↔ lH ops L j=true:=by
 rw[List.mem_filter,gk];exact⟨λh=>h.2,λh=>⟨adB h,h⟩⟩
structure adC (ops:Array Oper) (p:Nat->Bool) (σ:S) (o:Oper):Prop where
 is:n7 o=true
 want:fN σ ops o=some true
 aG9:∀y∈o.op.operands,(aK σ y).fM=true/\∀t,y = .tmp t->p t=false
 guard:∀g c t,o.guard=some (g,c)->(ops[g]?).bind (·.dst)=some t->p t=false
def aqJ{x:A}{n:Nat}{z:V}(h:qL x n=some z)(X:Type)(k:A -> ah X):Bg x n k=k (.lf (.v z)):=by
 unfold qL at h;split at h
 ·split at h
  next xs _ _ C=>injection h with h;subst h;simp[Bg,C,Option.bind_some,yR]
  ·cases h
 ·cases h
def adD{x:A}{n:Nat}{z:V}{g:Lf -> Lf}{G:A -> A}(C:∀ xs,G (.eS xs) = .eS (xs.map λp=>(p.1,p.2.map g)))(D:∀ z,g (.v z) = .v z)(h:qL x n=some z):qL (G x) n=some z:=by
 unfold qL at h;split at h
 ·split at h
  next xs _ _ E=>injection h with h;subst h;rw[C];simp[qL,eF,E,Option.map_some,List.map_cons,List.map_nil,D]
  ·cases h
 ·cases h
def WK{v:A}(C:∀ q,v.drop q=v){rr d:Nat}{key:Nat -> aa Nat}:∀ (f j:Nat) (xs:aa Lf) (σ:S),gZ rr key f j xs (σ.set d v)=(gZ rr key f j xs σ).map λp=>(p.1,p.2.set d v)
 |_,_,[],σ=>by simp[gZ]
 |0,j,x::xs,σ=>by cases x<;>simp[gZ]
 | f+1,j,.v x :: xs,σ=>by
  simp only[gZ,WK C f];cases gZ rr key f (j+1) xs σ<;>rfl
 | f+1,j,.own [q] :: xs,σ=>by
  simp only[gZ];show (match σ.m q with
   |some (.sl z)=>_
   |_=>none)=_
  cases D:σ.m q with
  |none=>rfl
  | some y=>
   cases y with
   | sl z=>
    cases Nat.beq q rr with
    |true=>rfl
    | false=>
     simp only[aq];rw[S.drop_set q (C q),WK C f];cases gZ rr key f (j+1) (xs.map (Lf.drop q)) (σ.drop q)<;>rfl
   |_=>rfl
 |f+1,j,.own []::xs,σ=>rfl
 |f+1,j,.own (_::_::_)::xs,σ=>rfl
 |f+1,j,.dead::xs,σ=>rfl
def WL{rr:Nat}{key:Nat -> aa Nat}{x n:Nat}{z:V}:∀ (f j:Nat) (xs:aa Lf) (σ C:S) (D:aa V),gZ rr key f j xs σ=some (D,C) -> qL (σ.t x) n=some z -> qL (C.t x) n=some z
 | _,_,[],σ,C,D,h,E=>by
  simp only[gZ]at h;simp_all
 |0,j,y::xs,σ,C,D,h,E=>by cases y<;>simp[gZ]at h
 | f+1,j,.v y :: xs,σ,C,D,h,E=>by
  simp only[gZ]at h;cases L:gZ rr key f (j+1) xs σ with
  |none=>simp_all
  | some p=>
   rw[L]at h;injection h with h;injection h with _ h;subst h;exact WL f (j+1) xs σ p.2 p.1 L E
 | f+1,j,.own [q] :: xs,σ,C,D,h,E=>by
  simp only[gZ]at h;split at h
  ·cases O:Nat.beq q rr with
   |true=>simp_all
   | false=>
    rw[O,aq]at h;cases L:gZ rr key f (j+1) (xs.map (Lf.drop q)) (σ.drop q)with
    |none=>simp_all
    | some p=>
     rw[L]at h;injection h with h;injection h with _ h;subst h;refine WL f (j+1) _ (σ.drop q) p.2 p.1 L ?_;exact adD (G:=A.drop q) (g:=Lf.drop q) (λ_=>rfl) (λ_=>rfl) E
  ·cases h
def aqK{d:Nat}{v:V}{t:TypeId}{x y:A}{L:S}(h:tD P (σ.set d (.lf (.v v))) t x y some=some L):∃ D,tD P σ t x y some=some D/\L=D.set d (.lf (.v v)) /\ ∀ (e n:Nat) (z:V),qL (σ.t e) n=some z -> qL (D.t e) n=some z:=by
 unfold tD at h;split at h
 ·rename_i n xs j i s rr hn mU;split at h
  ·rename_i hlen;cases O:xs.all Lf.live with
   |false=>simp_all
   | true=>
    rw[O,au]at h;split at h
    ·rename_i vs τ1 C;rw[WK (v:=.lf (.v v)) (λ_=>rfl)]at C;cases E:gZ rr (λm=>(j+m) :: i :: s :: [rr]) xs.length 0 xs σ with
     |none=>simp_all
     | some p=>
      rw[E]at C;obtain⟨vs0,T⟩:=p;injection C with C;injection C with e1 e2;subst e1 e2;split at h
      ·rename_i U Y Z l ij;have aqL:T.m rr=some (.sl (.sl U (Y+2) Z l)):=ij;split at h
       ·rename_i oE;split at h
        ·rename_i hi;split at h
         ·rename_i hj;split at h
          ·rename_i e he;injection h with h
           refine⟨T.eV [rr] [] [(rr,.sl (.sl U (Y+2) Z (l.set i e)))],?_,?_,λex nx z hz=>?_⟩
           ·simp[tD,hn,mU,bL hlen,O,au,E,aqL,bL oE,az hi,bL hj,he]
           ·rw[<- h];exact S.aqa _ rfl
           ·exact adD (G:=A.eV [rr] []) (λ_=>rfl) (λ_=>rfl) (WL _ _ _ _ _ _ E hz)
          ·cases h
         ·cases h
        ·cases h
       ·cases h
      ·cases h
    ·cases h
  ·cases h
 ·cases h
def adE{t:TypeId}{a b:Operand}(C:o.op = .store t a b)(D:o.dst=none)(E:xo (aK σ a) (aK σ b)=true):dP P N Φ σ o some=tD P σ t (aK σ a) (aK σ b) some:=by
 unfold dP;rw[show fM o.op=false by rw[C];rfl,aq];simp[iD,C,D,E,au]
theorem aqM[Inhabited Wd](ei:fL P Φ){K:S -> Prop}{f L i:Nat}{Y:Oper}{τ:S}(hi:ops[i]?=some Y)(hr:lH ops L i=true)(D:V8 ops L σ i=true)(ij:dH P N Φ ops σ Y some=some τ)(H:Any P N Φ ops K f (L ||| 2 ^ i) τ):Any P N Φ ops K (f+1) L σ:=by
 unfold V8 at D;rw[hi]at D;split at D
 ·rename_i oi' j0 e1 aqN;injection e1 with e1;subst e1;split at D
  ·rename_i x n d oj vB zJ BZ hj0;split at D
   ·rename_i ty a b Z adF adG;rw[aN,aN]at D;obtain⟨⟨c1,c2⟩,c3⟩:=D;obtain⟨z,hz⟩:=Option.isSome_iff_exists.1 c1;obtain⟨a1,a2,a3⟩:=Oper.apart_spec c3;have hpd:∀ j,j<ops.size -> j≠i -> L.testBit j=false -> j=j0:=by
     intro j E O T;have:j∈(List.range ops.size).filter (λj=>!(Nat.beq j i || L.testBit j)):=by
      rw[List.mem_filter];refine⟨gk.2 E,?_⟩;rw[T,Bool.or_false];cases hb:Nat.beq j i with
      |false=>rfl
      |true=>exact absurd (cD hb) O
     rw[aqN]at this;exact List.mem_singleton.1 this
    have qP:∀ σ2:S,qL (σ2.t x) n=some z -> dH P N Φ ops σ2 Y some=gX N σ2 (some d) (.lf (.v z)) some:=by
     intro σ2 h2;unfold dH;simp only[fN,BZ];unfold dP;rw[show fM Y.op=true by rw[vB];rfl,au,vB];simp only[me];rw[show aK σ2 (.tmp x)=σ2.t x from rfl,aqJ h2,zJ]
    have hN:∀ σ2:S,gX N σ2 (some d) (.lf (.v z)) some=some (σ2.set d (.lf (.v z))):=by
     intro σ2;rw[qP σ hz]at ij;obtain⟨_,g2⟩:=sn ij;exact(g2 σ2).at_ _
    have hE:τ=σ.set d (.lf (.v z)):=by
     grind
    rw[hE]at H
    refine Wt (W:=0) hi (λj oj _ E=>by rw[Nat.zero_testBit]at E;cases E) (λσ=>σ.set d (.lf (.v z)))
     (λL' C=>qL (C.t x) n=some z /\ ∀j,j<ops.size -> j≠i -> L'.testBit j=false -> j=j0/\xo (aK C a) (aK C b)=true)
     (λL' C hI=>(qP C hI.1).trans (hN C)) (λL' C j oj' rO hI U O T _ zI=>?_) f L σ (λj E=>by rw[Nat.zero_testBit]at E;cases E) hr
     ⟨hz,λj E O T=>⟨hpd j E O T,c2⟩⟩ H
    obtain⟨rfl,hg⟩:=hI.2 j (iH.1 U).1 O T;rw[hj0]at U;injection U with U;subst U;have ha:aK (C.set d (.lf (.v z))) a=aK C a:=Ep (a1 d zJ) _ (by rw[Z];simp[Op.operands]);have hb:aK (C.set d (.lf (.v z))) b=aK C b:=Ep (a1 d zJ) _ (by rw[Z];simp[Op.operands]);have jN:dH P N Φ ops (C.set d (.lf (.v z))) oj some=tD P (C.set d (.lf (.v z))) ty (aK C a) (aK C b) some:=by
     unfold dH;simp only[fN,adG];rw[adE Z adF (by rw[ha,hb];exact hg),ha,hb]
    rw[jN]at zI;obtain⟨σ2,h1,h2,h3⟩:=aqK zI
    refine⟨σ2,?_,h2,h3 _ _ _ hI.1,λk hk hki hkL=>?_⟩
    ·unfold dH;simp only[fN,adG];rw[adE Z adF hg];exact h1
    ·grind
   ·cases D
  ·cases D
 ·cases D
theorem Ii[Inhabited Wd](ei:fL P Φ):∀ (f L:Nat) (σ:S) (k:S->ah X),qM P N Φ ops f L σ k=some r->Any P N Φ ops (λτ=>k τ=some r) f L σ
 | 0,L,σ,k,h=>by
  unfold qM at h;split at h
  ·rename_i hr
   refine⟨λj=>?_,h⟩
   cases Z:lH ops L j with
   |false=>rfl
   |true=>have:=BY.2 Z;rw[hr]at this;cases this
  ·cases h
 | f+1,L,σ,k,h=>by
  unfold qM at h;split at h
  ·rename_i hr
   refine⟨λ_=>h,λj Z=>?_⟩
   have:=BY.2 Z;rw[hr]at this;cases this
  ·rename_i i hr;have hi:lH ops L i=true:=BY.1 (by rw[hr];exact .head _)
   refine⟨λh=>absurd (h i) (by rw[hi];simp),λj Z=>?_⟩
   have Z:=BY.2 Z;rw[hr]at Z;obtain rfl:=List.mem_singleton.1 Z;split at h
   next o ho=>obtain⟨τ,h1,h2⟩:=Wj ei h;exact⟨o,τ,ho,h2,Ii ei f _ τ k (Ot h1)⟩
   ·cases h
  ·rename_i rs hn hs;split at h
   ·rename_i i hf;have hc:=List.find?_some hf;have hm:=List.mem_of_find?_eq_some hf;have hi:=BY.1 hm;split at h
    ·rename_i o ho;unfold acV at hc;rw[ho,aN,aN,aN]at hc;obtain⟨⟨⟨c1,c2⟩,c3⟩,c4⟩:=hc;have c1:fM o.op=true\/fN σ ops o=some false:=by
      rw[eB]at c1
      refine c1.imp id λc1=>?_
      split at c1
      next b hb=>rw[hb];cases b<;>first|rfl|cases c1
      ·cases c1
     obtain⟨v,h1,hF,hN⟩:=aqG c1 c4 h;have xz:=WJ _ _ c3;have c2:=cD c2;have Ij:∀ j,(waits ops i ops.size 0 0).testBit j=true->(L ||| 2 ^ i).testBit j=false:=by
      intro j Z;have:((L |||2 ^ i) &&& waits ops i ops.size 0 0).testBit j=false:=by rw[c2];exact Nat.zero_testBit j
      rw[Nat.testBit_and,Z,Bool.and_true]at this;exact this
     have vA:∀ j,(waits ops i ops.size 0 0).testBit j=true->L.testBit j=false:=by
      intro j Z;have:=Ij j Z;rw[zG,Bool.or_eq_false_iff]at this;exact this.1
     refine aqi (W:=waits ops i ops.size 0 0) (ok:=λt r=>!jx (kS t) ops i L (waits ops i ops.size 0 0) ops.size 0 && !jx (λok=>fE ok r) ops i L (waits ops i ops.size 0 0) ops.size 0 && !jx isApp ops i L (waits ops i ops.size 0 0) ops.size 0) (qO:=Oa Φ ops i L (waits ops i ops.size 0 0) σ) (mh:=mh Φ ops i L (waits ops i ops.size 0 0) σ) (mg:=mg Φ ops i L (waits ops i ops.size 0 0)) ei ho hN (λj C D Z=>?_) f L σ (λt r fo j C D T U Y=>?_) (λx hx j C D T U Y=>?_) (λx hx=>?_) (λt fo j C D T U Y=>?_) (λt fo j C D T U Y=>?_) (λj C D T U Y=>?_) vA hi hF (Ii ei f _ _ k (Ot h1))
     ·have dA:=(iH.1 D).1;rcases xz j (by omega) (by omega)with e | e | e | e
      ·subst e;have:=Ij j Z;rw[zG]at this;simp at this
      ·rw[vA j Z]at e;cases e
      ·exact adz D e.2
      ·rw[Z]at e;cases e.1
     ·have dA:=(iH.1 D).1;rw[aN,aN,hU,hU,hU]at fo
      refine⟨λhd=>?_,?_,?_⟩
      ·have:=pX (g:=kS t) ops.size 0 j (by omega) (by omega) T U Y C D (by unfold kS;rw[hd];exact Nat.beq_refl t);rw[fo.1.1]at this;cases this
      ·cases hn:fE C r with
       |false=>rfl
       | true=>
        have:=pX (g:=λok=>fE ok r) ops.size 0 j (by omega) (by omega) T U Y C D hn;rw[fo.1.2]at this;cases this
      ·cases hn:isApp C with
       |false=>rfl
       | true=>
        have:=pX (g:=isApp) ops.size 0 j (by omega) (by omega) T U Y C D hn;rw[fo.2]at this;cases this
     ·have dA:=(iH.1 D).1;unfold mh at hx;rw[aN]at hx;intro hd;have:=pX (g:=kS x) ops.size 0 j (by omega) (by omega) T U Y C D (by unfold kS;rw[hd];exact Nat.beq_refl x);rw[this]at hx;cases hx.1
     ·unfold mh at hx;rw[aN]at hx;have hx:=hx.2;cases hz:σ.t x with
      |aJ r j=>rw[hz]at hx;exact hx
      |iZ cs=>trivial
      |_=>rw[hz]at hx;cases hx
     ·have dA:=(iH.1 D).1;by_cases hd:C.dst=some t
      ·refine .inr ?_;have WM:kS t C=true:=by unfold kS;rw[hd];exact Nat.beq_refl t
       cases Et:vw C with
       | false=>
        cases Ik:N9 Φ ops i L (waits ops i ops.size 0 0) σ C with
        | false=>
         have:=pX (g:=λok=>kS t ok && !(vw ok ||N9 Φ ops i L (waits ops i ops.size 0 0) σ ok)) ops.size 0 j (by omega) (by omega) T U Y C D (by rw[WM,Et,Ik];rfl);unfold Oa at fo;rw[this]at fo;cases fo
        | true=>
         unfold N9 at Ik;split at Ik
         next s x f zK=>exact .inr ⟨s,x,f,zK,Ik⟩
         ·cases Ik
       | true=>
        refine .inl ⟨rfl,?_⟩;refine Ig ?_;unfold BR;rw[eB]
        refine .inl (pX (g:=λo=>fE o t) _ 0 j (by omega) (by omega) T U Y C D ?_)
        obtain⟨ty,e,h1,_,h3,_⟩:=adf Et;unfold fE;rw[hd,h1];exact Nat.beq_refl t
      ·exact .inl hd
     ·have dA:=(iH.1 D).1;by_cases hd:C.dst=some t
      ·refine .inr ?_;have WM:kS t C=true:=by unfold kS;rw[hd];exact Nat.beq_refl t
       cases vn:n7 C with
       | false=>
        cases hma:isApp C with
        |true=>exact .inr (.inl rfl)
        | false=>
         cases BV:zE Φ C with
         |true=>exact .inr (.inr rfl)
         | false=>
          have:=pX (g:=λok=>kS t ok && !(n7 ok ||isApp ok ||zE Φ ok)) ops.size 0 j (by omega) (by omega) T U Y C D (by rw[WM,vn,hma,BV];rfl);unfold mg at fo;rw[this]at fo;cases fo
       | true=>
        refine .inl ?_;have oT:fE C t=true:=by
         unfold n7 at vn;rw[aN]at vn;have h1:=vn.1;unfold fE;rw[hd];split at h1
         next Bo=>simp only[Bo];exact Nat.beq_refl t
         next Bo=>simp only[Bo];exact Nat.beq_refl t
         next Bo=>simp only[Bo];exact Nat.beq_refl t
         ·cases h1
        have h9:=pX (g:=λo=>fE o t) ops.size 0 j (by omega) (by omega) T U Y C D oT;refine⟨rfl,?_,?_⟩
        ·refine Ig ?_;unfold BR;rw[eB];exact .inl h9
        ·unfold BS;rw[eB];exact .inl h9
      ·exact .inl hd
     ·have dA:=(iH.1 D).1;rcases xz j (by omega) (by omega)with e | e | e | e
      ·exact absurd e T
      ·rw[U]at e;cases e
      ·rw[Y]at e;cases e.1
      ·obtain⟨e1,e2⟩:=e.2 C D
       refine⟨e2,?_,λn hn=>?_⟩
       ·rw[eB,eB,eB]at e1;rcases e1 with ((e1 | e1) | e1) | e1
        ·exact .inl e1
        ·cases e1
        ·obtain⟨ty,t,y,g1,g2,g3,g4,g5⟩:=aqH e1;refine .inr (.inr (.inl ⟨ty,t,y,g1,g2,g3,?_⟩));cases hx:σ.t t with
         | aJ r' j'=>
          show zD Φ ops i L (waits ops i ops.size 0 0) σ r'=true;refine Ig ?_;unfold BR;rw[eB]
          refine .inr (pX (g:=λo=>dG r' (sj Φ σ o) ||dG r' (BQ σ o)) _ 0 j (by omega) (by omega) T U Y C D ?_)
          rw[g5 r' j' hx,eB];exact .inr (xe.2 (.head _))
         |ptr k=>exact absurd hx (g4 k)
         |_=>trivial
        ·obtain⟨x,y,t1,t2,g1,g2,g3⟩:=aqI e1
         refine .inr (.inr (.inr ⟨x,y,t1,t2,g1,g2,g3,λr' fl=>⟨?_,?_⟩⟩))
         ·refine Ig ?_;unfold BR;rw[eB]
          refine .inr (pX (g:=λo=>dG r' (sj Φ σ o) ||dG r' (BQ σ o)) _ 0 j (by omega) (by omega) T U Y C D ?_)
          have:BQ σ C=[r']:=by simp only[BQ,g1,fl]
          rw[this,eB];exact .inr (xe.2 (.head _))
         ·unfold BS;rw[eB]
          refine .inr (pX (g:=λo=>dG r' (N8 σ o)) _ 0 j (by omega) (by omega) T U Y C D ?_)
          have:N8 σ C=[r']:=by simp only[N8,g1,fl]
          rw[this];exact xe.2 (.head _)
       ·have h9:=pX (g:=λo=>fE o n) ops.size 0 j (by omega) (by omega) T U Y C D hn;refine⟨?_,?_⟩
        ·refine Ig ?_;unfold BR;rw[eB];exact .inl h9
        ·unfold BS;rw[eB];exact .inl h9
    ·cases h
   ·split at h
    ·rename_i i hf;have hc:=List.find?_some hf;have hm:=List.mem_of_find?_eq_some hf;have hi:=BY.1 hm;split at h
     ·rename_i o ho;unfold acW at hc;rw[ho,aN,aN,aN,aN,aN]at hc;obtain⟨⟨⟨⟨⟨c1,c2⟩,c3⟩,c4⟩,c5⟩,c6⟩:=hc;have xz:=WJ _ _ c3;have c2:=cD c2;have Ij:∀ j,(waits ops i ops.size 0 0).testBit j=true->(L ||| 2 ^ i).testBit j=false:=by
       intro j Z;have:((L |||2 ^ i) &&& waits ops i ops.size 0 0).testBit j=false:=by rw[c2];exact Nat.zero_testBit j
       rw[Nat.testBit_and,Z,Bool.and_true]at this;exact this
      have vA:∀ j,(waits ops i ops.size 0 0).testBit j=true->L.testBit j=false:=by
       intro j Z;have:=Ij j Z;rw[zG,Bool.or_eq_false_iff]at this;exact this.1
      obtain⟨τ,h1,h2⟩:=Wj ei h;generalize hp:(λn=>jx (λo=>Eo o n) ops i L (waits ops i ops.size 0 0) ops.size 0)=p at c4 c5;have hpe:∀ j C e,ops[j]?=some C->j≠i->L.testBit j=false->(waits ops i ops.size 0 0).testBit j=false->C.dst=some e->p e=true:=by
       intro j C e D T U Y hd;have dA:=(iH.1 D).1;rw[<-hp];exact pX (g:=λo=>Eo o e) _ 0 j (by omega) (by omega) T U Y C D (by unfold Eo kS;rw[hd];exact Nat.beq_refl e)
      have BW:∀ j C,ops[j]?=some C->j≠i->L.testBit j=false->(waits ops i ops.size 0 0).testBit j=false->V7 ops i L (waits ops i ops.size 0 0) σ C=true/\o.apart ops C=true:=by
       intro j C D T U Y;have dA:=(iH.1 D).1;rcases xz j (by omega) (by omega)with e|e|e|e
       ·exact absurd e T
       ·rw[U]at e;cases e
       ·rw[Y]at e;cases e.1
       ·exact e.2 C D
      have vn:∀ j C,ops[j]?=some C->j≠i->L.testBit j=false->(waits ops i ops.size 0 0).testBit j=false->adC ops p σ C:=by
       intro j C D T U Y;have hb:=(BW j C D T U Y).1;unfold V7 at hb;rw[aN,aN,aN]at hb;obtain⟨⟨⟨b1,b2⟩,b3⟩,b4⟩:=hb;have Od:∀t,jx (kS t) ops i L (waits ops i ops.size 0 0) ops.size 0=false->p t=false:=λt ht=>by rw[<-hp];exact ht
       refine⟨b1,?_,λy O=>?_,λg c t hg ht=>?_⟩
       ·split at b2
        next b wX=>rw[wX,b2]
        ·cases b2
       ·have:=cw.1 b3 y (by simpa using O);rw[aN]at this
        refine⟨this.1,λt ht=>?_⟩
        have h2:=this.2;rw[ht]at h2;exact Od t (by simpa using h2)
       ·rw[hg]at b4;simp only[ht]at b4;exact Od t (by simpa using b4)
      have BX:∀ n,20000<=n->p n=false:=by
       intro n hn;cases B0:p n with
       |false=>rfl
       | true=>
        rw[<-hp]at B0;obtain⟨k',WN,hk1,hk2,hk3,hk4,Ou⟩:=adA _ _ B0;have hm:=(vn k' WN hk1 hk2 hk3 hk4).is;unfold n7 at hm;rw[aN]at hm;have hm:=hm.2;unfold Eo kS at Ou;split at Ou
        next e he=>rw[he]at hm;have h1:e=n:=cD Ou;subst h1;exact absurd (cQ hm) (Nat.not_le_of_gt (Nat.lt_succ_of_le hn))
        ·cases Ou
      have hE:τ=(dH P N Φ ops σ o some).getD σ:=by rw[h2];rfl
      refine Wt (W:=waits ops i ops.size 0 0) ho (λj C D Z=>?_) (λσ=>(dH P N Φ ops σ o some).getD σ)
       (λL' E=>((dH P N Φ ops E o some).isSome=true/\V5 E p o=true/\(sj Φ E o).all (xu E p)=true/\xq E o=true)/\(∀ j,L'.testBit j=false->L.testBit j=false)/\
        ∀j C,ops[j]?=some C->j≠i->L'.testBit j=false->(waits ops i ops.size 0 0).testBit j=false->adC ops p E C)
       (λL' E hI=>?_) (λL' E j C rO hI D T U Y ij=>?_) f L σ vA hi ⟨⟨by rw[h2];rfl,c4,c5,c6⟩,λ_ h=>h,vn⟩ (by rw[<-hE];exact Ii ei f _ τ k (Ot h1))
      ·have dA:=(iH.1 D).1;rcases xz j (by omega) (by omega)with e | e | e | e
       ·subst e;have:=Ij j Z;rw[zG]at this;simp at this
       ·rw[vA j Z]at e;cases e
       ·exact adz D e.2
       ·rw[Z]at e;cases e.1
      ·obtain⟨z,hz⟩:=Option.isSome_iff_exists.1 hI.1.1;rw[hz];rfl
      ·obtain⟨⟨i1,i2,i3,i6⟩,i4,i5⟩:=hI;have ap:=(BW j C D T (i4 j U) Y).2;obtain⟨m1,m2,m3,m4⟩:=i5 j C D T U Y;obtain⟨a1,a2,a3⟩:=Oper.apart_spec ap;obtain⟨z,hz⟩:=Option.isSome_iff_exists.1 i1;have hEz:(dH P N Φ ops E o some).getD E=z:=by rw[hz];rfl
       have ij:dH P N Φ ops z C some=some rO:=by rw[<-hEz];exact ij
       have adH:∀ t,(E.t t).fM=true->o.dst≠some t->z.t t=E.t t:=by
        intro t ht hd;unfold dH at hz;split at hz
        ·exact aqF ei c1 i6 hz ht hd
        ·obtain⟨g1,_⟩:=sn hz;injection g1 with g1;rw[<-g1];cases zJ:o.dst with
         |none=>rfl
         |some d=>exact cM _ _ _ (by rintro rfl;exact hd zJ)
        ·cases hz
       have aqO:∀ g c t,C.guard=some (g,c)->(ops[g]?).bind (·.dst)=some t->(E.t t).fM=true\/E.t t = .skip:=by
        intro g c t hg ht;unfold fN at m2;rw[hg]at m2;simp only[ht]at m2;split at m2
        next b hb=>left;rw[hb];rfl
        next hb=>exact .inr hb
        ·cases m2
       have BZ:∀ g c t,C.guard=some (g,c)->(ops[g]?).bind (·.dst)=some t->o.dst≠some t:=by
        intro g c t hg ht hd;refine a1 t hd (List.mem_append_right _ ?_);rw[hg];simp only[ht];simp
       have hwz:fN z ops C=some true:=by
        rw[zF (σ:=E) λg c t hg ht=>?_]
        ·exact m2
        ·rcases aqO g c t hg ht with h | h
         ·exact adH t h (BZ g c t hg ht)
         ·exfalso;unfold fN at m2;rw[hg]at m2;simp only[ht,h]at m2;cases m2
       have aqP:∀ y∈C.op.operands,aK z y=aK E y:=by
        intro y O;cases y with
        | tmp t=>
         refine adH t (m3 _ O).1 λhd=>?_
         exact a1 t hd (List.mem_append_left _ (List.mem_filterMap.2 ⟨.tmp t,by simpa using O,rfl⟩))
        |_=>rfl
       obtain⟨e,x,u,hd,he,hx,hu,zI,tH⟩:=Of m1 hwz ij;have B1:=hpe j C e D T (i4 j U) Y hd;have qG:=a3 e hd;have sr:∀ y∈o.op.operands,(aK E y).nr p=true/\y ≠ .tmp e:=by
        intro y O;refine⟨cw.1 i2 y (by simpa using O),?_⟩;rintro rfl;exact qG (List.mem_append_left _ (List.mem_filterMap.2 ⟨.tmp e,by simpa using O,rfl⟩))
       have zJ:o.dst≠some e:=λh=>a2 e h hd
       have aqQ:fN (cJ e x u E) ops o=fN E ops o:=by
        have hw:∃ b,fN E ops o=some b:=by
         unfold dH at hz;cases hw:fN E ops o with
         |none=>rw[hw]at hz;cases hz
         |some b=>exact⟨b,rfl⟩
        obtain⟨b,hw⟩:=hw
        refine zF λg c t' yN ht'=>?_
        rw[qQ,bX ?_]
        ·exact A.Ej (p:=p) (pb:=p) (Wl hw g c t' yN ht') B1 B1
        ·rintro rfl;refine qG (List.mem_append_right _ ?_);rw[yN];simp only[ht'];simp
       have qP:dH P N Φ ops (cJ e x u E) o some=some (cJ e x u z):=by
        unfold dH at hz ⊢;rw[aqQ];split at hz
        next hw=>exact aqE ei hx hu he B1 BX c1 i6 zJ sr (λn hn=>cw.1 i3 n hn) hz
        next hw=>obtain⟨g1,g2⟩:=sn hz;injection g1 with g1;refine((g2 (cJ e x u E)).at_ _).trans ?_;rw[<-g1,aqj zJ rfl]
        ·cases hz
       have WO:∀y∈o.op.operands,aK (cJ e x u E) y=aK E y:=λy O=>xy (sr y O).1 B1 (sr y O).2
       have hL:∀ k,(L' ||| 2 ^ j).testBit k=false->L'.testBit k=false/\k≠j:=by
        intro k hk;rw[zG,Bool.or_eq_false_iff]at hk;refine⟨hk.1,?_⟩;rintro rfl;simp at hk
       refine⟨cJ e x u E,tH E m2 (λy O=>(aqP y O).symm),?_,⟨by rw[qP];rfl,?_,?_,?_⟩,λk hk=>i4 k (hL k hk).1,λk WN hk hki hkL hkW=>?_⟩
       ·rw[zI,qP];rfl
       ·unfold V5;rw[cw];intro y O;rw[WO y (by simpa using O)];exact(sr y (by simpa using O)).1
       ·have hrj:sj Φ (cJ e x u E) o=sj Φ E o:=by
         unfold sj;split
         ·rename_i f' args kQ zK;split
          ·refine Oe _ _ λy O=>WO y ?_
           rw[zK];simp only[Op.operands,Call.operands];simp only[Array.mem_append]
           first
            |exact .inr (by simpa using O)
            |exact .inl (by simpa using O)
          ·rfl
         ·rfl
        rw[hrj,cw];intro n hn;have h3:=cw.1 i3 n hn;have dc:n≠e:=by
         rintro rfl;have B0:p n=false:=by
          unfold sj at hn;split at hn
          ·rename_i f' args kQ zK;split at hn
           ·refine Ih _ _ (λy O=>(sr y ?_).1) n hn
            rw[zK];simp only[Op.operands,Call.operands];simp only[Array.mem_append]
            first
             |exact .inr (by simpa using O)
             |exact .inl (by simpa using O)
           ·cases hn
          ·cases hn
         rw[B1]at B0;cases B0
        unfold xu at h3 ⊢;rw[oV,bX dc];cases hm:E.m n with
        |none=>rfl
        | some y=>
         cases y with
         |sl=>rfl
         |mp=>rfl
         |gh=>rfl
         | aC cs=>
          rw[hm]at h3;simp only[Option.map_some,bg.H8,qz.zz h3 B1];exact h3
       ·unfold xq at i6 ⊢;split
        next ty t y zK=>rw[zK]at i6;have e1:(cJ e x u E).t t=E.t t:=WO (.tmp t) (by rw[zK];simp[Op.operands]);rw[e1];exact i6
        ·rfl
       ·obtain⟨n1,n2,n3,n4⟩:=i5 k WN hk hki (hL k hkL).1 hkW;have aqR:∀ t,p t=false->t≠e:=by rintro t ht rfl;rw[B1]at ht;cases ht
        have adJ:∀ t,(E.t t).fM=true->p t=false->(cJ e x u E).t t=E.t t:=by
         intro t ht htp;rw[qQ,bX (aqR t htp)];exact A.Oq ht e
        refine⟨n1,?_,λy O=>?_,n4⟩
        ·rw[zF (σ:=E) λg c t hg ht=>?_]
         ·exact n2
         ·unfold fN at n2;rw[hg]at n2;simp only[ht]at n2;split at n2
          next b hb=>exact adJ t (by rw[hb];rfl) (n4 g c t hg ht)
          next hb=>cases n2
          ·cases n2
        ·refine⟨?_,(n3 y O).2⟩;cases y with
         | tmp t=>
          show ((cJ e x u E).t t).fM=true;rw[adJ t (n3 _ O).1 ((n3 _ O).2 t rfl)];exact(n3 _ O).1
         |const v=>exact(n3 _ O).1
         |global g=>exact(n3 _ O).1
         |func f=>exact(n3 _ O).1
     ·cases h
    ·split at h
     ·rename_i i hf;have hc:=List.find?_some hf;have hm:=List.mem_of_find?_eq_some hf;have hi:=BY.1 hm;split at h
      next o ho=>obtain⟨τ,h1,h2⟩:=Wj ei h;exact aqM ei ho hi hc h2 (Ii ei f _ τ k (Ot h1))
      ·cases h
     ·cases h
def Ev{b:Bool}(h:fN σ ops o=some b)(U:Rl w0 N aj ρ σ a w):Region.wanted o (yielded ops a.tmps)=b:=by
 unfold fN at h;split at h
 next L=>injection h with h;subst h;simp[Region.wanted,L]
 ·rename_i j want L;split at h
  ·rename_i t O;have D:=U.tmp t;rw[ir]at D;split at h
   ·rename_i c T;rw[T]at D;have E:=D.2.yO;injection h with h;subst h;cases C:a.tmps[t]? with
    |none=>rw[C]at E;cases E
    | some v=>
     rw[C]at E;subst E;simp only[Region.wanted,L,yielded,O,Option.bind_some,C];simp_all
   ·rename_i T;rw[T]at D;injection h with h;subst h;cases C:a.tmps[t]? with
    |none=>simp[Region.wanted,L,yielded,O,C]
    | some v=>
     rw[C]at D;have E:=D;subst E;simp only[Region.wanted,L,yielded,O,Option.bind_some,C,undef];simp_all
   ·cases h
  ·cases h
structure tK (ops:Array Oper) (adK:Array Bool) (L:Nat):Prop where
 size:adK.size=ops.size
 bit:∀j,j<ops.size->adK[j]?=some (L.testBit j)
 out:∀j,ops.size<=j->L.testBit j=false
def tK.adL{C:Array Bool}{L:Nat}(h:tK ops C L)(j:Nat):C.getD j false=L.testBit j:=by
 rw[ir];by_cases D:j<ops.size
 ·rw[h.bit j D];rfl
 ·rw[h.out j (by omega),Array.getElem?_eq_none (by rw[h.size];omega)];rfl
def tK.ready{Y:Array Bool}{L:Nat}(h:tK ops Y L)(j:Nat):j∈Region.ready .any ops Y ↔ lH ops L j=true:=by
 rw[mem_ready,Ic];constructor
 ·rintro⟨D,o,C,E⟩;have O:=(iH.1 C).1;rw[ir,h.bit j O]at D;exact⟨D,o,C,λe T U=>by rw[<-h.adL];exact E e T U⟩
 ·rintro⟨D,o,C,E⟩;have O:=(iH.1 C).1;exact⟨by rw[ir,h.bit j O];exact D,o,C,λe T U=>by rw[h.adL];exact E e T U⟩
def tK.set{D:Array Bool}{L i:Nat}(h:tK ops D L)(hi:i<ops.size):tK ops (D.setIfInBounds i true) (L ||| 2 ^ i):=by
 refine⟨by simp[h.size],λj C=>?_,λj C=>?_⟩
 ·rw[zG];by_cases E:i=j
  ·subst E;rw[Array.getElem?_setIfInBounds_self_of_lt (by rw[h.size];exact hi)];simp
  ·rw[Array.getElem?_setIfInBounds_ne E,h.bit j C];simp_all
 ·rw[zG,h.out j C]
  grind
def tK.start:tK ops (Array.replicate ops.size false) 0:=
 ⟨by simp,λj C=>by simp[C],λj _=>Nat.zero_testBit j⟩
def aqS(Z:fL P Φ){k:S -> ah X}{i:Nat}(hi:ops[i]?=some o)(h:dH P N Φ ops σ o k=some r):∃ L,k L=some r /\ ∀ a w (K:Act -> World -> Prop) (Q:Exit -> Act -> World -> Prop),R w0 N σ a w -> (∀ U w',R w0 N L U w' -> K U w') -> wpOp P ops Q i K a w:=by
 unfold dH at h;split at h
 ·rename_i O;obtain⟨L,h1,vB⟩:=Wc Z h
  refine⟨L,h1,λa w K Q D E=>?_⟩
  obtain⟨aj,ρ,C⟩:=D;unfold wpOp;rw[hi];simp[Ev O C];exact .inl (vB a w K Q ⟨aj,ρ,C⟩ E)
 ·rename_i O;unfold gX at h;split at h
  ·rename_i T
   refine⟨σ,h,λa w K Q D E=>?_⟩
   obtain⟨aj,ρ,C⟩:=D;unfold wpOp;rw[hi];simp[Ev O C,T];exact E _ _ ⟨aj,ρ,C⟩
  ·rename_i d T;cases Y:Nat.blt d N with
   |false=>simp_all
   | true=>
    rw[Y,au]at h
    refine⟨_,h,λa w K Q D E=>?_⟩
    obtain⟨aj,ρ,C⟩:=D;unfold wpOp;rw[hi];simp only[Ev O C,T];exact E _ _ ⟨aj,ρ,C.set rfl (by have:=cQ Y;omega)⟩
 ·cases h
def adM(Z:fL P Φ){K:S -> Prop}{Q:Exit -> Act -> World -> Prop}(T:∀ U,K U -> ∀ a w,R w0 N U a w -> Q .normal a w):
  ∀(f L:Nat) (σ:S) (E:Array Bool),Any P N Φ ops K f L σ -> tK ops E L -> ∀a w,R w0 N σ a w -> wpAny P .any ops Q f E a w
 | 0,L,σ,E,h,D,a,w,O=>by
  refine⟨List.eq_nil_iff_forall_not_mem.2 λj C=>?_,T σ h.2 a w O⟩
  rw[D.ready,h.1]at C;cases C
 | f+1,L,σ,E,h,D,a,w,O=>by
  refine⟨λhr=>T σ (h.1 λj=>?_) a w O,λj C=>?_⟩
  ·cases C:lH ops L j with
   |false=>rfl
   | true=>
    have:=(D.ready j).2 C;simp_all
  ·have nO:=(D.ready j).1 C;obtain⟨o,U,ho,hd,hA⟩:=h.2 j nO;obtain⟨rO,Y,hw⟩:=aqS Z ho hd;injection Y with Y;subst Y;exact hw a w _ Q O λa' w' dD=>adM Z T f _ _ _ hA (D.set (adB nO)) a' w' dD
def R.drawn(C:R w0 N σ a w):R w0 N σ a { w with drawn:=w.drawn+1 }:=by
 obtain⟨aj,ρ,h⟩:=C;exact⟨aj,ρ,h.grow ⟨rfl,rfl,rfl,dM _,λ_ _=>rfl⟩ (λ_ _=>rfl) (λb k D E=>absurd (h.dg b k E).2.1 (Nat.not_lt.2 D))⟩
theorem aqT[Inhabited Wd](C:fL P Φ){id:Nat}{k:S->ah X}(E:P.follows .mixedOrders=true)(h:qM P N Φ ops ops.size 0 σ k=some r){Q:Exit->Act->World->Prop}(L:∀ D,k D=some r->∀ a w,R w0 N D a w->Q .normal a w)(O:R w0 N σ a w):
  (Code.region id ops true).wp P Q a w:=
 wp_region_any E (adM C L _ _ _ _ (Ii C _ _ _ _ h) tK.start a _ O.drawn)
/-! Values. -/
end
end Go.Proofs.YtnilicojgkhpnaaGreat
