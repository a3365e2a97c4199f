/-
  Running the program over pure contents, and that it follows (part 4). Nothing here is a claim.
-/
import Derived.Test.YthmgjjfedieljaaGreatDoorV3
set_option linter.unusedSimpArgs false
namespace Go.Proofs.YthmgjjfedieljaaGreatDoor
set_option linter.defProp false
open Go.RowKit
set_option linter.unusedVariables false
def fD(σ:S):ah Tmp->A->S
 |none,_=>σ
 |some d,v=>σ.set d v
section
variable {P:Program} {w w':World} {w0:Wd} {B N:Nat} {lab ax:bg} {ρ ρ':Nat->Loc} {σ:S} {a:Act} {X:Type} {d:Nat} {r:X} {o:Oper} {Φ:dG} {p pb:Nat->Bool} {e:Nat} {x:aM} {u:A} {ops:Array Oper}
def qJ{C:ah Tmp}{x:A}{k:S -> ah X}(h:gk N σ C x k=some r):k (fD σ C x)=some r /\ ∀ (σ2:S),kG (λX k=>gk (X:=X) N σ2 C x k) (fD σ2 C x):=by
 unfold gk at h;split at h
 ·exact⟨h,λ_ X k=>rfl⟩
 ·rename_i d;cases D:Nat.blt d N with
  |false=>simp_all
  |true=>rw[D]at h;exact⟨h,λ_ X k=>by simp[gk,D];rfl⟩
def FJ{f:Nat}{c:ji}(C:fj P Φ)(h:Φ f=some (.p c)):iY P f c:=(C f _ h).2
def XD{f:Nat}{c:ji}(C:fj P Φ)(h:Φ f=some (.q c)):iY P f c:=(C f _ h).2
def ajv{f:Nat}{C:ah Tmp}{c:rY}{xs:aa A}(D:fj P Φ)(h:Φ f=some (.i c)):cu λX k=>Fq (X:=X) N σ C c xs k:=λX Y k g=>
 ((D f _ h).2.1 N σ xs X Y _ g).trans (bu (c.run Y N σ xs) (funext λE=>funext λy=>vh X Y k g))
def XE(C:fj P Φ):cu λX k=>cU (X:=X) P N Φ σ o k:=λX Y k g=>by
 unfold cU
 refine cK ((Q2.comp λv=>vh) X Y k g) ?_
 unfold gz fM o6 xy w4 tD wX
 repeat' first
  |rfl
  |exact Fi _ _ _ _
  |exact W5 _ _ _ _
  |exact aiF _ _ _ _
  |exact W9 (FJ C (by assumption)) Co _ _ _ _
  |exact QL _ _ _ _
  |exact aiK _ _ _ _
  |exact aiH _ _ _ _
  |exact ajv C (by assumption) _ _ _ _
  |exact ah8 (λ_=>QL) _ _ _ _
  |exact W9 (XD C (by assumption)) W8 _ _ _ _
  |exact aiR _ _ _ _
  |exact ai3 _ _ _ _
  |exact aiD _ _ _ _
  |exact ajg _ _ _ _
  |exact ain _ _ _ _
  |exact ai5 _ _ _ _
  |exact(ai6.comp λv=>vh) X Y k g
  |exact ai7 _ _ _ _
  |exact vh _ _ _ _
  |exact(ag5.comp λv=>vh) X Y k g
  |refine cK ?_ ?_
  |split
def Grow.bp{σ C:S}(h:Grow p pb σ C){t r j:Nat}(D:σ.t t = .aI r j)(E:pb r=false):C.t t = .aI r j:=by
 rw[<-D];exact h.t (by rw[D];simpa [A.mH,A.fr,rV]using E)
def iP(p:Nat->Bool):A->Prop
 |.aI r _=>p r=true
 |.ptr _=>False
 |_=>True
def Grow.st{D:Nat->Bool}{σ C:S}(h:Grow p pb σ C){t:Nat}(E:iP D (σ.t t)):iP D (C.t t):=by
 rcases h.nw t with e|e
 ·rw[e];exact E
 ·revert e;cases C.t t<;>simp[A.vn,iP]
def Grow.Rc{σ C:S}(h:Grow p pb σ C){x:Operand}(D:(aE σ x).mH p pb=true):aE C x=aE σ x:=by
 cases x with
 |tmp t=>exact h.t D
 |const v=>rfl
 |global g=>rfl
 |func f=>rfl
def Grow.val{σ O:S}(h:Grow p pb σ O){E:Op}{v:A}(D:kG (λX k=>kM (X:=X) P σ E k) v)(L:∀ y∈E.operands,(aE σ y).mH p pb=true)(U:v.mH p pb=true)(I:∀ t y r j,E = .load t y->aE σ y = .aI r j->p r=false):kG (λX k=>kM (X:=X) P O E k) v:=by
 intro X k
 refine(Xu E (λy F=>⟨h.Rc (L y F),λq e X k=>KI h.sl q k (XA (L y F) e)⟩) (λt y e k=>?_) k).trans (D X k)
 subst e;have D:kG (λX k=>mm (X:=X) P σ t (aE σ y) k) v:=D;have F:=L y (by simp[Op.operands]);have I:=λr j=>I t y r j rfl
 generalize aE σ y=u at D F I;by_cases T:∃r j,u = .aI r j
 ·obtain⟨r,j,rfl⟩:=T;have C:mm P σ t (.aI r j) some=some v:=D A some;rw[D.at_ k];simp only[mm]at C ⊢;split at C
  ·cases C
  ·split at C
   next cs Y=>obtain⟨f,Z,e2⟩:=h.blk r (I r j rfl) cs Y;obtain⟨z,⟨⟩,e4⟩:=Kj.jV C;rw[Z];simp only[];rw[<-List.map_drop,<-List.map_take,nc λl hl=>e2 l (ajs C U l hl),List.map_id'];exact e4.at_ k
   ·cases C
 ·exact Sm.load (λq e X k=>KI h.sl q k (XA F e)) (λr j e=>absurd ⟨r,j,e⟩ T) k
def Rd:∀ (xs:aa V) (c:Nat) (σ:S),(∀ n,c <= n -> p n=true/\pb n=true) -> Grow p pb σ (kK c σ xs)
 |[],c,σ,h=>.refl σ
 | x :: xs,c,σ,h=>by
  simp[kK];cases D:x.aF with
  |true=>exact Rd xs _ σ (λn C=>h n (by omega))
  |false=>exact .trans (.root c (.sl x) (h c (c9 _)).1 (h c (c9 _)).2 (.refl σ)) (Rd xs (c+1) _ (λn C=>h n (by omega)))
def FK:∀ (ps:aa Pt) (c:Nat) (σ:S),(∀ n,c<=n->p n=true/\pb n=true)->Grow p pb σ (mC c σ ps)
 |[],c,σ,h=>.refl σ
 |q::ps,c,σ,h=>(Rd q.2 c σ h).trans (FK ps _ _ (λn C=>h n (by omega)))
def xJ{σ2:S}{ops:Array Oper}(h:∀ g b t,o.guard=some (g,b) -> (ops[g]?).bind (·.dst)=some t -> σ2.t t=σ.t t):fk σ2 ops o=fk σ ops o:=by
 unfold fk
 grind
def pO(p pb:Nat->Bool)(x:A):Prop:=∀r,x = .lf (.own [r])->p r=true/\pb r=true
def Grow.tg{C D:Nat->Bool}{σ E:S}(h:Grow p pb σ E){t:Nat}(F:pO C D (σ.t t)):pO C D (E.t t):=by
 rcases h.nw t with e|e
 ·rw[e];exact F
 ·intro r I;rw[I]at e;cases e
structure pP (P:Program) (N:Nat) (Φ:dG) (o:Oper) (p pb:Nat->Bool) (oz τ:S) where
 G:S->S
 u:A
 eq:τ=fD (G oz) o.dst u
 run:∀σ2:S,(∀x∈o.op.operands,aE σ2 x=aE oz x)->σ2.m=oz.m->cU P N Φ σ2 o some=some (fD (G σ2) o.dst u)
 grow:∀σ,Grow p pb σ (G σ)
 set:∀(σ:S) d v,(A.mH p pb v)=true->G (σ.set d v)=(G σ).set d v
 bp:isApp o=false->∀(σ:S) t r j,σ.t t = .aI r j->dX o r=false->(G σ).t t = .aI r j
theorem pP.new{D:S}{d:Nat}(E:o.dst=some d)(C:p d=true/\pb d=true)(L:dX o d=true)(x:aM)(u:A){F:S}(e:F=((D.drop d).root d x).set d u)
  (O:∀σ2:S,(∀x∈o.op.operands,aE σ2 x=aE D x)->cU P N Φ σ2 o some=some (((σ2.drop d).root d x).set d u)):Nonempty (pP P N Φ o p pb D F):=
 ⟨{ G:=λσ=>(σ.drop d).root d x,u:=u,eq:=by rw[E];exact e,run:=λσ2 h _=>by rw[O σ2 h,E];rfl,grow:=λσ=>.root d x C.1 C.2 (.refl σ),
    set:=λσ e v T=>by rw[S.drop_set d (A.zP T C.1 C.2)];rfl
    bp:=λ_ σ t r j U I=>by
     show A.drop d (σ.t t)=_;rw[U];exact A.nE (by simp only[A.fr,uI];rw[nH (by rintro rfl;rw[L]at I;cases I)];rfl) }⟩
def Re{d:Nat}{C:fq}{D:S}(h:lR σ d C some=some D):∃ (ps:aa Pt) (u:A),∀ σ,lR σ d C some=some ((mC (1000000000100000+1000*d) σ ps).set d u):=by
 unfold lR at h ⊢;split at h
 ·rename_i q;split at h
  next y E=>exact⟨[q],y,λσ=>rfl⟩
  ·cases h
 ·exact⟨_,_,λσ=>rfl⟩
theorem XF{f d:Nat}{c:ji}{L:S}{ev:S->(X:Type)->(aa Pt->ah X)->ah X}(O:o.dst=some d)(E:∀ n,1000000000100000+1000*d<=n->dX o n=true)(U:∀ n,dX o n=true->p n=true/\pb n=true)(Y:iY P f c)(C:cu (ev σ))
  (Z:∀σ2:S,(∀x∈o.op.operands,aE σ2 x=aE σ x)->σ2.m=σ.m->∀(X:Type) (k:aa Pt->ah X),ev σ2 X k=ev σ X k) (dZ:∀σ2,cU P N Φ σ2 o some=qz N σ2 d c (ev σ2 S) some) (h:qz N σ d c (ev σ S) some=some L):Nonempty (pP P N Φ o p pb σ L):=by
 obtain⟨res,qw,D,F,h3⟩:=Kl Y C h;injection F with F;subst F;obtain⟨ps,u,T⟩:=Re D;have I:∀n,1000000000100000+1000*d<=n->p n=true/\pb n=true:=λn C=>U n (E n C)
 rw[T]at D;injection D with D;exact⟨{ G:=λσ=>mC (1000000000100000+1000*d) σ ps,u:=u,eq:=by rw[O];exact D.symm,run:=λσ2 qK hm=>by rw[dZ,O];exact(h3 σ2 _ _ (Z σ2 qK hm) (T σ2)).at_ _,grow:=λσ=>FK ps _ σ I,set:=λσ e v hv=>QB v ps _ σ λn C=>A.zP hv (I n C).1 (I n C).2,bp:=λ_ σ t r j ht hr=>(FK (p:=dX o) (pb:=dX o) ps _ σ (λn C=>⟨E n C,E n C⟩)).bp ht hr }⟩
theorem ajw[Inhabited Wd](dH:fj P Φ){τ:S}(E:KA Φ o.op=true)(Y:∀ n,dX o n=true->p n=true/\pb n=true)(h:cU P N Φ σ o some=some τ):Nonempty (pP P N Φ o p pb σ τ):=by
 have h0:=h;unfold cU at h;cases hv:eY o.op with
 | true=>
  rw[hv,aj]at h;obtain⟨v,F,D,_⟩:=Q3 (w0:=default) (N:=N) h;obtain⟨L,h3⟩:=qJ F;injection L with L
  refine⟨{ G:=λσ=>σ,u:=v,eq:=L.symm,run:=λσ2 C hm=>?_,grow:=.refl,set:=λ_ _ _ _=>rfl,bp:=λ_ _ _ _ _ h _=>h }⟩
  unfold cU;rw[hv,aj,Xv o.op hm C];refine(D.at_ _).trans ?_;exact(h3 σ2).at_ _
 | false=>
  rw[hv,au]at h;have U:∀σ2,cU P N Φ σ2 o some=gz P N Φ σ2 o some:=λσ2=>by unfold cU;rw[hv,au]
  unfold gz at h U;unfold KA at E;rw[hv,Bool.false_or]at E;split at h
  ·rename_i e C;obtain⟨d,D,h⟩:=iE h;obtain⟨x,y,F,_,L⟩:=aim h;injection F with F;have O:dX o d=true:=by unfold dX;rw[D,C];exact Nat.beq_refl d
   refine pP.new D (Y d O) O x y F.symm λσ2 _=>?_
   rw[U,C];simp only[fM,D];exact(L σ2).at_ _
  ·rename_i e x C;obtain⟨d,D,h⟩:=iE h;obtain⟨y,u,F,L⟩:=air h;injection F with F;have O:dX o d=true:=by unfold dX;rw[D,C];exact Nat.beq_refl d
   refine pP.new D (Y d O) O _ _ F.symm λσ2 I=>?_
   rw[U,C];simp only[fM,D];rw[I x (by rw[C];simp[Op.operands])];exact(L σ2).at_ _
  ·rename_i t len parts C;obtain⟨d,D,h⟩:=iE h;have O:dX o d=true:=by unfold dX;rw[D,C];exact Nat.beq_refl d
   cases Z:oA t with
   | true=>
    rw[Z,aj]at h;obtain⟨y,u,F,L⟩:=aix h;injection F with F
    refine pP.new D (Y d O) O _ _ F.symm λσ2 I=>?_
    rw[U,C];simp only[fM,D,Z,aj]
    refine(L σ2 λq hq=>I _ ?_).at_ _
    rw[C];simp only[Op.operands];exact List.mem_toArray.2 (List.mem_map_of_mem (f:=(·.2)) hq)
   | false=>
    rw[Z,au]at h;obtain⟨y,F,L⟩:=W2 h;injection F with F
    refine pP.new D (Y d O) O _ _ F.symm λσ2 I=>?_
    rw[U,C];simp only[fM,D,Z,au]
    refine(L σ2 λq hq=>I _ ?_).at_ _
    rw[C];simp only[Op.operands];exact List.mem_toArray.2 (List.mem_map_of_mem (f:=(·.2)) hq)
  next t x y C=>rw[C]at E;cases E
  ·rename_i t l c C;obtain⟨d,D,h⟩:=iE h;obtain⟨y,F,L⟩:=W0 h;injection F with F;have O:dX o d=true:=by unfold dX;rw[D,C];exact Nat.beq_refl d
   refine pP.new D (Y d O) O _ _ F.symm λσ2 I=>?_
   rw[U,C];simp only[fM,D];rw[I l (by rw[C];simp[Op.operands]),I c (by rw[C];simp[Op.operands])];exact(L σ2).at_ _
  ·rename_i f args iO C;have XG:∀ σ2:S,(∀ x∈o.op.operands,aE σ2 x=aE σ x)->∀ x∈args.toList,aE σ2 x=aE σ x:=λσ2 I x hx=>I x (by
    rw[C];simp only[Op.operands,Call.operands,Array.mem_append]
    first
     |exact .inr (by simpa using hx)
     |exact .inl (by simpa using hx))
   have nm:∀d,o.dst=some d->∀n,1000000000100000+1000*d<=n->dX o n=true:=λd D n Z=>by unfold dX;rw[D,C];exact gP Z
   split at h
   next c T=>obtain⟨d,D,h⟩:=iE h;exact XF D (nm d D) Y (FJ dH T) (ev:=λσ X k=>qx σ args.toList k) Co (λσ2 I hm X k=>ajl hm _ _ (XG σ2 I)) (λσ2=>by rw[U,C];simp only[T,fM,D];rfl) h
   iterate 5 (rename_i c T;rw[C]at E;simp[T]at E)
   next c T=>obtain⟨d,D,h⟩:=iE h;exact XF D (nm d D) Y (XD dH T) (ev:=λσ X k=>zG σ args.toList k) W8 (λσ2 I hm X k=>ajn hm _ _ (XG σ2 I)) (λσ2=>by rw[U,C];simp only[T,fM,D];rfl) h
   next c T=>rw[C]at E;simp[T]at E
   ·cases h
  next x y t t' C=>rw[C]at E;cases E
  next t C=>rw[C]at E;cases E
  next t x i C=>rw[C]at E;cases E
  next t x i v C=>rw[C]at E;cases E
  next t args iO C=>rw[C]at E;cases E
  next f Xt C=>rw[C]at E;cases E
  next x t C=>rw[C]at E;cases E
  ·cases h
def XH(C:fj P Φ){ops:Array Oper}:cu λX k=>cQ (X:=X) P N Φ ops σ o k:=λX Y k g=>by
 unfold cQ;split
 ·exact XE C _ _ _ _
 ·exact vh _ _ _ _
 ·rfl
theorem Rf[Inhabited Wd](D:fj P Φ){ops:Array Oper}{k:S->ah X}(h:cQ P N Φ ops σ o k=some r):∃ C,k C=some r/\cQ P N Φ ops σ o some=some C:=
 let ⟨C,E,F⟩:=(XH D).jV h
 ⟨C,E,F S some⟩
def Rg{ops:Array Oper}{b:Bool}(h:fk σ ops o=some b):∀ g c t,o.guard=some (g,c) -> (ops[g]?).bind (·.dst)=some t -> (σ.t t).mH p pb=true:=by
 intro g c t C D;unfold fk at h;rw[C]at h;simp[D]at h;split at h
 next hb=>rw[hb];rfl
 next hb=>rw[hb];rfl
 ·cases h
def Ct{ops:Array Oper}{d:Nat}(h:d ∉ o.looksAt ops)(v:A){x:Operand}(C:x∈o.op.operands):aE (σ.set d v) x=aE σ x:=by
 cases x with
 | tmp t=>
  have:t≠d:=by
   rintro rfl;exact h (List.mem_append_left _ (List.mem_filterMap.2 ⟨.tmp t,by simpa using C,rfl⟩))
  exact bZ _ _ _ this
 |_=>rfl
def Rh{ops:Array Oper}{d:Nat}(h:d ∉ o.looksAt ops)(v:A):∀ g b t,o.guard=some (g,b) -> (ops[g]?).bind (·.dst)=some t -> (σ.set d v).t t=σ.t t:=by
 intro g b t C D;have:t≠d:=by
  rintro rfl;refine h (List.mem_append_right _ ?_);simp_all
 exact bZ _ _ _ this
def kQ(P:Program)(ops:Array Oper)(C:Oper)(p pb:Nat->Bool)(v:A)(σ:S):Prop:=
 (fk σ ops C=some true/\eY C.op=true/\kG (λX k=>kM (X:=X) P σ C.op k) v/\(∀y∈C.op.operands,(aE σ y).mH p pb=true)/\v.mH p pb=true/\∀t y r j,C.op = .load t y->aE σ y = .aI r j->p r=false)\/(fk σ ops C=some false/\v = .skip)
def kQ.grow{ops:Array Oper}{O:Oper}{v:A}(h:kQ P ops O p pb v σ){T:S}(C:Grow p pb σ T):kQ P ops O p pb v T:=by
 rcases h with ⟨D,F,h3,E,U,Y⟩|⟨D,F⟩
 ·refine .inl ⟨?_,F,C.val h3 E U Y,λy Z=>?_,U,λt y r j e h=>?_⟩
  ·rw[xJ λg b t I L=>C.t (Rg D g b t I L)];exact D
  ·rw[C.Rc (E y Z)];exact E y Z
  ·exact Y t y r j e (by rw[<-C.Rc (E y (by rw[e];simp[Op.operands]))];exact h)
 ·refine .inr ⟨?_,F⟩;rw[xJ λg b t I L=>C.t (Rg D g b t I L)];exact D
def kQ.set{ops:Array Oper}{D:Oper}{v u:A}(h:kQ P ops D p pb v σ){d:Nat}(C:d ∉ D.looksAt ops):kQ P ops D p pb v (σ.set d u):=by
 rcases h with ⟨E,F,L,O,T,U⟩|⟨E,F⟩
 ·refine .inl ⟨?_,F,λX k=>?_,λy I=>?_,T,λt y r j e h=>?_⟩
  ·rw[xJ (Rh C u)];exact E
  ·exact(Xv (σ:=σ) (σ2:=σ.set d u) D.op rfl (λx Y=>Ct C u Y) k).trans (L.at_ k)
  ·rw[Ct C u I];exact O y I
  ·exact U t y r j e (by rw[<-Ct C u (by rw[e];simp[Op.operands])];exact h)
 ·refine .inr ⟨?_,F⟩;rw[xJ (Rh C u)];exact E
def kQ.put{ops:Array Oper}{C:Oper}{v u:A}(h:kQ P ops C p pb v σ){D:ah Tmp}(E:∀ d,D=some d->d ∉ C.looksAt ops):kQ P ops C p pb v (fD σ D u):=by
 cases D with
 |none=>exact h
 |some d=>exact h.set (E d rfl)
def kQ.nr{ops:Array Oper}{C:Oper}{v:A}(h:kQ P ops C p pb v σ):v.mH p pb=true:=by
 rcases h with ⟨_,_,_,_,D,_⟩|⟨_,E⟩
 ·exact D
 ·rw[E];rfl
def XI{x y:ah Tmp}(v u:A)(h:∀ d,x=some d->y≠some d):fD (fD σ x v) y u=fD (fD σ y u) x v:=by
 cases x with
 |none=>rfl
 | some d=>cases y with
  |none=>rfl
  |some e=>exact S.set_set (λC=>h d rfl (bu some C)) v u
def ajx(x:ah Tmp)(v:A):(fD σ x v).m=σ.m:=by cases x<;>rfl
def KJ{ops:Array Oper}{C:ah Tmp}(h:∀ d,C=some d->d ∉ o.looksAt ops)(v:A){x:Operand}(D:x∈o.op.operands):aE (fD σ C v) x=aE σ x:=by
 cases C with
 |none=>rfl
 |some d=>exact Ct (h d rfl) v D
def ajy{ops:Array Oper}{C:ah Tmp}(h:∀ d,C=some d->d ∉ o.looksAt ops)(v:A):fk (fD σ C v) ops o=fk σ ops o:=by
 cases C with
 |none=>rfl
 |some d=>exact xJ (Rh (h d rfl) v)
/-! Calls that write blocks alone. -/
def XJ{σ2:S}(C:σ2.m=σ.m)(ns:aa Nat):∀ (xs:aa Lf) (k:aa V -> ah X),qC σ2 ns xs k=qC σ ns xs k
 |[],k=>rfl
 | x :: xs,k=>by
  simp[qC,Q5 C];congr 2;funext y;exact XJ C ns xs _
def ajz{σ2:S}(C:σ2.m=σ.m)(ns:aa Nat)(x:A)(k:Pt->ah X):pI σ2 ns x k=pI σ ns x k:=by
 unfold pI;split<;>simp only[XJ C,C]
def ajA{σ2:S}(C:σ2.m=σ.m)(p:PK)(x:A):tu σ2 p x=tu σ p x:=by
 cases p<;>simp only[tu,C]
def XK{σ2:S}(C:σ2.m=σ.m):∀ (ps:aa PK) (xs:aa Operand),(∀ x∈xs,aE σ2 x=aE σ x)->iC σ2 ps xs=iC σ ps xs
 |[],[],_=>rfl
 |[],_::_,_=>rfl
 |_::_,[],_=>rfl
 | p :: ps,x :: xs,h=>by
  simp only[iC];rw[h x (.head _),ajA C,XK C ps xs (λy D=>h y (.tail _ D))]
def KM{σ2:S}(E:σ2.m=σ.m)(ns:aa Nat):∀ (ps:aa PK) (xs:aa Operand) (C:aa Mu) (k:jE ps->ah X),(∀ x∈xs,aE σ2 x=aE σ x)->iD σ2 ns ps xs C k=iD σ ns ps xs C k
 |[],[],[],k,_=>rfl
 | .v b t :: ps,x :: xs,C,k,h=>by
  simp only[iD];rw[h x (.head _),ajz E];congr 1;funext p;congr 1;split
  ·exact KM E ns ps xs C _ (λy D=>h y (.tail _ D))
  ·rfl
 | .p t g off :: ps,x :: xs,.blk F cs I :: C,k,h=>by
  simp only[iD];split
  ·exact KM E ns ps xs C _ (λy D=>h y (.tail _ D))
  ·rfl
 | .s t g :: ps,x :: xs,.sl q L :: C,k,h=>by
  simp only[iD];split
  ·exact KM E ns ps xs C _ (λy D=>h y (.tail _ D))
  ·rfl
 |[],[],_::_,k,_=>rfl
 |[],_::_,_,k,_=>rfl
 |.v _ _::_,[],_,k,_=>rfl
 |.p _ _ _::_,[],_,k,_=>rfl
 |.s _ _::_,[],_,k,_=>rfl
 |.p _ _ _::_,_::_,[],k,_=>rfl
 |.s _ _::_,_::_,[],k,_=>rfl
 |.p _ _ _::_,_::_,.sl _ _::_,k,_=>rfl
 |.s _ _::_,_::_,.blk _ _ _::_,k,_=>rfl
def ajB{m:Nat -> ah aM}{l:Lf}{v:V}{q:Nat}(h:tq m l=some (v,some q)):v.aF=false:=by
 unfold tq at h
 grind
def XL{m:Nat->ah aM}:∀ {cs:aa Lf} {C:aa (V×ah Nat)},pH m cs=some C->(∀ v∈C,v.1.aF=true)->∀ v∈C,v.2=none
 |[],C,h,_=>by injection h with h;subst h;simp
 | c :: cs,C,h,D=>by
  unfold pH at h;split at h
  ·rename_i v L E F;injection h with h;subst h;intro u hu;rcases fH.1 hu with rfl | hu
   ·obtain⟨x,q⟩:=u;cases q with
    |none=>rfl
    |some q=>have:=ajB E;rw[D _ (.head _)]at this;cases this
   ·exact XL F (λv I=>D v (.tail _ I)) u hu
  ·cases h
def XM{i:Nat}:∀ (C:aa (V×ah Nat)) (j:Nat),(∀ v∈C,v.2=none) -> Ce i j C=[]
 |[],_,_=>rfl
 | (x,q) :: C,j,h=>by
  have:=h _ (.head _);subst this;exact XM C _ (λv D=>h v (.tail _ D))
def Ri:∀ (C:aa Nat) (xs:aa V),(∀ x∈xs,x.aF=true)->tA C xs=[]/\rT C xs=[]
 |[],[],_=>⟨rfl,rfl⟩
 |[],_::_,_=>⟨rfl,rfl⟩
 |_::_,[],_=>⟨rfl,rfl⟩
 | n :: C,x :: xs,h=>by
  simp only[tA,rT,h x (.head _),aj];exact Ri C xs (λx D=>h x (.tail _ D))
def Cu(ps:aa PK):Bool:=ps.all λp=>match p with
 |.v _ _=>true
 |.p _ g _=>Nat.beq g 0
 |.s _ _=>false
def Rj{ns:aa Nat}:∀ (ps:aa PK) (xs:aa Operand) (D:aa Mu) (k:jE ps->ah X),Cu ps=true->iC σ ps xs=some D->iD σ ns ps xs D k=some r->∀ (i E c0:Nat) (y:pG (dP ps)),
  (∀p∈jF i D,p.1∈gJ σ ps xs)/\lX c0 E D (gU (dP ps) y)=[]/\∀(U cn:aa Nat),∀p∈jG U cn c0 E D (gU (dP ps) y),p.1∈gJ σ ps xs
 | [],[],D,k,_,C,h=>by
  injection C with C;subst C;intro i E c0 y;exact⟨(λp hp=>by cases hp),by simp[lX],(λ_ _ p hp=>by simp[jG]at hp)⟩
 | .v b t :: ps,x :: xs,D,k,O,C,h=>by
  have rB:iC σ ps xs=some D:=by
   unfold iC at C;split at C
   next mu T F I=>exact(tw F).elim
   next T F I=>rw[I];exact C
   ·cases C
  have qv:Cu ps=true:=by simpa [Cu]using O
  unfold iD at h;obtain⟨p,I,_⟩:=Xf.jV h;cases hb:p.1==b with
  |false=>rw[hb]at I;cases I
  | true=>
   rw[hb,aj]at I;split at I
   ·intro i E c0 y;exact Rj ps xs D _ qv rB I i E c0 y
   ·cases I
 | .p t g off :: ps,x :: xs,D,k,O,C,h=>by
  unfold iC at C;split at C
  ·rename_i mu T F I;injection C with C;subst C;have F:=tw F;cases mu with
   |sl=>exact F.elim
   | blk Y cs L=>
    have F:aE σ x = .aI Y off/\xo σ (.blk Y cs L):=F;have O:Nat.beq g 0=true/\Cu ps=true:=by simpa [Cu]using O
    have hg:=cv O.1;subst hg;unfold iD at h;split at h
    ·rename_i z Z;have Z:dec t 0 (L.map (·.1))=some z:=Z;have hw:=jU t 0 _ z Z;have Rk:∀ v∈L,v.1.aF=true:=by
      intro v hv;obtain⟨j,hj⟩:=List.mem_iff_getElem?.1 hv;have XN:(L.map (·.1))[j]?=some v.1:=by rw[dI,hj];rfl
      have uL:j<(enc t 0 z).length:=by rw[<-hw.1];exact(de.1 XN).1
      have hk:=hw.2 j _ _ XN (bQ uL);have oB:=oh t 0 z (by omega) j _ (bQ uL);cases Rk:v.1.aF with
      |true=>rfl
      |false=>rw[hk.P9 Rk]at oB;cases oB
     have hn:=XL F.2.2.1 Rk;intro i E c0 y;obtain⟨k1,k2,k3⟩:=Rj ps xs T _ O.2 I h (i+1) (E+1+L.length) c0 y.2;have XO:∀ u∈enc t 0 y.1,u.aF=true:=by
      intro u hu;obtain⟨j,hj⟩:=List.mem_iff_getElem?.1 hu;exact oh t 0 y.1 (by omega) j u hj
     have zS:gJ σ (.p t 0 off::ps) (x::xs)=Y::gJ σ ps xs:=by simp only[gJ,F.1]
     rw[zS]
     refine⟨λp hp=>?_,?_,λU cn p hp=>?_⟩
     ·simp only[jF,XM L 0 hn,List.nil_append]at hp;rcases fH.1 hp with rfl | hp
      ·exact .head _
      ·exact .tail _ (k1 p hp)
     ·show tA (kL c0 (E+1) L) (enc t 0 y.1)++lX c0 (E+1+L.length) T (gU (dP ps) y.2)=[]
      rw[(Ri _ _ XO).1,k2];rfl
     ·have hp:p∈(Y,aM.blk (nS U cn (kL c0 (E+1) L) cs (enc t 0 y.1))) :: (rT (kL c0 (E+1) L) (enc t 0 y.1)++jG U cn c0 (E+1+L.length) T (gU (dP ps) y.2)):=hp;rw[(Ri _ _ XO).2,List.nil_append]at hp;rcases fH.1 hp with rfl | hp
      ·exact .head _
      ·exact .tail _ (k3 U cn p hp)
    ·cases h
  next T F I=>exact(tw F).elim
  ·cases C
 |.s t g::ps,x::xs,D,k,O,C,h=>by simp[Cu]at O
 |[],_::_,D,k,_,C,h=>by cases C
 |_::_,[],D,k,_,C,h=>by cases C
def S.Ro{ns:aa Nat}{nr:aa (Nat×aM)}(v:A)(h:v.cL ns []=v):(σ.set d v).cL ns [] nr=(σ.cL ns [] nr).set d v:=by
 refine S.ext' (λk=>?_) λ_=>rfl
 show (bE σ.t d v k).cL ns []=bE (λk=>(σ.t k).cL ns []) d v k;by_cases C:k=d
 ·subst C;rw[bF,bF];exact h
 ·rw[bZ _ _ _ C,bZ _ _ _ C]
def KN{n:Nat}{x:aM}:∀ {l:aa (Nat×aM)},l.lookup n=some x -> (n,x)∈l
 |[],h=>by cases h
 | q :: l,h=>by
  rw[List.lookup_cons]at h;cases hb:n==q.1 with
  |true =>grind
  |false=>rw[hb]at h;exact .tail _ (KN h)
theorem ajC{τ:S}{f:Nat}{args:Array Operand}{iO:Array TypeId}{c:lV}(U:o.op = .call { callee:=.value (.func f),args,argTypes:=iO })(hc:Φ f=some (.m c))(hfl:KB c=true)(hp:∀ n,dX o n=true->p n=true/\pb n=true)(xw:∀ n∈gJ σ c.ps args.toList,p n=true)
  (h:cU P N Φ σ o some=some τ):Nonempty (pP P N Φ o p pb σ τ):=by
 have dZ:∀ σ2,cU P N Φ σ2 o some=mE N σ2 o.dst c args.toList some:=by
  intro σ2;unfold cU;rw[show eY o.op=false by rw[U];rfl,au];simp only[gz,U,hc]
 rw[dZ]at h;have XP:∀ σ2:S,(∀ x∈o.op.operands,aE σ2 x=aE σ x)->∀ x∈args.toList,aE σ2 x=aE σ x:=by
  intro σ2 E x O;refine E x ?_;rw[U];simp only[Op.operands,Call.operands];simp only[Array.mem_append]
  first
   |exact .inr (by simpa using O)
   |exact .inl (by simpa using O)
 unfold mE at h;split at h
 ·rename_i I rU;cases kf:(once (jF 0 I)&&Nat.ble I.length 40)with
  |false=>rw[kf]at h;cases h
  | true=>
   rw[kf,aj]at h;have ajD:=Rj c.ps args.toList I _ hfl rU h;obtain⟨x,C,hd⟩:=(Kr _ _ _).jV h;split at C
   ·rename_i y hy;obtain⟨k1,k2,k3⟩:=ajD 0 (ek c.ro y.1).len (gy o.dst) y.2;unfold Ch at C;rw[k2]at C;generalize gV:Cg N I (gU (dP c.ps) y.2) []=ok at C;cases ok with
    |false=>cases C
    | true=>
     rw[aj]at C;generalize zl:(jF 0 I).map (·.1)=ns at C hd;generalize Fc:jG ns [] (gy o.dst) (ek c.ro y.1).len I (gU (dP c.ps) y.2)=nr at C;have Y:Q8 p ns nr:=by
      refine⟨λn D=>?_,λn x O=>?_⟩
      ·rw[<-zl]at D;obtain⟨q,hq,e⟩:=List.mem_map.1 (rP.1 D);rw[<-e];exact xw _ (k1 q hq)
      ·rw[<-Fc]at O;exact xw _ (k3 ns [] _ (KN O))
     have nU:∀ σ2:S,(∀ x∈o.op.operands,aE σ2 x=aE σ x)->σ2.m=σ.m->mE N σ2 o.dst c args.toList some=ox N (σ2.cL ns [] nr) o.dst (ek c.ro y.1) some:=by
      intro σ2 E L;simp only[mE];rw[XK L _ _ (XP σ2 E),rU];simp only[kf,aj];rw[zl,KM L _ _ _ _ _ (XP σ2 E)];refine(hd S _).trans ?_;simp only[hy,Ch,k2,gV,aj,Fc]
     have XQ:∀ (σ:S) t r j,σ.t t = .aI r j->(σ.cL ns [] nr).t t = .aI r j:=by
      intro σ t r j T;show A.cL ns [] (σ.t t)=_;rw[T];rfl
     generalize iZ:ek c.ro y.1=res at C nU;cases F:o.dst with
     | none=>
      rw[F]at C;have C:some (σ.cL ns [] nr)=some τ:=C;injection C with C;exact⟨{ G:=λσ=>σ.cL ns [] nr,u:=.undef,eq:=by rw[F];exact C.symm,run:=λσ2 E L=>by rw[dZ,nU σ2 E L,F];rfl,grow:=λσ=>.cL ns nr Y (.refl σ),set:=λσ e v Z=>S.Ro v (A.Rb Z Y.ns),bp:=λ_ σ t r j T _=>XQ σ t r j T }⟩
     | some d=>
      rw[F]at C;have ke:∀n,1000000000100000+1000*d<=n->dX o n=true:=λn D=>by unfold dX;rw[F,U];exact gP D
      have r3:∀n,1000000000100000+1000*d<=n->p n=true/\pb n=true:=λn D=>hp n (ke n D)
      cases hN:Nat.blt d N with
      |false=>simp only[ox,hN,au]at C;cases C
      | true=>
       have e:∀σ,ox N σ (some d) res some=lR σ d res some:=λσ=>by simp only[ox,hN,aj]
       rw[e]at C;obtain⟨ps,u,hG⟩:=Re C;rw[hG]at C;injection C with C;exact⟨{ G:=λσ=>mC (1000000000100000+1000*d) (σ.cL ns [] nr) ps,u:=u,eq:=by rw[F];exact C.symm,run:=λσ2 E L=>by rw[dZ,nU σ2 E L,F,e,hG];rfl,grow:=λσ=>(Grow.cL ns nr Y (.refl σ)).trans (FK ps _ _ r3),set:=λσ e v Z=>by rw[S.Ro v (A.Rb Z Y.ns),QB v ps _ _ λn D=>A.zP Z (r3 n D).1 (r3 n D).2],bp:=λ_ σ t r j T hr=>(FK (p:=dX o) (pb:=dX o) ps _ _ (λn D=>⟨ke n D,ke n D⟩)).bp (XQ σ t r j T) hr }⟩
   ·cases C
 ·cases h
def Calm(Φ:dG)(ok:Nat->Nat->Bool)(pQ kN p pb:Nat->Bool)(σ:S)(o:Oper):Prop:=
 KA Φ o.op=true\/(∃f args D c,o.op = .call { callee:=.value (.func f),args:=args,argTypes:=D }/\Φ f=some (.m c)/\KB c=true/\qI ok σ c.ps args.toList=true/\∀n∈gJ σ c.ps args.toList,p n=true)\/
 (∃ty t y,o.op = .store ty (.tmp t) y/\o.dst=none/\pQ t=true/\iP p (σ.t t))\/
 ∃x y t C,o.op = .call ⟨.builtin .append,⟨[.tmp x,y]⟩,⟨[t,C]⟩⟩/\kN x=true/\(oA t=false/\Nat.beq t C=true/\zY o.dst t (.tmp x)=false)/\pO p pb (σ.t x)
theorem ajE{U:S}{ty:TypeId}{t:Tmp}{y:Operand}(F:o.op = .store ty (.tmp t) y)(T:o.dst=none)(C:iP p (σ.t t))(h:cU P N Φ σ o some=some U):Nonempty (pP P N Φ o p pb σ U):=by
 have E9:∀ (x:A) (z:A),(∀ k,x ≠ .ptr k) -> vi x z=false:=by
  intro x z E;unfold vi;split
  ·grind
  ·rfl
 have Y:∀ σ2:S,(∀ k,σ2.t t ≠ .ptr k) -> cU P N Φ σ2 o some=ou P σ2 ty (σ2.t t) (aE σ2 y) some:=by
  intro σ2 KO;unfold cU;rw[show eY o.op=false by rw[F];rfl,au];simp only[gz,F,T];rw[show vi (aE σ2 (.tmp t)) (aE σ2 y)=false from E9 _ _ KO,au];rfl
 rw[Y σ (λk I=>by rw[I]at C;exact C)]at h;cases E:σ.t t with
 | aI D j=>
  rw[E]at h C;have hp:p D=true:=C;have key:∃ x,∀ σ2:S,σ2.m=σ.m -> ∀ v,v=aE σ y -> ou P σ2 ty (.aI D j) v some=some (σ2.root D x):=by
   unfold ou at h;split at h
   ·rename_i n xs hn oZ;split at h
    ·rename_i hlen;simp only at h;split at h
     ·rename_i cs kH;split at h
      ·rename_i hj;cases hl:xs.all Lf.live with
       |false=>grind
       | true=>
        refine⟨.blk (cP cs j xs),λσ2 L v Z=>?_⟩
        subst Z;simp only[ou,hn,oZ,bJ hlen,L,kH,bJ hj,hl,aj];simp only[S.root,L]
      ·cases h
     ·cases h
    ·cases h
   ·cases h
  obtain⟨x,jW⟩:=key;have O:=jW σ rfl _ rfl;rw[h]at O;injection O with O
  refine⟨{ G:=λσ=>σ.root D x,u:=.undef,eq:=by rw[T];exact O,run:=λσ2 qK L=>?_,grow:=λσ=>.rt D x hp (.refl σ),set:=λσ d v Z=>rfl,bp:=λ_ σ t r j ht _=>ht }⟩
  have e1:σ2.t t = .aI D j:=(qK (.tmp t) (by rw[F];simp[Op.operands])).trans E;rw[Y σ2 (λk I=>by rw[e1]at I;cases I),e1,jW σ2 L _ (qK y (by rw[F];simp[Op.operands])),T];rfl
 |ptr k=>rw[E]at C;exact C.elim
 | _=>
  rw[E]at h;exfalso;revert h;unfold ou;split
  ·grind
  ·grind
def cw(e:Nat)(x:aM)(u:A)(σ:S):S:=((σ.drop e).root e x).set e u
def kR(e:Nat)(u:A):Prop:=u = .aI e 0\/u = .lf (.own [e])
structure jc (x:aM):Prop where
 cm:∀K:lO,x.cm K=x
def jc.drop{x:aM}(h:jc x)(n:Nat):x.drop n=x:=h.cm _
def jc.cL{x:aM}(h:jc x)(ns cn:aa Nat):x.cL ns cn=x:=h.cm _
def jc.zero(C:aa Value):jc (.blk (C.map mw)):=⟨λK=>bu aM.blk (oW.nE (bW.2 λc D=>by
 obtain⟨v,_,rfl⟩:=List.mem_map.1 D;unfold mw;split<;>rfl))⟩
def XR(h:tE o=true):∃ t,∃ e:Nat,o.op = .alloc t/\o.guard=none/\o.dst=some e/\e<20000:=by
 unfold tE at h;rw[aH,aH]at h;obtain⟨⟨C,E⟩,D⟩:=h;split at C
 ·rename_i t F;split at D
  ·simp_all
  ·cases D
 ·cases C
def ajF{ops:Array Oper}{t:TypeId}{e:Nat}(D:o.op = .alloc t)(I:o.guard=none)(L:o.dst=some e){E:S}(h:cQ P N Φ ops σ o some=some E):∃ x,jc x/\E=cw e x (.aI e 0) σ/\∀ σ2,cQ P N Φ ops σ2 o some=some (cw e x (.aI e 0) σ2):=by
 have F:∀ σ2,cQ P N Φ ops σ2 o some=o6 P N σ2 e t some:=by
  intro σ2;unfold cQ fk;rw[I];simp only;unfold cU;rw[show eY o.op=false by rw[D];rfl,au];simp only[gz,D,fM,L]
 rw[F]at h;unfold o6 at h;split at h
 ·rename_i z O;unfold fO at h;cases C:Nat.blt e N with
  |false=>rw[C]at h;cases h
  | true=>
   rw[C,aj]at h;injection h with h
   refine⟨_,.zero _,h.symm,λσ2=>(F σ2).trans ?_⟩
   unfold o6 fO;rw[O,C];rfl
 ·cases h
def FL{σ2:S}:∀ (ps:aa PK) (xs:aa Operand),(∀ x∈xs,aE σ2 x=aE σ x) -> gJ σ2 ps xs=gJ σ ps xs
 |[],[],_=>rfl
 |[],_::_,_=>rfl
 |.v _ _::_,[],_=>rfl
 |.p _ _ _::_,[],_=>rfl
 |.s _ _::_,[],_=>rfl
 |.v _ _::ps,x::xs,h=>by simp[gJ];exact FL ps xs (λy C=>h y (.tail _ C))
 |.s _ _::ps,x::xs,h=>by simp only[gJ];exact FL ps xs (λy C=>h y (.tail _ C))
 | .p _ _ _ :: ps,x :: xs,h=>by
  simp only[gJ];rw[h x (.head _),FL ps xs (λy C=>h y (.tail _ C))]
def Rp{ok:Nat -> Nat -> Bool}{σ2:S}(D:∀ t r j,σ.t t = .aI r j -> ok t r=true -> σ2.t t = .aI r j):∀ (ps:aa PK) (xs:aa Operand),qI ok σ ps xs=true -> qI ok σ2 ps xs=true/\gJ σ2 ps xs=gJ σ ps xs
 |[],[],_=>⟨rfl,rfl⟩
 | .v _ _ :: ps,x :: xs,h=>by
  exact Rp D ps xs h
 | .p _ _ _ :: ps,x :: xs,h=>by
  cases x with
  | tmp t=>
   simp[qI,aH]at h;obtain⟨C,F⟩:=h;obtain⟨I,L⟩:=Rp D ps xs F;split at C
   ·rename_i O j E;have e:=D t O j E C;refine⟨?_,?_⟩
    ·simp only[qI,aH];exact⟨by rw[e];exact C,I⟩
    ·simp only[gJ,aE,e,E,L]
   ·cases C
  |const v=>simp[qI]at h
  |global g=>simp[qI]at h
  |func f=>simp[qI]at h
def Calm.jz{ok:Nat->Nat->Bool}{pQ kN:Nat->Bool}{σ2:S}(h:Calm Φ ok pQ kN p pb σ o)(I:∀ t r j,σ.t t = .aI r j->ok t r=true->σ2.t t = .aI r j)(L:∀ t,pQ t=true->iP p (σ.t t)->iP p (σ2.t t))(O:∀ t,kN t=true->pO p pb (σ.t t)->pO p pb (σ2.t t)):Calm Φ ok pQ kN p pb σ2 o:=by
 rcases h with h|⟨f,args,T,c,E,C,D,F,U⟩|⟨ty,t,y,E,C,D,F⟩|⟨x,y,t,Y,E,C,Z,D⟩
 ·exact .inl h
 ·obtain⟨k1,k2⟩:=Rp I _ _ F;exact .inr (.inl ⟨f,args,T,c,E,C,D,k1,by rw[k2];exact U⟩)
 ·exact .inr (.inr (.inl ⟨ty,t,y,E,C,D,L t D F⟩))
 ·exact .inr (.inr (.inr ⟨x,y,t,Y,E,C,Z,O x C D⟩))
def KP{ops:Array Oper}(O:mG o=true)(T:fk σ ops o=some true){τ:S}(h:cQ P N Φ ops σ o some=some τ):∃ (e:Nat) (x:aM) (u:A),o.dst=some e/\e<20000/\jc x/\kR e u/\τ=cw e x u σ/\
  ∀σ2,fk σ2 ops o=some true->(∀y∈o.op.operands,aE σ2 y=aE σ y)->cQ P N Φ ops σ2 o some=some (cw e x u σ2):=by
 have U:eY o.op=false->∀ σ2,fk σ2 ops o=some true->cQ P N Φ ops σ2 o some=gz P N Φ σ2 o some:=by
  intro hv σ2 F;unfold cQ;rw[F];simp only;unfold cU;rw[hv,au]
 have XS:∀y:V,jc (.sl y):=λy=>⟨λ_=>rfl⟩
 unfold mG at O;rw[aH]at O;obtain⟨Y,Z⟩:=O;split at Z
 ·rename_i e D;have dV:e<20000:=cr Z;split at Y
  ·rename_i t C;have E:=U (by rw[C];rfl);rw[E σ T]at h;simp only[gz,C,fM,D]at h;unfold o6 at h;split at h
   ·rename_i z hz;unfold fO at h;cases hN:Nat.blt e N with
    |false=>rw[hN]at h;cases h
    | true=>
     rw[hN,aj]at h;injection h with h
     refine⟨e,.blk (z.cells.toList.map mw),.aI e 0,D,dV,.zero _,.inl rfl,h.symm,λσ2 F _=>(E σ2 F).trans ?_⟩
     simp only[gz,C,fM,D];unfold o6 fO;rw[hz,hN];rfl
   ·cases h
  ·rename_i t len parts C;have E:=U (by rw[C];rfl);rw[E σ T]at h;have hn:oA t=false:=by simpa using Y
   simp only[gz,C,fM,D,hn,au]at h;obtain⟨y,I,h2⟩:=W2 h;injection I with I
   refine⟨e,.sl y,.lf (.own [e]),D,dV,XS y,.inr rfl,I.symm,λσ2 F L=>(E σ2 F).trans ?_⟩
   simp only[gz,C,fM,D,hn,au]
   refine(h2 σ2 λq hq=>L _ ?_).at_ _
   rw[C];simp only[Op.operands];exact List.mem_toArray.2 (List.mem_map_of_mem (f:=(·.2)) hq)
  ·rename_i t l c C;have E:=U (by rw[C];rfl);rw[E σ T]at h;simp only[gz,C,fM,D]at h;obtain⟨y,I,h2⟩:=W0 h;injection I with I
   refine⟨e,.sl y,.lf (.own [e]),D,dV,XS y,.inr rfl,I.symm,λσ2 F L=>(E σ2 F).trans ?_⟩
   simp only[gz,C,fM,D];rw[L l (by rw[C];simp[Op.operands]),L c (by rw[C];simp[Op.operands])];exact(h2 σ2).at_ _
  ·cases Y
 ·cases Z
def KQ{d:Nat}{t:TypeId}{y z:A}{T:S}(h:rD P N σ d t y z some=some T):∃ (r:Nat) (v:V),T=((σ.drop r).root r (.sl v)).set d (.lf (.own [r]))/\(r=d\/y = .lf (.own [r]))/\
  ∀σ2:S,(∀(k:V->ah S),qt σ2 z k=qt σ z k)->(∀r v,y = .lf (.own [r])->σ.m r=some (.sl v)->σ2.m r=some (.sl v))->rD P N σ2 d t y z some=some (((σ2.drop r).root r (.sl v)).set d (.lf (.own [r]))):=by
 unfold rD at h;split at h
 ·rename_i e I U;cases F:(Nat.beq (full I) 0&&(zeroOf P e).any (λz=>Nat.beq z.cells.size (aA I)))with
  |false=>rw[F]at h;cases h
  | true=>
   rw[F,aj]at h;obtain⟨yv,C,Y⟩:=Qv.jV h;clear h;split at C
   ·cases C
   ·rename_i l2 Z;split at C
    ·cases D:aT l2.length with
     |false=>rw[D]at C;cases C
     | true=>
      rw[D,aj]at C;cases L:Nat.blt d N with
      |false=>unfold fO at C;rw[L]at C;cases C
      | true=>
       have E:=C;unfold fO at E;rw[L,aj]at E;injection E with E
       refine⟨d,.sl I 2 false l2,E.symm,.inl rfl,λσ2 O Rq=>?_⟩
       simp only[rD,U,F,aj];refine(O _).trans ((Y.at_ _).trans ?_);simp only[Z,D,aj];unfold fO;rw[L,aj]
    ·rename_i rr;split at C
     ·rename_i t' o q l hm;split at C
      ·rename_i lQ;cases D:(Nat.blt d N&&(Nat.blt rr N || Nat.ble 60000 rr)&&aT (l.length+l2.length))with
       |false=>rw[D]at C;cases C
       | true=>
        rw[D,aj]at C;injection C with C
        refine⟨rr,_,C.symm,.inr rfl,λσ2 O Rq=>?_⟩
        simp only[rD,U,F,aj];refine(O _).trans ((Y.at_ _).trans ?_);simp only[Z,Rq rr _ rfl hm,aD lQ,D,aj]
      ·cases C
     ·cases C
    ·cases C
 ·cases h
def Rr(h:isApp o=true):∃ x y t C,o.op = .call ⟨.builtin .append,⟨[x,y]⟩,⟨[t,C]⟩⟩/\oA t=false/\Nat.beq t C=true/\zY o.dst t x=false:=by
 unfold isApp at h
 grind
def FM{x y:Operand}{t D:TypeId}(E:o.op = .call ⟨.builtin .append,⟨[x,y]⟩,⟨[t,D]⟩⟩)(F:oA t=false)(I:Nat.beq t D=true)(C:zY o.dst t x=false)(σ:S):cU P N Φ σ o some=fM o λd=>rD P N σ d t (aE σ x) (aE σ y) some:=by
 unfold cU;rw[show eY o.op=false by rw[E];rfl];simp[gz,E,F,I,aj];unfold fM;cases L:o.dst with
 |none=>rfl
 | some d=>
  rw[L]at C;have C:Kz t d x=false:=C;simp_all
theorem ajG{O:S}{x:Tmp}{y:Operand}{t T:TypeId}(C:o.op = .call ⟨.builtin .append,⟨[.tmp x,y]⟩,⟨[t,T]⟩⟩)(E:oA t=false)(F:Nat.beq t T=true)(I:zY o.dst t (.tmp x)=false)(hp:∀ n,dX o n=true->p n=true/\pb n=true)(jB:pO p pb (σ.t x))(h:cU P N Φ σ o some=some O):Nonempty (pP P N Φ o p pb σ O):=by
 rw[FM C E F I]at h;obtain⟨d,L,h⟩:=iE h;obtain⟨r,v,gW,hr,nU⟩:=KQ h;have D:p r=true/\pb r=true:=by
  rcases hr with hr|hr
  ·rw[hr];exact hp d (by unfold dX;rw[L,C];exact Nat.beq_refl d)
  ·exact jB r hr
 refine⟨{ G:=λσ=>(σ.drop r).root r (.sl v),u:=.lf (.own [r]),eq:=by rw[L];exact gW,run:=λσ2 U Y=>?_,grow:=λσ=>.root r _ D.1 D.2 (.refl σ),set:=λσ e v' hv=>(by rw[S.drop_set r (A.zP hv D.1 D.2)];rfl),bp:=λZ=>(by rw[isApp,C]at Z;simp[E,F,I]at Z) }⟩
 rw[FM C E F I];unfold fM;rw[L];simp only;rw[U (.tmp x) (by rw[C];simp[Op.operands,Call.operands]),U y (by rw[C];simp[Op.operands,Call.operands]),nU σ2 (λk=>ajk Y _ k) (λr' v' _ h'=>by rw[Y];exact h')];rfl
theorem ajH[Inhabited Wd](dH:fj P Φ){ok:Nat->Nat->Bool}{pQ kN kO:Nat->Bool}(hX:∀ x,kO x=true->iP p (σ.t x)){ops:Array Oper}{oi D:Oper}{v:A}{τ:S}(hF:kQ P ops oi p pb v σ)(ha:oi.apart ops D=true)(I:Calm Φ ok pQ kN p pb σ D)(hp:∀ n,dX D n=true->p n=true/\pb n=true)
  (h:cQ P N Φ ops (fD σ oi.dst v) D some=some τ):∃ O,cQ P N Φ ops σ D some=some O/\τ=fD O oi.dst v/\kQ P ops oi p pb v O/\(isApp D=false->∀ t r j,σ.t t = .aI r j->D.dst≠some t->dX D r=false->O.t t = .aI r j)/\
   (∀t,iP p (σ.t t)->(D.dst≠some t\/(tE D=true/\p t=true)\/∃s x f,D.op = .fieldAddr s (.tmp x) f/\kO x=true)->iP p (O.t t))/\
   ∀t,pO p pb (σ.t t)->(D.dst≠some t\/(mG D=true/\p t=true/\pb t=true)\/(isApp D=true\/xH Φ D=true))->pO p pb (O.t t):=by
 obtain⟨a1,a2,a3⟩:=Oper.apart_spec ha;have Cv:∀ (σ:S) (u:A) t,D.dst≠some t->(fD σ D.dst u).t t=σ.t t:=by
  intro σ u t I;cases L:D.dst with
  |none=>rfl
  |some d=>exact bZ _ _ _ (by rintro rfl;exact I L)
 have Cw:∀ O,cQ P N Φ ops σ D some=some O->∀ t,tE D=true->D.dst=some t->p t=true->iP p (O.t t):=by
  intro O C t Cw L QN;obtain⟨ty,e,E,T,h3,_⟩:=XR Cw;rw[h3]at L;injection L with L;subst L;obtain⟨x,_,e1,_⟩:=ajF E T h3 C;rw[e1];show iP p (bE _ e (.aI e 0) e);rw[bF];exact QN
 have fin:∀ O,cQ P N Φ ops σ D some=some O->(∀ t,D.dst≠some t->iP p (σ.t t)->iP p (O.t t))->∀ t,iP p (σ.t t)->(D.dst≠some t\/(tE D=true/\p t=true)\/∃ s x f,D.op = .fieldAddr s (.tmp x) f/\kO x=true)->iP p (O.t t):=by
  intro O C hk t I Rs;rcases Rs with Z|⟨E,T⟩|⟨s,x,f,E,T⟩
  ·exact hk t Z I
  ·by_cases L:D.dst=some t
   ·exact Cw O C t E L T
   ·exact hk t L I
  ·by_cases L:D.dst=some t
   ·unfold cQ at C;split at C
    ·unfold cU at C;rw[show eY D.op=true by rw[E];rfl,aj]at C;rw[E]at C;simp only[kM]at C;have hx:=hX x T;have hx:iP p (aE σ (.tmp x)):=hx;generalize aE σ (.tmp x)=z at hx C;have key:∀ v,gk N σ D.dst v some=some O->iP p v->iP p (O.t t):=by
      intro v hv hA;obtain⟨F,_⟩:=qJ hv;injection F with F;rw[<-F,L];show iP p (bE σ.t t v t);rw[bF];exact hA
     unfold BV at C;split at C
     ·cases C
     ·split at C
      ·split at C
       ·exact key _ C hx
       ·exact key _ C trivial
       ·exact hx.elim
       ·cases C
      ·cases C
    ·obtain⟨F,_⟩:=qJ C;injection F with F;rw[<-F,L];show iP p (bE σ.t t .skip t);rw[bF];trivial
    ·cases C
   ·exact hk t L I
 have ajI:=I;have XT:∀ O,cQ P N Φ ops σ D some=some O->(∀ t,D.dst≠some t->pO p pb (σ.t t)->pO p pb (O.t t))->∀ t,pO p pb (σ.t t)->(D.dst≠some t\/(mG D=true/\p t=true/\pb t=true)\/(isApp D=true\/xH Φ D=true))->pO p pb (O.t t):=by
  intro O C hk t I Rs;rcases Rs with Z|⟨E,T⟩|ajJ|Ac
  ·exact hk t Z I
  ·by_cases L:D.dst=some t
   ·cases hw:fk σ ops D with
    |none=>unfold cQ at C;rw[hw]at C;cases C
    | some b=>
     cases b with
     | true=>
      obtain⟨e,x,u,F,g2,g3,g4,g5,_⟩:=KP E hw C;rw[L]at F;injection F with F;subst F;rw[g5];intro r hr;have hr:bE _ t u t = .lf (.own [r]):=hr;rw[bF]at hr;rcases g4 with g4|g4
      ·rw[g4]at hr;cases hr
      ·rw[g4]at hr;injection hr with hr;injection hr with hr;injection hr with hr;subst hr;exact T
     | false=>
      unfold cQ at C;rw[hw]at C;obtain⟨F,_⟩:=qJ C;injection F with F;rw[<-F,L];intro r hr;have hr:bE σ.t t .skip t = .lf (.own [r]):=hr;rw[bF]at hr;cases hr
   ·exact hk t L I
  ·by_cases L:D.dst=some t
   ·obtain⟨x,y,t1,t2,F,g2,g3,g4⟩:=Rr ajJ;have hT:pO p pb (aE σ x):=by
     rcases ajI with q|⟨f,args,iO,c,Y,_⟩|⟨ty,tt,yy,Y,_⟩|⟨x',y',t1',t2',Y,q2,q3,q4⟩
     ·rw[F]at q;cases q
     ·rw[F]at Y;cases Y
     ·rw[F]at Y;cases Y
     ·rw[F]at Y;injection Y with Y;injection Y with _ Y _;injection Y with Y;injection Y with Y _;subst Y;exact q4
    cases hw:fk σ ops D with
    |none=>unfold cQ at C;rw[hw]at C;cases C
    | some b=>
     cases b with
     | true=>
      unfold cQ at C;rw[hw]at C;have C:cU P N Φ σ D some=some O:=C;rw[FM F g2 g3 g4]at C;obtain⟨d,pR,C⟩:=iE C;rw[L]at pR;injection pR with pR;subst pR;obtain⟨r,v,gW,hr,_⟩:=KQ C;rw[gW];intro r' fC;have fC:bE ((σ.drop r).root r (.sl v)).t t (.lf (.own [r])) t = .lf (.own [r']):=fC;rw[bF]at fC;injection fC with fC;injection fC with fC;injection fC with fC;subst fC;rcases hr with hr|hr
      ·rw[hr];exact hp t (by unfold dX;rw[L,F];exact Nat.beq_refl t)
      ·exact hT r hr
     | false=>
      unfold cQ at C;rw[hw]at C;obtain⟨F,_⟩:=qJ C;injection F with F;rw[<-F,L];intro r hr;have hr:bE σ.t t .skip t = .lf (.own [r]):=hr;rw[bF]at hr;cases hr
   ·exact hk t L I
  ·by_cases L:D.dst=some t
   ·cases hw:fk σ ops D with
    |none=>unfold cQ at C;rw[hw]at C;cases C
    | some b=>
     cases b with
     | true=>
      unfold cQ at C;rw[hw]at C;have C:cU P N Φ σ D some=some O:=C;unfold xH at Ac;split at Ac
      ·rename_i f args iO ho;split at Ac
       ·rename_i c hc;unfold cU at C;rw[show eY D.op=false by rw[ho];rfl,au]at C;simp only[gz,ho,hc]at C;obtain⟨d,pR,C⟩:=iE C;rw[L]at pR;injection pR with pR;subst pR;obtain⟨res,qw,E,T,_⟩:=Kl (FJ dH hc) Co C;injection T with T;subst T;have ke:∀ n,1000000000100000+1000*t<=n->p n=true/\pb n=true:=λn hn=>hp n (by unfold dX;rw[L,ho];exact gP hn)
        intro r hr;unfold lR at E;cases res with
        | one q=>
         simp only at E;split at E
         ·rename_i y U;injection E with E;rw[<-E]at hr;have hr:bE _ t y t=A.lf (Lf.own [r]):=hr;rw[bF]at hr;subst hr;obtain⟨b,vs⟩:=q;cases b with
          |true=>cases U
          | false=>
           match vs,U with
           | [v],U=>
            have U:some (A.lf (bif v.aF then Lf.v v else Lf.own [1000000000100000+1000*t]))=some (A.lf (Lf.own [r])):=U;injection U with U;injection U with U;cases hf:v.aF with
            |true=>rw[hf]at U;cases U
            | false=>
             rw[hf]at U;injection U with U;injection U with U;subst U;exact ke _ (c9 _)
         ·cases E
        | ez ps=>
         injection E with E;rw[<-E]at hr;have hr:bE _ t _ t=A.lf (Lf.own [r]):=hr;rw[bF]at hr;cases hr
       ·cases Ac
      ·cases Ac
     | false=>
      unfold cQ at C;rw[hw]at C;obtain⟨F,_⟩:=qJ C;injection F with F;rw[<-F,L];intro r hr;have hr:bE σ.t t .skip t = .lf (.own [r]):=hr;rw[bF]at hr;cases hr
   ·exact hk t L I
 unfold cQ at h;rw[ajy a1]at h;split at h
 ·rename_i hw;have ajK:Nonempty (pP P N Φ D p pb (fD σ oi.dst v) τ):=by
   rcases I with I|⟨f,args,iO,c,E,T,h3,h4,h5⟩|⟨ty,t,y,E,T,h3,h4⟩|⟨x,y,t1,t2,E,T,hn,h3⟩
   ·exact ajw dH I hp h
   ·refine ajC E T h3 hp ?_ h;rw[FL]
    ·exact h5
    ·intro x hx;refine KJ a1 v ?_;rw[E];simp only[Op.operands,Call.operands];simp only[Array.mem_append]
     first
      |exact .inr (by simpa using hx)
      |exact .inl (by simpa using hx)
   ·refine ajE E T ?_ h;have e1:aE (fD σ oi.dst v) (.tmp t)=aE σ (.tmp t):=KJ a1 v (by rw[E];simp[Op.operands]);have e1:(fD σ oi.dst v).t t=σ.t t:=e1;rw[e1];exact h4
   ·refine ajG E hn.1 hn.2.1 hn.2.2 hp ?_ h;have e1:aE (fD σ oi.dst v) (.tmp x)=aE σ (.tmp x):=KJ a1 v (by rw[E];simp[Op.operands,Call.operands]);have e1:(fD σ oi.dst v).t x=σ.t x:=e1;rw[e1];exact h3
  obtain⟨G,u,e,hr,hg,hs,XU⟩:=ajK;have pS:cQ P N Φ ops σ D some=some (fD (G σ) D.dst u):=by
   unfold cQ;rw[hw];exact hr σ (λx hx=>(KJ a1 v hx).symm) (ajx _ _).symm
  refine⟨fD (G σ) D.dst u,pS,?_,(hF.grow (hg σ)).put a3,λAd t r j I Z ke=>?_,fin _ pS λt Z I=>?_,XT _ pS λt Z I=>?_⟩
  ·refine e.trans ?_;have:∀ dst,G (fD σ dst v)=fD (G σ) dst v:=by
    intro dst;cases dst with
    |none=>rfl
    |some d=>exact hs σ d v hF.nr
   rw[this];exact XI _ _ a2
  ·rw[Cv _ _ t Z];exact XU Ad σ t r j I ke
  ·rw[Cv _ _ t Z];exact(hg σ).st I
  ·rw[Cv _ _ t Z];exact(hg σ).tg I
 ·rename_i hw;obtain⟨E,T⟩:=qJ h;injection E with E;have pS:cQ P N Φ ops σ D some=some (fD σ D.dst .skip):=by
   unfold cQ;rw[hw];exact(T σ).at_ _
  exact⟨fD σ D.dst .skip,pS,by rw[<-E];exact XI _ _ a2,hF.put a3,λ_ t r j I Z _=>(by rw[Cv _ _ t Z];exact I),fin _ pS λt Z I=>(by rw[Cv _ _ t Z];exact I),XT _ pS λt Z I=>(by rw[Cv _ _ t Z];exact I)⟩
 ·cases h
def Any(P:Program)(N:Nat)(Φ:dG)(ops:Array Oper)(K:S->Prop):Nat->Nat->S->Prop
 |0,L,σ=>(∀j,ki ops L j=false)/\K σ
 |f+1,L,σ=>((∀j,ki ops L j=false)->K σ)/\∀j,ki ops L j=true->∃o C,ops[j]?=some o/\cQ P N Φ ops σ o some=some C/\Any P N Φ ops K f (L |||2 ^ j) C
def xK(L i j:Nat):(L ||| 2 ^ i).testBit j=(L.testBit j || decide (i=j)):=by
 rw[Nat.testBit_or,Nat.testBit_two_pow]
def FN{ops:Array Oper}{L j:Nat}:ki ops L j=true ↔ L.testBit j=false /\ ∃ o,ops[j]?=some o /\ ∀ e∈o.after,Region.binds .any e=true -> L.testBit e.on=true:=by
 unfold ki
 grind
def Rt{ops:Array Oper}{L i j:Nat}(h:ki ops L j=true)(C:j≠i):ki ops (L ||| 2 ^ i) j=true:=by
 rw[FN]at h ⊢
 grind
def kQ.step{ops:Array Oper}{C:Oper}{v:A}(F:kQ P ops C p pb v σ)(I:∀ σ:S,gk N σ C.dst v some=some (fD σ C.dst v)):cQ P N Φ ops σ C some=some (fD σ C.dst v):=by
 unfold cQ;rcases F with ⟨D,E,L,_,_,_⟩|⟨D,E⟩
 ·rw[D];unfold cU;rw[E,aj];exact(L.at_ _).trans (I σ)
 ·simp_all
def Ru{K:S -> Prop}{ops:Array Oper}{i W:Nat}{T:Oper}(hi:ops[i]?=some T)(hW:∀ j C,ops[j]?=some C -> W.testBit j=true -> ∃ e∈C.after,Region.binds .any e=true/\(e.on=i \/ W.testBit e.on=true))(E:S -> S)(I:Nat -> S -> Prop)
  (r1:∀L σ,I L σ -> cQ P N Φ ops σ T some=some (E σ))
  (r2:∀L σ j C U,I L σ -> ops[j]?=some C -> j≠i -> L.testBit j=false -> W.testBit j=false -> cQ P N Φ ops (E σ) C some=some U -> ∃F,cQ P N Φ ops σ C some=some F/\U=E F/\I (L |||2 ^ j) F):
  ∀(f L:Nat) (σ:S),(∀j,W.testBit j=true -> L.testBit j=false) -> ki ops L i=true -> I L σ -> Any P N Φ ops K f (L |||2 ^ i) (E σ) -> Any P N Φ ops K (f+1) L σ:=by
 intro f
 induction f with
 | zero=>
  intro L σ tF O Y H
  refine⟨λh=>absurd (h i) (by rw[O];simp),λj Z=>?_⟩
  by_cases D:j=i
  ·subst D;exact⟨T,_,hi,r1 L σ Y,H⟩
  ·have:=Rt Z D;rw[H.1]at this;cases this
 | succ f ih=>
  intro L σ tF O Y H
  refine⟨λh=>absurd (h i) (by rw[O];simp),λj Z=>?_⟩
  by_cases D:j=i
  ·subst D;exact⟨T,_,hi,r1 L σ Y,H⟩
  ·obtain⟨C,U,vo,gW,H'⟩:=H.2 j (Rt Z D);obtain⟨Cx,oj',KR,nU⟩:=FN.1 Z;rw[vo]at KR;injection KR with KR;subst KR;have xN:W.testBit j=false:=by
    cases xN:W.testBit j with
    |false=>rfl
    | true=>
     obtain⟨e,he,hb,kf⟩:=hW j C vo xN;have h1:=nU e he hb;rcases kf with kf|kf
     ·rw[kf,(FN.1 O).1]at h1;cases h1
     ·rw[tF _ kf]at h1;cases h1
   obtain⟨F,hs,xO,hI'⟩:=r2 L σ j C U Y vo D Cx xN gW
   refine⟨C,F,vo,hs,ih (L |||2 ^ j) F (λk hk=>?_) (Rt O (Ne.symm D)) hI' ?_⟩
   ·grind
   ·rw[<- xO]
    grind
theorem ajL[Inhabited Wd](dH:fj P Φ){ok:Nat -> Nat -> Bool}{pQ kN kO:Nat -> Bool}{K:S -> Prop}{ops:Array Oper}{i W:Nat}{F:Oper}{v:A}(hi:ops[i]?=some F)(hN:∀ σ:S,gk N σ F.dst v some=some (fD σ F.dst v))
  (hW:∀j C,ops[j]?=some C -> W.testBit j=true -> ∃e∈C.after,Region.binds .any e=true/\(e.on=i \/ W.testBit e.on=true)) (f L:Nat) (σ:S)
  (gV:∀t r,ok t r=true -> ∀j C,ops[j]?=some C -> j≠i -> L.testBit j=false -> W.testBit j=false -> C.dst≠some t/\dX C r=false/\isApp C=false)
  (Z:∀x,kO x=true -> ∀j C,ops[j]?=some C -> j≠i -> L.testBit j=false -> W.testBit j=false -> C.dst≠some x) (hX:∀x,kO x=true -> iP p (σ.t x))
  (KS:∀t,pQ t=true -> ∀j C,ops[j]?=some C -> j≠i -> L.testBit j=false -> W.testBit j=false -> C.dst≠some t \/ (tE C=true/\p t=true) \/ ∃s x f,C.op = .fieldAddr s (.tmp x) f/\kO x=true)
  (KT:∀t,kN t=true -> ∀j C,ops[j]?=some C -> j≠i -> L.testBit j=false -> W.testBit j=false -> C.dst≠some t \/ (mG C=true/\p t=true/\pb t=true) \/ (isApp C=true \/ xH Φ C=true))
  (Ae:∀j C,ops[j]?=some C -> j≠i -> L.testBit j=false -> W.testBit j=false -> F.apart ops C=true/\Calm Φ ok pQ kN p pb σ C /\ ∀n,dX C n=true -> p n=true/\pb n=true)
  (tF:∀j,W.testBit j=true -> L.testBit j=false) (hr:ki ops L i=true) (hF:kQ P ops F p pb v σ) (H:Any P N Φ ops K f (L |||2 ^ i) (fD σ F.dst v)):Any P N Φ ops K (f+1) L σ:=by
 refine Ru hi hW (λσ=>fD σ F.dst v)
  (λL σ=>kQ P ops F p pb v σ/\(∀ t r,ok t r=true -> ∀ j C,ops[j]?=some C -> j≠i -> L.testBit j=false -> W.testBit j=false -> C.dst≠some t/\dX C r=false/\isApp C=false) /\
   ((∀x,kO x=true -> ∀j C,ops[j]?=some C -> j≠i -> L.testBit j=false -> W.testBit j=false -> C.dst≠some x) /\ ∀x,kO x=true -> iP p (σ.t x)) /\
   (∀t,pQ t=true -> ∀j C,ops[j]?=some C -> j≠i -> L.testBit j=false -> W.testBit j=false -> C.dst≠some t \/ (tE C=true/\p t=true) \/ ∃s x f,C.op = .fieldAddr s (.tmp x) f/\kO x=true) /\
   (∀t,kN t=true -> ∀j C,ops[j]?=some C -> j≠i -> L.testBit j=false -> W.testBit j=false -> C.dst≠some t \/ (mG C=true/\p t=true/\pb t=true) \/ (isApp C=true \/ xH Φ C=true)) /\
   ∀j C,ops[j]?=some C -> j≠i -> L.testBit j=false -> W.testBit j=false -> F.apart ops C=true/\Calm Φ ok pQ kN p pb σ C /\ ∀n,dX C n=true -> p n=true/\pb n=true)
  (λL σ h=>h.1.step hN) (λL σ j C τ h vo FO Cx xN gW=>?_) f L σ tF hr ⟨hF,gV,⟨Z,hX⟩,KS,KT,Ae⟩ H
 obtain⟨hF,gV,⟨Z,hX⟩,KS,KT,Ae⟩:=h;obtain⟨c1,c2,c3⟩:=Ae j C vo FO Cx xN;obtain⟨cN,hs,xO,hF',QJ,jB,hta⟩:=ajH (kO:=kO) dH hX hF c1 c2 c3 gW;have Y:∀ k,(L ||| 2 ^ j).testBit k=false -> L.testBit k=false:=by
  intro k D;rw[xK,oe]at D;exact D.1
 refine⟨cN,hs,xO,hF',λt r E k I D O T U=>gV t r E k I D O (Y k T) U,⟨λx hx k I D O T U=>Z x hx k I D O (Y k T) U,λx hx=>jB x (hX x hx) (.inl (Z x hx j C vo FO Cx xN))⟩,λt E k I D O T U=>KS t E k I D O (Y k T) U,λt E k I D O T U=>KT t E k I D O (Y k T) U,λk I D O T U=>?_⟩
 obtain⟨d1,d2,d3⟩:=Ae k I D O (Y k T) U
 refine⟨d1,d2.jz (λt r j' E h=>?_) (λt h E=>jB t E (KS t h j C vo FO Cx xN)) (λt h E=>hta t E (KT t h j C vo FO Cx xN)),d3⟩
 grind
def A.Rw(y:A)(a b:Nat):(y.drop a).drop b=(y.drop b).drop a:=A.nG y _ _
def aM.Rw(y:aM)(a b:Nat):(y.drop a).drop b=(y.drop b).drop a:=aM.nG y _ _
def kR.drop(h:kR e u){n:Nat}(C:e≠n):u.drop n=u:=by
 rcases h with rfl|rfl
 ·simp only[A.drop,nH C,au,A.cm,uI]
 ·have:cF n [e]=false:=by simp[cF,C]
  simp only[A.drop,Lf.drop,this,au,A.cm,uI,Lf.cm]
def kR.cL(h:kR e u){ns cn:aa Nat}(D:cI e ns=false)(C:cI e cn=false):u.cL ns cn=u:=by
 rcases h with rfl|rfl
 ·simp only[A.cL,C,au,A.cm,tj]
 ·have E:fh [e] ns=false:=D;have F:fh [e] cn=false:=C;simp only[A.cL,Lf.cL,E,F,A.cm,tj,Lf.cm];rfl
def pT(k:Nat):(cw e x u σ).t k=if k=e then u else (σ.t k).drop e:=by
 by_cases C:k=e
 ·subst C;rw[bJ rfl];exact bF _ _ _
 ·rw[bx C];exact bZ _ _ _ C
def nW(n:Nat):(cw e x u σ).m n=if n=e then some x else (σ.m n).map (aM.drop e):=by
 show bE (λr=>bif Nat.beq r e then none else (σ.m r).map (aM.drop e)) e (some x) n=_;by_cases C:n=e
 ·subst C;rw[bJ rfl,bF]
 ·rw[bx C,bZ _ _ _ C,nH C];rfl
def Rx(c:Nat)(y:aM)(k:Nat):((σ.drop c).root c y).t k=(σ.t k).drop c:=rfl
def XV(c:Nat)(y:aM)(n:Nat):((σ.drop c).root c y).m n=if n=c then some y else (σ.m n).map (aM.drop c):=by
 show bE (λr=>bif Nat.beq r c then none else (σ.m r).map (aM.drop c)) c (some y) n=_;by_cases C:n=c
 ·subst C;rw[bJ rfl,bF]
 ·rw[bx C,bZ _ _ _ C,nH C];rfl
def XW{c:Nat}(z:V)(F:jc x)(I:kR e u)(L:e≠c):((cw e x u σ).drop c).root c (.sl z)=cw e x u ((σ.drop c).root c (.sl z)):=by
 refine S.ext' (λk=>?_) λn=>?_
 ·rw[Rx,pT,pT,Rx];by_cases C:k=e
  ·rw[bJ C,bJ C];exact I.drop L
  ·rw[bx C,bx C];exact A.nG _ _ _
 ·rw[XV,nW,nW,XV];by_cases D:n=c
  ·rw[bJ D,bx,bJ D];rfl
  ·rw[bx D];by_cases E:n=e
   ·rw[bJ E,bJ E];simp only[Option.map_some,F.drop]
   ·rw[bx E,bx E,bx D,Option.map_map,Option.map_map];congr 1;funext y;exact aM.nG y _ _
def KU(C:jc x)(D:kR e u):∀ (xs:aa V) (c:Nat) (σ:S),e<c -> kK c (cw e x u σ) xs=cw e x u (kK c σ xs)
 |[],c,σ,_=>rfl
 | y :: xs,c,σ,h=>by
  simp[kK];cases E:y.aF with
  |true=>exact KU C D xs _ σ (by omega)
  | false=>
   rw[XW y C D (by omega)];exact KU C D xs _ _ (by omega)
def XX(C:jc x)(D:kR e u):∀ (ps:aa Pt) (c:Nat) (σ:S),e<c -> mC c (cw e x u σ) ps=cw e x u (mC c σ ps)
 |[],c,σ,_=>rfl
 | q :: ps,c,σ,h=>by
  simp[mC];rw[KU C D _ _ _ h];exact XX C D ps _ _ (by omega)
def KV{v:A}(D:d≠e)(E:v.drop e=v):(cw e x u σ).set d v=cw e x u (σ.set d v):=by
 refine S.ext' (λk=>?_) λn=>?_
 ·show bE (cw e x u σ).t d v k=_;rw[pT];show _=if k=e then u else (bE σ.t d v k).drop e;by_cases C:k=d
  ·subst C;rw[bF,bx D,bF,E]
  ·rw[bZ _ _ _ C,bZ _ _ _ C,pT]
 ·rfl
def ajM{v:A}{C:ah Tmp}(D:C≠some e)(E:v.drop e=v):fD (cw e x u σ) C v=cw e x u (fD σ C v):=by
 cases C with
 |none=>rfl
 |some d=>exact KV (by rintro rfl;exact D rfl) E
def ajN{ns cn:aa Nat}{nr:aa (Nat×aM)}(L:jc x)(O:kR e u)(E:cI e ns=false)(F:cI e cn=false)(I:∀ q∈nr,q.1≠e/\q.2.drop e=q.2):(cw e x u σ).cL ns cn nr=cw e x u (σ.cL ns cn nr):=by
 have hl:nr.lookup e=none:=by
  cases hl:nr.lookup e with
  |none=>rfl
  |some y=>exact absurd rfl (I _ (KN hl)).1
 refine S.ext' (λk=>?_) λn=>?_
 ·show ((cw e x u σ).t k).cL ns cn=_;rw[pT,pT];by_cases C:k=e
  ·rw[bJ C,bJ C];exact O.cL E F
  ·rw[bx C,bx C];exact A.nG _ _ _
 ·rw[nW];show (match nr.lookup n with | some x=>some x | none=>bif cI n ns || cI n cn then none else ((cw e x u σ).m n).map (aM.cL ns cn))=if n=e then some x else (match nr.lookup n with | some x=>some x | none=>bif cI n ns || cI n cn then none else (σ.m n).map (aM.cL ns cn)).map (aM.drop e);by_cases D:n=e
  ·subst D;rw[bJ rfl,hl,E,F];simp only[Bool.or_false,au,nW,if_true,Option.map_some,L.cL]
  ·rw[bx D];cases T:nr.lookup n with
   |some y=>simp only[Option.map_some];rw[(I _ (KN T)).2]
   | none=>
    simp only;cases (cI n ns ||cI n cn)with
    |true=>rfl
    | false=>
     simp only[au];rw[nW,bx D,Option.map_map,Option.map_map];congr 1;funext y;exact aM.nG y _ _
/-! What a call reads. -/
def XY{q:aa Nat}{k:V->ah X}(h:cF e q=false):iq (cw e x u σ).m q k=iq σ.m q k:=ajq q k h
def vp{y:Operand}(h:(aE σ y).nr p=true)(C:p e=true)(D:y ≠ .tmp e):aE (cw e x u σ) y=aE σ y:=by
 cases y with
 | tmp t=>
  show (cw e x u σ).t t=σ.t t;rw[pT,bx (by rintro rfl;exact D rfl)];exact A.xx h C
 |_=>rfl
def Ry{l:Lf}{k:V->ah X}(h:l.nr p=true)(C:p e=true):nK (cw e x u σ) l k=nK σ l k:=by
 cases l with
 |own q=>exact XY (Xa h C)
 |_=>rfl
def XZ{q:aa Nat}{s i j:Nat}{k:V->ah X}(h:mF p q=true)(C:p e=true):sZ (cw e x u σ) q s i j k=sZ σ q s i j k:=by
 unfold sZ;exact XY (Xa h C)
def ajO{y:A}{k:V->ah X}(h:y.nr p=true)(C:p e=true):qt (cw e x u σ) y k=qt σ y k:=by
 cases y with
 |lf l=>exact Ry h C
 |view q s i j=>exact XZ h C
 |_=>rfl
def Rz(C:p e=true):∀ (xs:aa Lf) (k:aa V -> ah X),xs.all (Lf.nr p)=true -> pq (cw e x u σ) xs k=pq σ xs k
 |[],k,_=>rfl
 | y :: xs,k,h=>by
  rw[List.all_cons,aH]at h;simp[pq,Ry h.1 C];congr 1;funext z;exact Rz C xs _ h.2
def ajP{y:A}{k:Pt->ah X}(h:y.nr p=true)(C:p e=true):mA (cw e x u σ) y k=mA σ y k:=by
 cases y with
 |lf l=>simp only[mA];exact Rz C _ _ (by rw[List.all_cons,show l.nr p=true from h];rfl)
 |agg cs=>simp only[mA];exact Rz C _ _ h
 |view q s i j=>simp only[mA];exact XZ h C
 |ij cs=>cases cs<;>rfl
 |_=>rfl
def X0(C:p e=true):∀ (xs:aa Operand) (k:aa Pt->ah X),(∀ y∈xs,(aE σ y).nr p=true/\y ≠ .tmp e)->qx (cw e x u σ) xs k=qx σ xs k
 |[],k,_=>rfl
 | y :: xs,k,h=>by
  obtain⟨D,E⟩:=h y (.head _);unfold qx tf;rw[vp D C E,ajP D C];congr 1;funext z;exact X0 C xs _ (λy F=>h y (.tail _ F))
def RB{ns:aa Nat}(C:p e=true):∀ (xs:aa Lf) (k:aa V -> ah X),xs.all (Lf.nr p)=true -> qC (cw e x u σ) ns xs k=qC σ ns xs k
 |[],k,_=>rfl
 | y :: xs,k,h=>by
  rw[List.all_cons,aH]at h;simp[qC,Ry h.1 C];congr 2;funext z;exact RB C xs _ h.2
def X1{d:Nat}:∀ (xs:aa Lf),oY (xs.map (Lf.drop d))=oY xs
 |[]=>rfl
 | x :: xs=>by
  have C:(x.drop d).pl=x.pl:=by
   cases x with
   | own k=>
    show (bif cF d k then _ else Lf.own k).pl=_;cases cF d k<;>rfl
   |_=>rfl
  simp[List.map_cons,oY,C,X1]
def ajQ{ns:aa Nat}{y:A}{k:Pt->ah X}(h:y.nr p=true)(C:p e=true):pI (cw e x u σ) ns y k=pI σ ns y k:=by
 cases y with
 |lf l=>simp only[pI];exact RB C _ _ (by rw[List.all_cons,show l.nr p=true from h];rfl)
 |agg cs=>simp only[pI];exact RB C _ _ h
 |lN f cs=>cases cs<;>rfl
 | fn f cap=>
  match cap,h with
  |[],_=>rfl
  |_::_::_,_=>rfl
  | [(D,j)],h=>
   have E:p D=false:=by simpa [A.nr,A.fr,rV]using h
   have F:D≠e:=by rintro rfl;rw[C]at E;cases E
   simp only[pI,nW,bx F];cases σ.m D with
   |none=>rfl
   | some z=>
    cases z with
    |blk cs=>simp only[Option.map_some,aM.FH,<-List.map_drop,X1]
    |_=>rfl
 |_=>rfl
def ajR{l:Lf}(h:l.nr p=true)(C:p e=true):tq (cw e x u σ).m l=tq σ.m l:=by
 cases l with
 | own k=>
  match k with
  |[]=>rfl
  | [q]=>
   have D:q≠e:=by
    have h:(!p q)=true:=by simpa [Lf.nr,Lf.fr,mF,gR]using h
    rintro rfl;rw[C]at h;cases h
   simp only[tq];rw[nW,bx D];cases σ.m q with
   |none=>rfl
   |some y=>cases y<;>rfl
  |_::_::_=>rfl
 |v x=>rfl
 |dead=>rfl
def X2(D:p e=true):∀ (C:aa Lf),C.all (Lf.nr p)=true -> pH (cw e x u σ).m C=pH σ.m C
 |[],_=>rfl
 | l :: C,h=>by
  rw[List.all_cons,aH]at h;simp[pH,ajR h.1 D,X2 D C h.2]
def X3{m:Nat->ah aM}:∀ {cs:aa Lf} {E:aa (V×ah Nat)},pH m cs=some E->cs.all (Lf.nr p)=true->∀ v∈E,∀ q,v.2=some q->p q=false
 |[],E,h,_=>by injection h with h;subst h;simp
 | c :: cs,E,h,F=>by
  rw[List.all_cons,aH]at F;unfold pH at h;split at h
  ·rename_i v T C L;injection h with h;subst h;intro u hu q D;rcases fH.1 hu with rfl | hu
   ·unfold tq at C;split at C
    ·injection C with C;rw[<-C]at D;cases D
    ·rename_i U;split at C
     ·rename_i y _;cases I:y.aF with
      |true=>rw[I]at C;injection C with C;rw[<-C]at D;cases D
      | false=>
       rw[I,au]at C;injection C with C;rw[<-C]at D;injection D with D;subst D;have O:=F.1
       simpa [Lf.nr,Lf.fr,mF,gR]using O
     ·cases C
    ·cases C
   ·exact X3 L F.2 u hu q D
  ·cases h
def KW(p:Nat->Bool):Mu->Prop
 |.blk r cs C=>p r=false/\cs.all (Lf.nr p)=true/\∀v∈C,∀q,v.2=some q->p q=false
 |.sl q _=>p q=false
def RC(F:p e=true):∀ (ps:aa PK) (xs:aa Operand) (I:aa Mu),(∀ y∈xs,(aE σ y).nr p=true/\y ≠ .tmp e)->(∀ n∈gJ σ ps xs,vm σ p n=true)->iC σ ps xs=some I->iC (cw e x u σ) ps xs=some I/\∀ C∈I,KW p C
 |[],[],I,_,_,h=>⟨h,by injection h with h;subst h;simp⟩
 |[],_::_,I,_,_,h=>by cases h
 |_::_,[],I,_,_,h=>by cases h
 | q :: ps,y :: xs,I,Z,hl,h=>by
  obtain⟨E,h2⟩:=Z y (.head _);have ES:∀ n∈gJ σ ps xs,vm σ p n=true:=by
   intro n U;refine hl n ?_;cases q with
   |v=>exact U
   |s=>exact U
   | p t g off=>
    simp only[gJ];split
    ·exact .tail _ U
    ·exact U
  unfold iC at h;have D:∀ z,tu σ q (aE σ y)=some z->tu (cw e x u σ) q (aE (cw e x u σ) y)=some z/\∀ C,z=some C->KW p C:=by
   intro z hz;rw[vp E F h2];have L:=tw hz;cases q with
   | v=>
    cases z with
    |some C=>exact L.elim
    |none=>exact⟨hz,by simp⟩
   | p t g off=>
    cases z with
    |none=>exact L.elim
    | some C=>
     cases C with
     |sl=>exact L.elim
     | blk T cs vs=>
      obtain⟨O,hm,hg,hlen⟩:=L;have fC:p T=false:=by
       rw[O]at E;have E:(!p T)=true:=E
       simpa using E
      have cS:T≠e:=by rintro rfl;rw[F]at fC;cases fC
      have Y:cs.all (Lf.nr p)=true:=by
       have:=hl T (by simp only[gJ,O];exact .head _);unfold vm at this;rw[hm]at this;exact this
      have rB:(cw e x u σ).m T=some (.blk cs):=by
       rw[nW,bx cS,hm];simp only[Option.map_some,aM.FH,oW.xx Y F]
      refine⟨?_,λC D=>?_⟩
      ·rw[O];simp only[tu,Nat.beq_refl,aj,rB,X2 F cs Y,hg];have:Nat.blt cs.length 999=true:=gP hlen;rw[this];rfl
      ·injection D with D;subst D;exact⟨fC,Y,X3 hg Y⟩
   | s t g=>
    cases z with
    |none=>exact L.elim
    | some C=>
     cases C with
     |blk=>exact L.elim
     | sl q y0=>
      obtain⟨O,hm,hf⟩:=L;have hq:p q=false:=by
       rw[O]at E;have E:(!p q)=true:=by simpa [A.nr,A.fr,rV,Lf.nr,Lf.fr,mF,gR]using E
       simpa using E
      have cS:q≠e:=by rintro rfl;rw[F]at hq;cases hq
      refine⟨?_,λC D=>?_⟩
      ·rw[O];simp only[tu];rw[nW,bx cS,hm];simp only[Option.map_some,aM.drop,hf,au,aM.cm]
      ·injection D with D;subst D;exact hq
  split at h
  ·rename_i C Kv k1 k2;injection h with h;subst h;obtain⟨g1,g2⟩:=D _ k1;obtain⟨f1,f2⟩:=RC F ps xs Kv (λy h=>Z y (.tail _ h)) ES k2
   refine⟨by simp only[iC,g1,f1],λm hm=>?_⟩
   rcases fH.1 hm with rfl|hm
   ·exact g2 _ rfl
   ·exact f2 m hm
  next Kv k1 k2=>injection h with h;subst h;obtain⟨g1,g2⟩:=D _ k1;obtain⟨f1,f2⟩:=RC F ps xs Kv (λy h=>Z y (.tail _ h)) ES k2;exact⟨by simp only[iC,g1,f1],f2⟩
  ·cases h
def KZ(D:p e=true)(ns:aa Nat):∀ (ps:aa PK) (xs:aa Operand) (C:aa Mu) (k:jE ps->ah X),(∀ y∈xs,(aE σ y).nr p=true/\y ≠ .tmp e)->iD (cw e x u σ) ns ps xs C k=iD σ ns ps xs C k
 |[],[],[],k,_=>rfl
 | .v b t :: ps,y :: xs,C,k,h=>by
  obtain⟨F,I⟩:=h y (.head _);simp only[iD];rw[vp F D I,ajQ F D];congr 1;funext z;congr 1;split
  ·exact KZ D ns ps xs C _ (λy E=>h y (.tail _ E))
  ·rfl
 | .p t g off :: ps,y :: xs,.blk L cs O :: C,k,h=>by
  simp only[iD];split
  ·exact KZ D ns ps xs C _ (λy E=>h y (.tail _ E))
  ·rfl
 | .s t g :: ps,y :: xs,.sl q T :: C,k,h=>by
  simp only[iD];split
  ·exact KZ D ns ps xs C _ (λy E=>h y (.tail _ E))
  ·rfl
 |[],[],_::_,k,_=>rfl
 |[],_::_,_,k,_=>rfl
 |.v _ _::_,[],_,k,_=>rfl
 |.p _ _ _::_,[],_,k,_=>rfl
 |.s _ _::_,[],_,k,_=>rfl
 |.p _ _ _::_,_::_,[],k,_=>rfl
 |.s _ _::_,_::_,[],k,_=>rfl
 |.p _ _ _::_,_::_,.sl _ _::_,k,_=>rfl
 |.s _ _::_,_::_,.blk _ _ _::_,k,_=>rfl
def RD{i:Nat}:∀ (C:aa (V×ah Nat)) (j:Nat),(∀ v∈C,∀ q,v.2=some q -> p q=false) -> ∀ u∈Ce i j C,p u.1=false
 |[],_,_,u,hu=>by cases hu
 |(y,none)::C,j,h,u,hu=>RD C (j+1) (λv D=>h v (.tail _ D)) u hu
 | (y,some q) :: C,j,h,u,hu=>by
  rcases fH.1 hu with rfl|hu
  ·simp_all
  ·exact RD C (j+1) (λv D=>h v (.tail _ D)) u hu
def RE:∀ (C:aa Mu) (i:Nat),(∀ E∈C,KW p E) -> ∀ u∈jF i C,p u.1=false
 |[],_,_,u,hu=>by cases hu
 | .blk O cs F :: C,i,h,u,hu=>by
  obtain⟨I,T,L⟩:=h _ (.head _);rcases fH.1 hu with rfl|hu
  ·exact I
  ·rcases List.mem_append.1 hu with hu | hu
   ·exact RD F 0 L u hu
   ·exact RE C _ (λm D=>h m (.tail _ D)) u hu
 | .sl q y :: C,i,h,u,hu=>by
  rcases fH.1 hu with rfl|hu
  ·exact h _ (.head _)
  ·exact RE C (i+1) (λm D=>h m (.tail _ D)) u hu
def RG{c0:Nat}(E:∀ n,c0 <= n -> p n=false):∀ (C:aa (V×ah Nat)) (n:Nat),(∀ v∈C,∀ q,v.2=some q -> p q=false) -> ∀ u∈kL c0 n C,p u=false
 |[],_,_,u,hu=>by cases hu
 | (y,none) :: C,n,h,u,hu=>by
  rcases fH.1 hu with rfl|hu
  ·simp_all
  ·exact RG E C (n+1) (λv D=>h v (.tail _ D)) u hu
 | (y,some q) :: C,n,h,u,hu=>by
  rcases fH.1 hu with rfl|hu
  ·simp_all
  ·exact RG E C (n+1) (λv D=>h v (.tail _ D)) u hu
def RH:∀ (C:aa Nat) (xs:aa V),∀ u∈tA C xs,u∈C
 |[],[],u,hu=>by cases hu
 | n :: C,y :: xs,u,hu=>by
  simp[tA]at hu;cases D:y.aF with
  |true=>rw[D]at hu;exact .tail _ (RH C xs u hu)
  | false=>
   rw[D]at hu;rcases fH.1 hu with rfl|hu
   ·simp_all
   ·exact .tail _ (RH C xs u hu)
def X4{ns cn:aa Nat}:∀ (C:aa Nat) (D:aa Lf) (xs:aa V),(∀ n∈C,p n=false)->D.all (Lf.nr p)=true->(nS ns cn C D xs).all (Lf.nr p)=true
 |[],_,_,_,_=>by simp[nS]
 |_::_,[],_,_,_=>by simp[nS]
 |_::_,_::_,[],_,_=>by simp[nS]
 | n :: C,l :: D,y :: xs,F,E=>by
  rw[List.all_cons,aH]at E;simp only[nS,List.all_cons,aH]
  refine⟨?_,X4 C D xs (λn I=>F n (.tail _ I)) E.2⟩
  cases y.plain with
  |true=>rfl
  | false=>
   simp only[au];cases y.aF with
   | true=>
    simp only[aj];cases l with
    | own k=>
     have L:Lf.cL ns cn (.own k)=(bif fh k cn ||(fh k ns && !(Nat.beq k.length 1))then .dead else .own k):=rfl;rw[L];cases (fh k cn ||(fh k ns && !(Nat.beq k.length 1)))with
     |true=>rfl
     |false=>exact E.1
    |v x=>rfl
    |dead=>rfl
   | false=>
    show (!p n)=true;rw[F n (.head _)];rfl
def RI:∀ (C:aa Nat) (xs:aa V),∀ u∈rT C xs,u.1∈C /\ ∃ y,u.2 = .sl y
 |[],[],u,hu=>by cases hu
 |[],_::_,u,hu=>by cases hu
 | n :: C,y :: xs,u,hu=>by
  simp[rT]at hu;cases F:y.aF with
  |true=>rw[F]at hu;obtain⟨D,E⟩:=RI C xs u hu;exact⟨.tail _ D,E⟩
  | false=>
   rw[F]at hu;rcases fH.1 hu with rfl|hu
   ·simp_all
   ·obtain⟨D,E⟩:=RI C xs u hu;exact⟨.tail _ D,E⟩
def RJ{c0:Nat}{ns cn:aa Nat}(E:p e=true)(L:∀ n,c0<=n->p n=false):∀ (D:aa Mu) (outs:aa In) (C:Nat),(∀ mu∈D,KW p mu)->(∀ u∈lX c0 C D outs,p u=false)/\∀ u∈jG ns cn c0 C D outs,u.1≠e/\u.2.drop e=u.2
 |[],outs,C,_=>⟨(λu hu=>by simp[lX]at hu),(λu hu=>by simp[jG]at hu)⟩
 |.blk _ _ _::_,[],C,_=>⟨(λu hu=>by cases hu),(λu hu=>by cases hu)⟩
 |.sl _ _::_,[],C,_=>⟨(λu hu=>by cases hu),(λu hu=>by cases hu)⟩
 |.blk _ _ _::_,.sl _::_,C,_=>⟨(λu hu=>by cases hu),(λu hu=>by cases hu)⟩
 |.sl _ _::_,.blk _::_,C,_=>⟨(λu hu=>by cases hu),(λu hu=>by cases hu)⟩
 | .blk r' cs Y :: D,.blk xs :: outs,C,h=>by
  obtain⟨F,h2,h3⟩:=h _ (.head _);obtain⟨O,I⟩:=RJ (ns:=ns) (cn:=cn) E L D outs (C+1+Y.length) (λm T=>h m (.tail _ T));have Z:∀n,p n=false->n≠e:=by rintro n hn rfl;rw[E]at hn;cases hn
  have U:=RG L Y (C+1) h3
  refine⟨λu hu=>?_,λu hu=>?_⟩
  ·simp only[lX]at hu;rcases List.mem_append.1 hu with hu | hu
   ·exact U u (RH _ _ u hu)
   ·exact O u hu
  ·simp only[jG]at hu;rcases fH.1 hu with rfl | hu
   ·refine⟨Z _ F,?_⟩;rw[aM.FH,oW.xx (X4 _ _ _ U h2) E]
   ·rcases List.mem_append.1 hu with hu | hu
    ·obtain⟨g1,y,g2⟩:=RI _ _ u hu;exact⟨Z _ (U _ g1),by rw[g2];rfl⟩
    ·exact I u hu
 | .sl q y :: D,.sl y' :: outs,C,h=>by
  have F:p q=false:=h _ (.head _);obtain⟨O,I⟩:=RJ (ns:=ns) (cn:=cn) E L D outs (C+1) (λm T=>h m (.tail _ T))
  refine⟨λu hu=>O u (by simpa [lX]using hu),λu hu=>?_⟩
  simp only[jG]at hu;cases hy:y'.iW with
  |false=>rw[hy]at hu;exact I u hu
  |true=>
  rw[hy]at hu;rcases fH.1 hu with rfl|hu
  ·exact⟨(by rintro rfl;rw[E]at F;cases F),rfl⟩
  ·exact I u hu
def RL:∀ (xs:aa V) (c:Nat),e<c->(mB c xs).map (Lf.drop e)=mB c xs
 |[],_,_=>rfl
 | y :: xs,c,h=>by
  simp only[mB,List.map_cons];rw[RL xs (c+1) (by omega)];cases y.aF with
  |true=>rfl
  | false=>
   have:cF e [c]=false:=by simp[cF];omega
   simp only[au,Lf.drop,this,Lf.cm]
def ajS{b:Bool}{xs:aa Lf}{y:A}(h:wV (b,xs)=some y)(C:xs.map (Lf.drop e)=xs):y.drop e=y:=by
 unfold wV at h;split at h
 next D=>injection h with h;subst h;obtain⟨_,rfl⟩:=D;exact bu A.agg C
 next z D=>injection h with h;subst h;obtain⟨_,rfl⟩:=D;simp at C;exact bu A.lf C
 ·cases h
def X5:∀ (ps:aa Pt) (c:Nat),e<c->(qy c ps).map (λq=>(q.1,q.2.map (Lf.drop e)))=qy c ps
 |[],_,_=>rfl
 | q :: ps,c,h=>by
  simp only[qy,List.map_cons];rw[RL _ _ h,X5 ps _ (by omega)]
def ajT(ps:aa Pt)(c:Nat)(h:e<c):A.drop e (.ez (qy c ps)) = .ez (qy c ps):=bu A.ez (X5 ps c h)
def X6(C:jc x)(D:kR e u)(O:e<20000)(E:d≠e){F:fq}{I:S}(h:lR σ d F some=some I):lR (cw e x u σ) d F some=some (cw e x u I):=by
 unfold lR at h ⊢;split at h
 ·split at h
  next y L=>injection h with h;subst h;rw[KU C D _ _ _ (by omega),KV E (ajS L (RL _ _ (by omega)))]
  ·cases h
 ·injection h with h;subst h;rw[XX C D _ _ _ (by omega),KV E (ajT _ _ (by omega))]
def ajU(I:jc x)(L:kR e u)(O:e<20000){C:ah Tmp}(T:C≠some e){E:fq}{D:S}(h:ox N σ C E some=some D):ox N (cw e x u σ) C E some=some (cw e x u D):=by
 cases C with
 | none=>
  have h:some σ=some D:=h;injection h with h;rw[<-h];rfl
 | some d=>
  unfold ox at h ⊢;cases F:Nat.blt d N with
  |false=>simp only[F,au]at h;cases h
  | true=>
   simp only[F,aj]at h ⊢;exact X6 I L O (by rintro rfl;exact T rfl) h
def ajV(dH:fj P Φ)(Z:jc x)(U:kR e u)(he:e<20000)(O:p e=true)(FP:∀ n,20000<=n->p n=false)(C:lY Φ o=true)(hd:o.dst≠some e)(qK:∀ y∈o.op.operands,(aE σ y).nr p=true/\y ≠ .tmp e)(hl:∀ n∈nT Φ σ o,vm σ p n=true){τ:S}
  (h:cU P N Φ σ o some=some τ):cU P N Φ (cw e x u σ) o some=some (cw e x u τ):=by
 have xP:∃ f args iO,o.op = .call { callee:=.value (.func f),args:=args,argTypes:=iO }:=by
  unfold lY at C;split at C
  ·exact⟨_,_,_,by assumption⟩
  ·cases C
 obtain⟨f,args,iO,D⟩:=xP;have nQ:∀ y∈args.toList,(aE σ y).nr p=true/\y ≠ .tmp e:=by
  intro y hy;refine qK y ?_;rw[D];simp only[Op.operands,Call.operands];simp only[Array.mem_append]
  first
   |exact .inr (by simpa using hy)
   |exact .inl (by simpa using hy)
 have dZ:∀ σ2,cU P N Φ σ2 o some=gz P N Φ σ2 o some:=by
  intro σ2;unfold cU;rw[show eY o.op=false by rw[D];rfl,au]
 rw[dZ]at h ⊢;cases I:Φ f with
 |none=>simp only[gz,D,I]at h;cases h
 | some c=>
  cases c with
  |n F=>rw[lY,D]at C;simp[I]at C
  |v c=>rw[lY,D]at C;simp[I]at C
  |i c=>rw[lY,D]at C;simp[I]at C
  |d c=>rw[lY,D]at C;simp[I]at C
  |q c=>rw[lY,D]at C;simp[I]at C
  |c c=>rw[lY,D]at C;simp[I]at C
  | p c=>
   simp only[gz,D,I]at h ⊢;obtain⟨d,Y,h⟩:=iE h;have hde:d≠e:=by rintro rfl;exact hd Y
   obtain⟨res,qw,h1,E,h3⟩:=Kl (FJ dH I) Co h;injection E with E;subst E;simp only[fM,Y];exact(h3 (cw e x u σ) (cw e x u qw) (λX k=>qx (cw e x u σ) args.toList k) (λX k=>X0 O _ k nQ) (X6 Z U he hde h1)).at_ _
  | m c=>
   simp only[gz,D,I]at h ⊢;have xw:∀ n∈gJ σ c.ps args.toList,vm σ p n=true:=by
    intro n T;refine hl n ?_;simp only[nT,D,I];exact T
   unfold mE at h;split at h
   ·rename_i L rU;obtain⟨g1,g2⟩:=RC (x:=x) (u:=u) O c.ps args.toList L nQ xw rU;cases kf:(once (jF 0 L)&&Nat.ble L.length 40)with
    |false=>rw[kf]at h;cases h
    | true=>
     rw[kf,aj]at h;obtain⟨z,E,X7⟩:=(Kr _ _ _).jV h;simp only[mE,g1,kf,aj];rw[KZ O _ _ _ _ _ nQ];refine(X7 S _).trans ?_;split at E
     ·rename_i y hy;unfold Ch at E ⊢;generalize nP:lX (gy o.dst) (ek c.ro y.1).len L (gU (dP c.ps) y.2)=cn at E;generalize gV:Cg N L (gU (dP c.ps) y.2) cn=ok at E;cases ok with
      |false=>cases E
      | true=>
       rw[aj]at E;have rO:∀ n,gy o.dst<=n->p n=false:=by
        intro n T;refine FP n ?_;cases Y:o.dst with
        |none=>rw[Y]at T;simp only[gy]at T;omega
        |some d=>rw[Y]at T;simp only[gy]at T;omega
       obtain⟨k1,k2⟩:=RJ (ns:=(jF 0 L).map (·.1)) (cn:=cn) O rO L (gU (dP c.ps) y.2) (ek c.ro y.1).len g2;rw[nP]at k1;rw[aj,ajN Z U ?_ ?_ k2]
       ·exact ajU Z U he hd E
       ·cases hm:cI e ((jF 0 L).map (·.1))with
        |false=>rfl
        | true=>
         obtain⟨u,U,e1⟩:=List.mem_map.1 (rP.1 hm);have:=RE L 0 g2 u U;rw[e1,O]at this;cases this
       ·cases hm:cI e cn with
        |false=>rfl
        |true=>have:=k1 e (rP.1 hm);rw[O]at this;cases this
     ·cases E
   ·cases h
def A.X8{y:A}(h:y.eY=true)(K:lO):y.cm K=y:=by
 refine A.nE ?_;cases y with
 |lf l=>cases l<;>first|rfl|cases h
 | agg cs=>
  refine bW.2 λl hl=>?_
  have:=bW.1 h l hl;cases l<;>first|rfl|cases this
 |_=>cases h
def A.K0{y:A}(h:y.eY=true)(n:Nat):y.drop n=y:=A.X8 h _
def A.ajW{y:A}(h:y.eY=true)(ns cn:aa Nat):y.cL ns cn=y:=A.X8 h _
def RM:∀ (xs:aa V) (c:Nat) (σ:S) {t:Nat},(σ.t t).eY=true -> (kK c σ xs).t t=σ.t t
 |[],c,σ,t,h=>rfl
 | y :: xs,c,σ,t,h=>by
  simp[kK];cases y.aF with
  |true=>exact RM xs _ σ h
  | false=>
   simp;have C:(((σ.drop c).root c (.sl y)).t t)=σ.t t:=by rw[Rx];exact A.K0 h c
   rw[RM xs _ _ (by rw[C];exact h),C]
def X9:∀ (ps:aa Pt) (c:Nat) (σ:S) {t:Nat},(σ.t t).eY=true -> (mC c σ ps).t t=σ.t t
 |[],c,σ,t,h=>rfl
 | q :: ps,c,σ,t,h=>by
  simp[mC];have C:=RM q.2 c σ h;rw[X9 ps _ _ (by rw[C];exact h),C]
def Ya{D:fq}{C:S}(h:lR σ d D some=some C){t:Nat}(E:(σ.t t).eY=true)(F:t≠d):C.t t=σ.t t:=by
 obtain⟨ps,u,I⟩:=Re h;rw[I]at h;injection h with h;rw[<-h];exact(bZ _ _ _ F).trans (X9 _ _ _ E)
def ajX{C:ah Tmp}{F:fq}{D:S}(h:ox N σ C F some=some D){t:Nat}(I:(σ.t t).eY=true)(L:C≠some t):D.t t=σ.t t:=by
 cases C with
 | none=>
  have h:some σ=some D:=h;injection h with h;rw[<-h]
 | some d=>
  unfold ox at h;cases E:Nat.blt d N with
  |false=>simp only[E,au]at h;cases h
  | true=>
   simp only[E,aj]at h;exact Ya h I (by rintro rfl;exact L rfl)
def ajY(dH:fj P Φ)(C:lY Φ o=true){T:S}(h:cU P N Φ σ o some=some T){t:Nat}(O:(σ.t t).eY=true)(U:o.dst≠some t):T.t t=σ.t t:=by
 have xP:∃ f args Y,o.op = .call { callee:=.value (.func f),args:=args,argTypes:=Y }:=by
  unfold lY at C;split at C
  ·exact⟨_,_,_,by assumption⟩
  ·cases C
 obtain⟨f,args,Y,E⟩:=xP;have dZ:cU P N Φ σ o some=gz P N Φ σ o some:=by
  unfold cU;rw[show eY o.op=false by rw[E];rfl,au]
 rw[dZ]at h;cases I:Φ f with
 |none=>simp only[gz,E,I]at h;cases h
 | some c=>
  cases c with
  |n F=>rw[lY,E]at C;simp[I]at C
  |v c=>rw[lY,E]at C;simp[I]at C
  |i c=>rw[lY,E]at C;simp[I]at C
  |d c=>rw[lY,E]at C;simp[I]at C
  |q c=>rw[lY,E]at C;simp[I]at C
  |c c=>rw[lY,E]at C;simp[I]at C
  | p c=>
   simp only[gz,E,I]at h;obtain⟨d,pR,h⟩:=iE h;obtain⟨res,qw,h1,D,h3⟩:=Kl (FJ dH I) Co h;injection D with D;subst D;exact Ya h1 O (by rintro rfl;exact U pR)
  | m c=>
   simp only[gz,E,I]at h;unfold mE at h;split at h
   ·rename_i L rU;cases Z:(once (jF 0 L)&&Nat.ble L.length 40)with
    |false=>rw[Z]at h;cases h
    | true=>
     rw[Z,aj]at h;obtain⟨z,D,X7⟩:=(Kr _ _ _).jV h;split at D
     ·rename_i y hy;unfold Ch at D;generalize Cg N L (gU (dP c.ps) y.2) (lX (gy o.dst) (ek c.ro y.1).len L (gU (dP c.ps) y.2))=ok at D;cases ok with
      |false=>cases D
      | true=>
       rw[aj]at D;have e1:∀ns cn nr,(σ.cL ns cn nr).t t=σ.t t:=λns cn nr=>A.ajW O ns cn
       have:=ajX (t:=t) D (by rw[e1];exact O) U;rw[this,e1]
     ·cases D
   ·cases h
def ajZ{E:Nat}{F:aM}{I:A}(L:jc x)(O:kR e u)(T:jc F)(U:kR E I)(h:e≠E):cw E F I (cw e x u σ)=cw e x u (cw E F I σ):=by
 refine S.ext' (λk=>?_) λn=>?_
 ·simp only[pT];by_cases C:k=E
  ·subst C;rw[bJ rfl,bx (Ne.symm h),bJ rfl,U.drop (Ne.symm h)]
  ·rw[bx C];by_cases D:k=e
   ·subst D;rw[bJ rfl,bJ rfl,O.drop h]
   ·rw[bx D,bx D,bx C,A.Rw]
 ·simp only[nW];by_cases C:n=E
  ·subst C;rw[bJ rfl,bx (Ne.symm h),bJ rfl,Option.map_some,T.drop]
  ·rw[bx C];by_cases D:n=e
   ·subst D;rw[bJ rfl,bJ rfl,Option.map_some,L.drop]
   ·rw[bx D,bx D,bx C];cases σ.m n with
    |none=>rfl
    |some y=>simp only[Option.map_some,aM.Rw]
def aj0(I:jc x)(L:kR e u)(O:p e=true)(T:mG o=true)(U:o.dst≠some e)(C:∀ y∈o.op.operands,(aE σ y).nr p=true/\y ≠ .tmp e){D:S}
  (h:cU P N Φ σ o some=some D):cU P N Φ (cw e x u σ) o some=some (cw e x u D):=by
 obtain⟨Y,x',u',Z,J6,jW,s5,gW,nU⟩:=KP (o:={ o with guard:=none }) (ops:=#[]) T rfl h;have cS:e≠Y:=by rintro rfl;exact U Z
 have E:=nU (cw e x u σ) rfl λy F=>vp (C y F).1 O (C y F).2
 rw[ajZ I L jW s5 cS,<- gW]at E;exact E
def aj1(D:mG o=true){C:S}(h:cU P N Φ σ o some=some C){t:Nat}(E:(σ.t t).eY=true)(F:o.dst≠some t):C.t t=σ.t t:=by
 obtain⟨I,U,Y,L,Z,jW,s5,O,nU⟩:=KP (o:={ o with guard:=none }) (ops:=#[]) D rfl h;have T:t≠I:=by rintro rfl;exact F L
 rw[O,pT,bx T,A.K0 E]
def aj2(Y:jc x)(Z:kR e u)(C:p e=true)(hm:isApp o=true)(hd:o.dst≠some e)(I:∀ y∈o.op.operands,(aE σ y).nr p=true/\y ≠ .tmp e){L:S}
  (h:cU P N Φ σ o some=some L):cU P N Φ (cw e x u σ) o some=some (cw e x u L):=by
 obtain⟨a,b,t,t',F,hn,lQ,hk⟩:=Rr hm;have E:=I a (by rw[F];simp[Op.operands,Call.operands]);have hb:=I b (by rw[F];simp[Op.operands,Call.operands]);rw[FM F hn lQ hk]at h ⊢;obtain⟨d,O,h⟩:=iE h;obtain⟨r,v,gW,hr,nU⟩:=KQ h;have T:d≠e:=by rintro rfl;exact hd O
 have U:r≠e:=by
  rcases hr with h1|h1
  ·rw[h1];exact T
  ·rintro rfl;have D:=E.1;rw[h1]at D;simp[A.nr,A.fr,rV,Lf.nr,Lf.fr,mF,gR,C]at D
 unfold fM;rw[O];simp only;rw[vp E.1 C E.2,vp hb.1 C hb.2,nU (cw e x u σ) (λk=>ajO hb.1 C) (λr' v' fC rB=>?_)]
 ·rw[XW v Y Z (Ne.symm U),KV T ?_,gW];have:cF e [r]=false:=by simp[cF,U]
  simp only[A.drop,Lf.drop,this,au,A.cm,uI,Lf.cm]
 ·have cS:r'≠e:=by
   rintro rfl;have D:=E.1;rw[fC]at D;simp[A.nr,A.fr,rV,Lf.nr,Lf.fr,mF,gR,C]at D
  rw[nW,bx cS,rB];rfl
def aj3(D:isApp o=true){C:S}(h:cU P N Φ σ o some=some C){t:Nat}(E:(σ.t t).eY=true)(F:o.dst≠some t):C.t t=σ.t t:=by
 obtain⟨a,b,t1,t2,I,L,O,T⟩:=Rr D;rw[FM I L O T]at h;obtain⟨d,U,h⟩:=iE h;obtain⟨r,v,Y,hr,nU⟩:=KQ h;have Z:t≠d:=by rintro rfl;exact F U
 rw[Y];show bE ((σ.drop r).root r _).t d _ t=_;rw[bZ _ _ _ Z];exact A.K0 E r
def Yb(C:∃ ty t y,o.op = .store ty (.tmp t) y/\o.dst=none /\ ∃ r j,σ.t t = .aI r j){F:S}(h:cU P N Φ σ o some=some F):∃ t y r j cs xs,o.op.operands = #[.tmp t,y]/\σ.t t = .aI r j/\(aE σ y).wT=some xs/\σ.m r=some (.blk cs)/\F=σ.root r (.blk (cP cs j xs)) /\
  ∀(σ2:S) (D:aa Lf),σ2.t t = .aI r j -> aE σ2 y=aE σ y -> σ2.m r=some (.blk D) -> D.length=cs.length -> cU P N Φ σ2 o some=some (σ2.root r (.blk (cP D j xs))):=by
 obtain⟨ty,t,y,C,T,r,j,I⟩:=C;have L:∀ σ2:S,σ2.t t = .aI r j -> cU P N Φ σ2 o some=ou P σ2 ty (.aI r j) (aE σ2 y) some:=by
  intro σ2 E;unfold cU;rw[show eY o.op=false by rw[C];rfl,au];simp[gz,C,T];have U:aE σ2 (.tmp t) = .aI r j:=E;rw[U,show vi _ _=false from rfl,au]
 rw[L σ I]at h;unfold ou at h;split at h
 ·rename_i n xs Y O;split at h
  ·rename_i hlen;simp only at h;split at h
   ·rename_i cs Z;split at h
    ·rename_i hj;cases hl:xs.all Lf.live with
     |false=>simp_all
     | true=>
      rw[hl,aj]at h;injection h with h
      refine⟨t,y,r,j,cs,xs,by rw[C];rfl,I,O,Z,h.symm,λσ2 D h1 E h3 h4=>?_⟩
      rw[L σ2 h1,E];simp only[ou,Y,O,bJ hlen,h3];rw[bJ (by rw[h4];exact hj),hl];rfl
    ·cases h
   ·cases h
  ·cases h
 ·cases h
def Yc(C:FE o=true)(E:vl σ o=true):∃ ty t y,o.op = .store ty (.tmp t) y/\o.dst=none /\ ∃ r j,σ.t t = .aI r j:=by
 unfold FE at C;rw[aH]at C;obtain⟨D,F⟩:=C;split at D
 ·rename_i ty t y I;refine⟨ty,t,y,I,Option.isNone_iff_eq_none.1 F,?_⟩;unfold vl at E
  grind
 ·cases D
def aj4{y:A}{xs:aa Lf}(h:y.wT=some xs)(C:y.nr p=true):xs.all (Lf.nr p)=true:=by
 cases y with
 |lf l=>injection h with h;subst h;rw[List.all_cons,show l.nr p=true from C];rfl
 |agg cs=>injection h with h;subst h;exact C
 |_=>cases h
def aj5(hx:jc x)(hu:kR e u)(C:p e=true)(Z:FE o=true)(hs:vl σ o=true)(I:∀ y∈o.op.operands,(aE σ y).nr p=true/\y ≠ .tmp e){L:S}
  (h:cU P N Φ σ o some=some L):cU P N Φ (cw e x u σ) o some=some (cw e x u L):=by
 obtain⟨t,y,r,j,cs,xs,O,T,g3,g4,g5,g6⟩:=Yb (Yc Z hs) h;have D:=I (.tmp t) (by rw[O];simp);have E:=I y (by rw[O];simp);have e1:(cw e x u σ).t t = .aI r j:=(vp D.1 C D.2).trans T;have U:r≠e:=by
  have Y:(aE σ (.tmp t)).nr p=true:=D.1;have h3:aE σ (.tmp t) = .aI r j:=T;rw[h3]at Y;exact ajr Y C
 have e3:(cw e x u σ).m r=some (.blk (cs.map (Lf.drop e))):=by
  rw[nW,bx U,g4];rfl
 have oZ:=oW.xx (aj4 g3 E.1) C;rw[g6 (cw e x u σ) _ e1 (vp E.1 C E.2) e3 (by rw[eE]),g5];congr 1
 refine S.ext' (λk=>?_) λn=>?_
 ·show (cw e x u σ).t k=(cw e x u (σ.root r (.blk (cP cs j xs)))).t k;rw[pT,pT];rfl
 ·show bE (cw e x u σ).m r (some (.blk (cP (cs.map (Lf.drop e)) j xs))) n=(cw e x u (σ.root r (.blk (cP cs j xs)))).m n;rw[nW];by_cases F:n=r
  ·subst F;rw[bF,bx U];show _=(bE σ.m n (some (aM.blk (cP cs j xs))) n).map (aM.drop e);rw[bF];simp only[Option.map_some,aM.FH,cP,jP,List.map_take,List.map_drop,oZ]
  ·rw[bZ _ _ _ F,nW];have:(σ.root r (.blk (cP cs j xs))).m n=σ.m n:=bZ _ _ _ F;rw[this]
def aj6(D:FE o=true)(E:vl σ o=true){C:S}(h:cU P N Φ σ o some=some C)(t:Nat):C.t t=σ.t t:=by
 obtain⟨_,_,r,j,cs,xs,_,_,_,_,F,_⟩:=Yb (Yc D E) h;rw[F];rfl
def aj7(T:fj P Φ)(C:jc x)(D:kR e u)(U:e<20000)(E:p e=true)(Y:∀ n,20000<=n->p n=false)(I:FF Φ o=true)(Z:vl σ o=true)(L:o.dst≠some e)(F:∀ y∈o.op.operands,(aE σ y).nr p=true/\y ≠ .tmp e)(hl:∀ n∈nT Φ σ o,vm σ p n=true){O:S}
  (h:cU P N Φ σ o some=some O):cU P N Φ (cw e x u σ) o some=some (cw e x u O):=by
 unfold FF at I;rw[dA,dA,dA]at I;rcases I with ((hc|hc)|hc)|hc
 ·exact ajV T C D U E Y hc L F hl h
 ·exact aj0 C D E hc L F h
 ·exact aj2 C D E hc L F h
 ·exact aj5 C D E hc Z F h
def aj8(I:fj P Φ)(C:FF Φ o=true)(L:vl σ o=true){F:S}(h:cU P N Φ σ o some=some F){t:Nat}(D:(σ.t t).eY=true)(E:o.dst≠some t):F.t t=σ.t t:=by
 unfold FF at C;rw[dA,dA,dA]at C;rcases C with ((hc|hc)|hc)|hc
 ·exact ajY I hc h D E
 ·exact aj1 hc h D E
 ·exact aj3 hc h D E
 ·exact aj6 hc L h t
def Yd{i W j:Nat}{C:Oper}(D:ops[j]?=some C)(h:FB ops i W j=true):∃ e∈C.after,Region.binds .any e=true/\(e.on=i\/W.testBit e.on=true):=by
 unfold FB at h;rw[D]at h;obtain⟨e,E,hb⟩:=List.any_eq_true.1 h;rw[aH,dA]at hb
 refine⟨e,by simpa using E,hb.1,hb.2.imp (λh=>cv h) id⟩
def RN{g:Oper -> Bool}{C:Oper}{i L W:Nat}:∀ (n j:Nat),FC g ops C i L W n j=true -> ∀ k,j <= k -> k<j+n -> k=i \/ L.testBit k=true \/ (W.testBit k=true/\FB ops i W k=true) \/ (W.testBit k=false /\ ∀ ok,ops[k]?=some ok -> g ok=true/\C.apart ops ok=true)
 |0,j,_,k,D,E=>by omega
 | n+1,j,h,k,D,E=>by
  unfold FC at h;rw[aH,dA,dA]at h;by_cases F:k=j
  ·subst F;rcases h.1 with (h | h) | h
   ·exact .inl (cv h)
   ·exact .inr (.inl h)
   ·grind
  ·exact RN n (j+1) h.2 k (by omega) (by omega)
def nX{g:Oper -> Bool}{i L W:Nat}:∀ (n j:Nat) (k:Nat),j <= k -> k<j+n -> k≠i -> L.testBit k=false -> W.testBit k=false -> ∀ ok,ops[k]?=some ok -> g ok=true -> gq g ops i L W n j=true
 |0,j,k,C,D,_,_,_,_,_,_=>by omega
 | n+1,j,k,C,D,hi,E,F,ok,I,O=>by
  unfold gq;rw[dA];by_cases T:k=j
  ·subst T;refine .inl ?_;have hb:Nat.beq k i=false:=by
    cases hb:Nat.beq k i with
    |false=>rfl
    |true=>simp_all
   simp_all
  ·exact .inr (nX n _ k (by omega) (by omega) hi E F ok I O)
def Ye{g:Oper -> Bool}{i L W:Nat}:∀ (n j:Nat),gq g ops i L W n j=true -> ∃ k ok,ops[k]?=some ok/\k≠i/\L.testBit k=false/\W.testBit k=false/\g ok=true
 |0,j,h=>by cases h
 | n+1,j,h=>by
  unfold gq at h;rw[dA]at h;rcases h with h|h
  ·rw[aH,gi,oe,oe]at h;obtain⟨⟨⟨D,E⟩,F⟩,C⟩:=h;split at C
   next ok I=>exact⟨j,ok,I,(by rintro rfl;rw[Nat.beq_refl]at D;cases D),E,F,C⟩
   ·cases C
  ·exact Ye n _ h
theorem aj9[Inhabited Wd]{L i:Nat}{k:S -> ah X}(E:eY o.op=true \/ fk σ ops o=some false)(F:QZ σ (xF Φ ops i L (waits ops i ops.size 0 0) σ) (Aa σ ops i L (waits ops i ops.size 0 0)) o=true)(h:FD P N Φ ops L i σ o k=some r):
  ∃v,k (fD σ o.dst v)=some r/\kQ P ops o (xF Φ ops i L (waits ops i ops.size 0 0) σ) (Aa σ ops i L (waits ops i ops.size 0 0)) v σ /\ ∀σ:S,gk N σ o.dst v some=some (fD σ o.dst v):=by
 unfold FD at h;unfold QZ at F;rw[aH]at F;split at h
 ·rename_i C;obtain⟨v,D,Y,_⟩:=Q3 (w0:=default) (N:=N) h;cases I:v.mH _ _ with
  |false=>rw[I]at D;cases D
  | true=>
   rw[I,aj]at D;obtain⟨O,T⟩:=qJ D;have E:=E.resolve_right (by rw[C];simp)
   refine⟨v,O,.inl ⟨C,E,Y,λy U=>bW.1 F.1 y (by simpa using U),I,λt y r j e U=>?_⟩,λσ=>(T σ).at_ _⟩
   simp_all
 next C=>obtain⟨O,T⟩:=qJ h;exact⟨.skip,O,.inr ⟨C,rfl⟩,λσ=>(T σ).at_ _⟩
 ·cases h
def Cy{i L W n:Nat}(h:xE Φ ops i L W σ n=true):xF Φ ops i L W σ n=true:=by unfold xF;rw[h];rfl
def aka{i L W:Nat}(h:Ev Φ ops i L W σ o=true):∃ ty t y,o.op = .store ty (.tmp t) y/\o.dst=none/\KF Φ ops i L W σ t=true/\(∀ k,σ.t t ≠ .ptr k) /\ ∀ r j,σ.t t = .aI r j -> xD σ o=[r]:=by
 unfold Ev at h;split at h
 ·rename_i ty t y C;rw[aH,aH]at h
  refine⟨ty,t,y,C,by simpa using h.1.1,h.1.2,λk E=>?_,λr j D=>by simp[xD,C,D]⟩
  simp_all
 ·cases h
def akb{i L W:Nat}(h:QX Φ ops i L W o=true):∃ x y t C,o.op = .call ⟨.builtin .append,⟨[.tmp x,y]⟩,⟨[t,C]⟩⟩/\kN Φ ops i L W x=true/\(oA t=false/\Nat.beq t C=true/\zY o.dst t (.tmp x)=false):=by
 unfold QX at h
 grind
def akc{i L W:Nat}(h:QW Φ ops i L W σ o=true):∃ f args C c,o.op = .call { callee:=.value (.func f),args:=args,argTypes:=C } /\ Φ f=some (.m c)/\KB c=true/\qI (λt r=>!gq (jb t) ops i L W ops.size 0 && !gq (λok=>dX ok r) ops i L W ops.size 0 && !gq isApp ops i L W ops.size 0) σ c.ps args.toList=true/\nT Φ σ o=gJ σ c.ps args.toList:=by
 unfold QW at h;split at h
 ·rename_i f args C D;split at h
  next c E=>rw[aH]at h;exact⟨f,args,C,c,D,E,h.1,h.2,by simp[nT,D,E]⟩
  ·cases h
 ·cases h
def FQ{p:Nat -> Bool}:∀ (ps:aa PK) (xs:aa Operand),(∀ x∈xs,(aE σ x).nr p=true) -> ∀ n∈gJ σ ps xs,p n=false
 |[],[],_,n,hn=>by cases hn
 |.v _ _::ps,x::xs,h,n,hn=>FQ ps xs (λy C=>h y (.tail _ C)) n hn
 |.s _ _::ps,x::xs,h,n,hn=>FQ ps xs (λy C=>h y (.tail _ C)) n hn
 | .p _ _ _ :: ps,x :: xs,h,n,hn=>by
  simp[gJ]at hn;split at hn
  ·rename_i F j E;rcases fH.1 hn with rfl | hn
   ·have D:=h x (.head _);rw[E]at D;have D:(!p n)=true:=D
    simpa using D
   ·exact FQ ps xs (λy C=>h y (.tail _ C)) n hn
  ·exact FQ ps xs (λy C=>h y (.tail _ C)) n hn
def K1{D:ah Tmp}{g:Bool}{k:S -> ah X}(h:qH σ D g k=some r):k σ=some r:=by
 unfold qH at h;cases g with
 |false=>exact h
 | true=>
  rw[aj]at h;split at h
  ·rename_i d;split at h
   ·rename_i b hb;have:∀ c,b=c -> σ.set d (.lf (.v (.bool c)))=σ:=by
     rintro c rfl
     refine S.ext' (λk=>?_) λ_=>rfl
     show bE _ _ _ _=_;by_cases C:k=d
     ·subst C;rw[bF,hb]
     ·rw[bZ _ _ _ C]
    grind
   ·exact h
  ·exact h
def Yf{L j:Nat}(h:ki ops L j=true):j<ops.size:=by
 obtain⟨_,o,C,_⟩:=FN.1 h
 grind
def Af{L j:Nat}:j∈(List.range ops.size).filter (ki ops L) ↔ ki ops L j=true:=by
 rw[List.mem_filter,eJ];exact⟨λh=>h.2,λh=>⟨Yf h,h⟩⟩
structure Yg (ops:Array Oper) (p:Nat->Bool) (σ:S) (o:Oper):Prop where
 is:mG o=true
 want:fk σ ops o=some true
 awI:∀y∈o.op.operands,(aE σ y).eY=true/\∀t,y = .tmp t->p t=false
 guard:∀g c t,o.guard=some (g,c)->(ops[g]?).bind (·.dst)=some t->p t=false
def akd{x:A}{n:Nat}{z:V}(h:pL x n=some z)(X:Type)(k:A -> ah X):zq x n k=k (.lf (.v z)):=by
 unfold pL at h;split at h
 ·split at h
  next xs _ _ C=>injection h with h;subst h;simp[zq,C,Option.bind_some,wV]
  ·cases h
 ·cases h
def Yh{x:A}{n:Nat}{z:V}{g:Lf -> Lf}{G:A -> A}(C:∀ xs,G (.ez xs) = .ez (xs.map λp=>(p.1,p.2.map g)))(D:∀ z,g (.v z) = .v z)(h:pL x n=some z):pL (G x) n=some z:=by
 unfold pL at h;split at h
 ·split at h
  next xs _ _ E=>injection h with h;subst h;rw[C];simp[pL,dI,E,Option.map_some,List.map_cons,List.map_nil,D]
  ·cases h
 ·cases h
def RO{v:A}(C:∀ q,v.drop q=v){rr d:Nat}{key:Nat -> aa Nat}:∀ (f j:Nat) (xs:aa Lf) (σ:S),gp rr key f j xs (σ.set d v)=(gp rr key f j xs σ).map λp=>(p.1,p.2.set d v)
 |_,_,[],σ=>by simp[gp]
 |0,j,x::xs,σ=>by cases x<;>simp[gp]
 | f+1,j,.v x :: xs,σ=>by
  simp only[gp,RO C f];cases gp rr key f (j+1) xs σ<;>rfl
 | f+1,j,.own [q] :: xs,σ=>by
  simp only[gp];show (match σ.m q with
   |some (.sl z)=>_
   |_=>none)=_
  cases D:σ.m q with
  |none=>rfl
  | some y=>
   cases y with
   | sl z=>
    cases Nat.beq q rr with
    |true=>rfl
    | false=>
     simp only[au];rw[S.drop_set q (C q),RO C f];cases gp rr key f (j+1) (xs.map (Lf.drop q)) (σ.drop q)<;>rfl
   |_=>rfl
 |f+1,j,.own []::xs,σ=>rfl
 |f+1,j,.own (_::_::_)::xs,σ=>rfl
 |f+1,j,.dead::xs,σ=>rfl
def RQ{rr:Nat}{key:Nat -> aa Nat}{x n:Nat}{z:V}:∀ (f j:Nat) (xs:aa Lf) (σ C:S) (D:aa V),gp rr key f j xs σ=some (D,C) -> pL (σ.t x) n=some z -> pL (C.t x) n=some z
 | _,_,[],σ,C,D,h,E=>by
  simp only[gp]at h;simp_all
 |0,j,y::xs,σ,C,D,h,E=>by cases y<;>simp[gp]at h
 | f+1,j,.v y :: xs,σ,C,D,h,E=>by
  simp only[gp]at h;cases F:gp rr key f (j+1) xs σ with
  |none=>simp_all
  | some p=>
   rw[F]at h;injection h with h;injection h with _ h;subst h;exact RQ f (j+1) xs σ p.2 p.1 F E
 | f+1,j,.own [q] :: xs,σ,C,D,h,E=>by
  simp only[gp]at h;split at h
  ·cases hb:Nat.beq q rr with
   |true=>simp_all
   | false=>
    rw[hb,au]at h;cases F:gp rr key f (j+1) (xs.map (Lf.drop q)) (σ.drop q)with
    |none=>simp_all
    | some p=>
     rw[F]at h;injection h with h;injection h with _ h;subst h;refine RQ f (j+1) _ (σ.drop q) p.2 p.1 F ?_;exact Yh (G:=A.drop q) (g:=Lf.drop q) (λ_=>rfl) (λ_=>rfl) E
  ·cases h
def ake{d:Nat}{v:V}{t:TypeId}{x y:A}{F:S}(h:rW P (σ.set d (.lf (.v v))) t x y some=some F):∃ D,rW P σ t x y some=some D/\F=D.set d (.lf (.v v)) /\ ∀ (e n:Nat) (z:V),pL (σ.t e) n=some z -> pL (D.t e) n=some z:=by
 unfold rW at h;split at h
 ·rename_i n xs j i s rr Y Z;split at h
  ·rename_i hlen;cases I:xs.all Lf.live with
   |false=>simp_all
   | true=>
    rw[I,aj]at h;split at h
    ·rename_i vs τ1 C;rw[RO (v:=.lf (.v v)) (λ_=>rfl)]at C;cases E:gp rr (λm=>(j+m) :: i :: s :: [rr]) xs.length 0 xs σ with
     |none=>simp_all
     | some p=>
      rw[E]at C;obtain⟨vs0,L⟩:=p;injection C with C;injection C with e1 e2;subst e1 e2;split at h
      ·rename_i O T U l gW;have akf:L.m rr=some (.sl (.sl O (T+2) U l)):=gW;split at h
       ·rename_i nJ;split at h
        ·rename_i hi;split at h
         ·rename_i hj;split at h
          ·rename_i e he;injection h with h
           refine⟨L.cL [rr] [] [(rr,.sl (.sl O (T+2) U (l.set i e)))],?_,?_,λex nx z hz=>?_⟩
           ·simp[rW,Y,Z,bJ hlen,I,aj,E,akf,bJ nJ,aD hi,bJ hj,he]
           ·rw[<- h];exact S.Ro _ rfl
           ·exact Yh (G:=A.cL [rr] []) (λ_=>rfl) (λ_=>rfl) (RQ _ _ _ _ _ _ E hz)
          ·cases h
         ·cases h
        ·cases h
       ·cases h
      ·cases h
    ·cases h
  ·cases h
 ·cases h
def Yi{t:TypeId}{a b:Operand}(C:o.op = .store t a b)(D:o.dst=none)(E:vi (aE σ a) (aE σ b)=true):cU P N Φ σ o some=rW P σ t (aE σ a) (aE σ b) some:=by
 unfold cU;rw[show eY o.op=false by rw[C];rfl,au];simp[gz,C,D,E,aj]
theorem akg[Inhabited Wd](dH:fj P Φ){K:S -> Prop}{f L i:Nat}{T:Oper}{Z:S}(hi:ops[i]?=some T)(hr:ki ops L i=true)(D:Q1 ops L σ i=true)(gW:cQ P N Φ ops σ T some=some Z)(H:Any P N Φ ops K f (L ||| 2 ^ i) Z):Any P N Φ ops K (f+1) L σ:=by
 unfold Q1 at D;rw[hi]at D;split at D
 ·rename_i oi' j0 e1 akh;injection e1 with e1;subst e1;split at D
  ·rename_i x n d oj xP xQ FR hj0;split at D
   ·rename_i ty a b U Yj Yk;rw[aH,aH]at D;obtain⟨⟨c1,c2⟩,c3⟩:=D;obtain⟨z,hz⟩:=Option.isSome_iff_exists.1 c1;obtain⟨a1,a2,a3⟩:=Oper.apart_spec c3;have hpd:∀ j,j<ops.size -> j≠i -> L.testBit j=false -> j=j0:=by
     intro j E F I;have:j∈(List.range ops.size).filter (λj=>!(Nat.beq j i || L.testBit j)):=by
      rw[List.mem_filter];refine⟨eJ.2 E,?_⟩;rw[I,Bool.or_false];cases hb:Nat.beq j i with
      |false=>rfl
      |true=>exact absurd (cv hb) F
     rw[akh]at this;exact ng.1 this
    have pS:∀ σ2:S,pL (σ2.t x) n=some z -> cQ P N Φ ops σ2 T some=gk N σ2 (some d) (.lf (.v z)) some:=by
     intro σ2 h2;unfold cQ;simp only[fk,FR];unfold cU;rw[show eY T.op=true by rw[xP];rfl,aj,xP];simp only[kM];rw[show aE σ2 (.tmp x)=σ2.t x from rfl,akd h2,xQ]
    have hN:∀ σ2:S,gk N σ2 (some d) (.lf (.v z)) some=some (σ2.set d (.lf (.v z))):=by
     intro σ2;rw[pS σ hz]at gW;obtain⟨_,g2⟩:=qJ gW;exact(g2 σ2).at_ _
    have hE:Z=σ.set d (.lf (.v z)):=by
     grind
    rw[hE]at H
    refine Ru (W:=0) hi (λj oj _ E=>by rw[Nat.zero_testBit]at E;cases E) (λσ=>σ.set d (.lf (.v z)))
     (λL' C=>pL (C.t x) n=some z /\ ∀j,j<ops.size -> j≠i -> L'.testBit j=false -> j=j0/\vi (aE C a) (aE C b)=true)
     (λL' C Y=>(pS C Y.1).trans (hN C)) (λL' C j oj' qw Y O F I _ xO=>?_) f L σ (λj E=>by rw[Nat.zero_testBit]at E;cases E) hr
     ⟨hz,λj E F I=>⟨hpd j E F I,c2⟩⟩ H
    obtain⟨rfl,hg⟩:=Y.2 j (gD.1 O).1 F I;rw[hj0]at O;injection O with O;subst O;have ha:aE (C.set d (.lf (.v z))) a=aE C a:=Ct (a1 d xQ) _ (by rw[U];simp[Op.operands]);have hb:aE (C.set d (.lf (.v z))) b=aE C b:=Ct (a1 d xQ) _ (by rw[U];simp[Op.operands]);have jB:cQ P N Φ ops (C.set d (.lf (.v z))) oj some=rW P (C.set d (.lf (.v z))) ty (aE C a) (aE C b) some:=by
     unfold cQ;simp only[fk,Yk];rw[Yi U Yj (by rw[ha,hb];exact hg),ha,hb]
    rw[jB]at xO;obtain⟨σ2,h1,h2,h3⟩:=ake xO
    refine⟨σ2,?_,h2,h3 _ _ _ Y.1,λk hk Yl Ym=>?_⟩
    ·unfold cQ;simp only[fk,Yk];rw[Yi U Yj hg];exact h1
    ·grind
   ·cases D
  ·cases D
 ·cases D
theorem FT[Inhabited Wd](dH:fj P Φ):∀ (f L:Nat) (σ:S) (k:S->ah X),pM P N Φ ops f L σ k=some r->Any P N Φ ops (λτ=>k τ=some r) f L σ
 | 0,L,σ,k,h=>by
  unfold pM at h;split at h
  ·rename_i hr
   refine⟨λj=>?_,h⟩
   cases U:ki ops L j with
   |false=>rfl
   |true=>have:=Af.2 U;rw[hr]at this;cases this
  ·cases h
 | f+1,L,σ,k,h=>by
  unfold pM at h;split at h
  ·rename_i hr
   refine⟨λ_=>h,λj U=>?_⟩
   have:=Af.2 U;rw[hr]at this;cases this
  ·rename_i i hr;have hi:ki ops L i=true:=Af.1 (by rw[hr];exact .head _)
   refine⟨λh=>absurd (h i) (by rw[hi];simp),λj U=>?_⟩
   have U:=Af.2 U;rw[hr]at U;obtain rfl:=ng.1 U;split at h
   next o ho=>obtain⟨τ,h1,h2⟩:=Rf dH h;exact⟨o,τ,ho,h2,FT dH f _ τ k (K1 h1)⟩
   ·cases h
  ·rename_i rs hn hs;split at h
   ·rename_i i hf;have hc:=List.find?_some hf;have hm:=List.mem_of_find?_eq_some hf;have hi:=Af.1 hm;split at h
    ·rename_i o ho;unfold Xq at hc;rw[ho,aH,aH,aH]at hc;obtain⟨⟨⟨c1,c2⟩,c3⟩,c4⟩:=hc;have c1:eY o.op=true\/fk σ ops o=some false:=by
      rw[dA]at c1
      refine c1.imp id λc1=>?_
      split at c1
      next b hb=>rw[hb];cases b<;>first|rfl|cases c1
      ·cases c1
     obtain⟨v,h1,hF,hN⟩:=aj9 c1 c4 h;have oB:=RN _ _ c3;have c2:=cv c2;have FU:∀ j,(waits ops i ops.size 0 0).testBit j=true->(L ||| 2 ^ i).testBit j=false:=by
      intro j U;have:((L |||2 ^ i) &&& waits ops i ops.size 0 0).testBit j=false:=by rw[c2];exact Nat.zero_testBit j
      rw[Nat.testBit_and,U,Bool.and_true]at this;exact this
     have tF:∀ j,(waits ops i ops.size 0 0).testBit j=true->L.testBit j=false:=by
      intro j U;have:=FU j U;rw[xK,oe]at this;exact this.1
     refine ajL (W:=waits ops i ops.size 0 0) (ok:=λt r=>!gq (jb t) ops i L (waits ops i ops.size 0 0) ops.size 0 && !gq (λok=>dX ok r) ops i L (waits ops i ops.size 0 0) ops.size 0 && !gq isApp ops i L (waits ops i ops.size 0 0) ops.size 0) (pQ:=KF Φ ops i L (waits ops i ops.size 0 0) σ) (kO:=kO Φ ops i L (waits ops i ops.size 0 0) σ) (kN:=kN Φ ops i L (waits ops i ops.size 0 0)) dH ho hN (λj C D U=>?_) f L σ (λt r gV j C D I O T=>?_) (λx hx j C D I O T=>?_) (λx hx=>?_) (λt gV j C D I O T=>?_) (λt gV j C D I O T=>?_) (λj C D I O T=>?_) tF hi hF (FT dH f _ _ k (K1 h1))
     ·have dV:=(gD.1 D).1;rcases oB j (by omega) (by omega)with e | e | e | e
      ·subst e;have:=FU j U;rw[xK]at this;simp at this
      ·rw[tF j U]at e;cases e
      ·exact Yd D e.2
      ·rw[U]at e;cases e.1
     ·have dV:=(gD.1 D).1;rw[aH,aH,gi,gi,gi]at gV
      refine⟨λY=>?_,?_,?_⟩
      ·have:=nX (g:=jb t) ops.size 0 j (by omega) (by omega) I O T C D (by unfold jb;rw[Y];exact Nat.beq_refl t);rw[gV.1.1]at this;cases this
      ·cases hn:dX C r with
       |false=>rfl
       | true=>
        have:=nX (g:=λok=>dX ok r) ops.size 0 j (by omega) (by omega) I O T C D hn;rw[gV.1.2]at this;cases this
      ·cases hn:isApp C with
       |false=>rfl
       | true=>
        have:=nX (g:=isApp) ops.size 0 j (by omega) (by omega) I O T C D hn;rw[gV.2]at this;cases this
     ·have dV:=(gD.1 D).1;unfold kO at hx;rw[aH]at hx;intro Y;have:=nX (g:=jb x) ops.size 0 j (by omega) (by omega) I O T C D (by unfold jb;rw[Y];exact Nat.beq_refl x);rw[this]at hx;cases hx.1
     ·unfold kO at hx;rw[aH]at hx;have hx:=hx.2;cases hz:σ.t x with
      |aI r j=>rw[hz]at hx;exact hx
      |ij cs=>trivial
      |_=>rw[hz]at hx;cases hx
     ·have dV:=(gD.1 D).1;by_cases Y:C.dst=some t
      ·refine .inr ?_;have RR:jb t C=true:=by unfold jb;rw[Y];exact Nat.beq_refl t
       cases Cw:tE C with
       | false=>
        cases FV:KE Φ ops i L (waits ops i ops.size 0 0) σ C with
        | false=>
         have:=nX (g:=λok=>jb t ok && !(tE ok ||KE Φ ops i L (waits ops i ops.size 0 0) σ ok)) ops.size 0 j (by omega) (by omega) I O T C D (by rw[RR,Cw,FV];rfl);unfold KF at gV;rw[this]at gV;cases gV
        | true=>
         unfold KE at FV;split at FV
         next s x f xR=>exact .inr ⟨s,x,f,xR,FV⟩
         ·cases FV
       | true=>
        refine .inl ⟨rfl,?_⟩;refine Cy ?_;unfold xE;rw[dA]
        refine .inl (nX (g:=λo=>dX o t) _ 0 j (by omega) (by omega) I O T C D ?_)
        obtain⟨ty,e,h1,_,h3,_⟩:=XR Cw;unfold dX;rw[Y,h1];exact Nat.beq_refl t
      ·exact .inl Y
     ·have dV:=(gD.1 D).1;by_cases Y:C.dst=some t
      ·refine .inr ?_;have RR:jb t C=true:=by unfold jb;rw[Y];exact Nat.beq_refl t
       cases uZ:mG C with
       | false=>
        cases hma:isApp C with
        |true=>exact .inr (.inl rfl)
        | false=>
         cases Ac:xH Φ C with
         |true=>exact .inr (.inr rfl)
         | false=>
          have:=nX (g:=λok=>jb t ok && !(mG ok ||isApp ok ||xH Φ ok)) ops.size 0 j (by omega) (by omega) I O T C D (by rw[RR,uZ,hma,Ac];rfl);unfold kN at gV;rw[this]at gV;cases gV
       | true=>
        refine .inl ?_;have ke:dX C t=true:=by
         unfold mG at uZ;rw[aH]at uZ;have h1:=uZ.1;unfold dX;rw[Y];split at h1
         next zH=>simp only[zH];exact Nat.beq_refl t
         next zH=>simp only[zH];exact Nat.beq_refl t
         next zH=>simp only[zH];exact Nat.beq_refl t
         ·cases h1
        have h9:=nX (g:=λo=>dX o t) ops.size 0 j (by omega) (by omega) I O T C D ke;refine⟨rfl,?_,?_⟩
        ·refine Cy ?_;unfold xE;rw[dA];exact .inl h9
        ·unfold Aa;rw[dA];exact .inl h9
      ·exact .inl Y
     ·have dV:=(gD.1 D).1;rcases oB j (by omega) (by omega)with e | e | e | e
      ·exact absurd e I
      ·rw[O]at e;cases e
      ·rw[T]at e;cases e.1
      ·obtain⟨e1,e2⟩:=e.2 C D
       refine⟨e2,?_,λn hn=>?_⟩
       ·rw[dA,dA,dA]at e1;rcases e1 with ((e1 | e1) | e1) | e1
        ·exact .inl e1
        ·obtain⟨f',args,iO,c,g1,g2,g3,g4,g5⟩:=akc e1
         refine .inr (.inl ⟨f',args,iO,c,g1,g2,g3,g4,λn hn=>?_⟩)
         refine Cy ?_;unfold xE;rw[dA]
         refine .inr (nX (g:=λo=>cI n (nT Φ σ o) ||cI n (xD σ o)) _ 0 j (by omega) (by omega) I O T C D ?_)
         rw[g5,rP.2 hn];rfl
        ·obtain⟨ty,t,y,g1,g2,g3,g4,g5⟩:=aka e1;refine .inr (.inr (.inl ⟨ty,t,y,g1,g2,g3,?_⟩));cases hx:σ.t t with
         | aI r' j'=>
          show xF Φ ops i L (waits ops i ops.size 0 0) σ r'=true;refine Cy ?_;unfold xE;rw[dA]
          refine .inr (nX (g:=λo=>cI r' (nT Φ σ o) ||cI r' (xD σ o)) _ 0 j (by omega) (by omega) I O T C D ?_)
          rw[g5 r' j' hx,dA];exact .inr (rP.2 (.head _))
         |ptr k=>exact absurd hx (g4 k)
         |_=>trivial
        ·obtain⟨x,y,t1,t2,g1,g2,g3⟩:=akb e1
         refine .inr (.inr (.inr ⟨x,y,t1,t2,g1,g2,g3,λr' fC=>⟨?_,?_⟩⟩))
         ·refine Cy ?_;unfold xE;rw[dA]
          refine .inr (nX (g:=λo=>cI r' (nT Φ σ o) ||cI r' (xD σ o)) _ 0 j (by omega) (by omega) I O T C D ?_)
          have:xD σ C=[r']:=by simp only[xD,g1,fC]
          rw[this,dA];exact .inr (rP.2 (.head _))
         ·unfold Aa;rw[dA]
          refine .inr (nX (g:=λo=>cI r' (KD σ o)) _ 0 j (by omega) (by omega) I O T C D ?_)
          have:KD σ C=[r']:=by simp only[KD,g1,fC]
          rw[this];exact rP.2 (.head _)
       ·have h9:=nX (g:=λo=>dX o n) ops.size 0 j (by omega) (by omega) I O T C D hn;refine⟨?_,?_⟩
        ·refine Cy ?_;unfold xE;rw[dA];exact .inl h9
        ·unfold Aa;rw[dA];exact .inl h9
    ·cases h
   ·split at h
    ·rename_i i hf;have hc:=List.find?_some hf;have hm:=List.mem_of_find?_eq_some hf;have hi:=Af.1 hm;split at h
     ·rename_i o ho;unfold Xr at hc;rw[ho,aH,aH,aH,aH,aH]at hc;obtain⟨⟨⟨⟨⟨c1,c2⟩,c3⟩,c4⟩,c5⟩,c6⟩:=hc;have oB:=RN _ _ c3;have c2:=cv c2;have FU:∀ j,(waits ops i ops.size 0 0).testBit j=true->(L ||| 2 ^ i).testBit j=false:=by
       intro j U;have:((L |||2 ^ i) &&& waits ops i ops.size 0 0).testBit j=false:=by rw[c2];exact Nat.zero_testBit j
       rw[Nat.testBit_and,U,Bool.and_true]at this;exact this
      have tF:∀ j,(waits ops i ops.size 0 0).testBit j=true->L.testBit j=false:=by
       intro j U;have:=FU j U;rw[xK,oe]at this;exact this.1
      obtain⟨τ,h1,h2⟩:=Rf dH h;generalize hp:(λn=>gq (λo=>Cs o n) ops i L (waits ops i ops.size 0 0) ops.size 0)=p at c4 c5;have hpe:∀ j C e,ops[j]?=some C->j≠i->L.testBit j=false->(waits ops i ops.size 0 0).testBit j=false->C.dst=some e->p e=true:=by
       intro j C e D I O T Y;have dV:=(gD.1 D).1;rw[<-hp];exact nX (g:=λo=>Cs o e) _ 0 j (by omega) (by omega) I O T C D (by unfold Cs jb;rw[Y];exact Nat.beq_refl e)
      have Ae:∀ j C,ops[j]?=some C->j≠i->L.testBit j=false->(waits ops i ops.size 0 0).testBit j=false->Q0 ops i L (waits ops i ops.size 0 0) σ C=true/\o.apart ops C=true:=by
       intro j C D I O T;have dV:=(gD.1 D).1;rcases oB j (by omega) (by omega)with e|e|e|e
       ·exact absurd e I
       ·rw[O]at e;cases e
       ·rw[T]at e;cases e.1
       ·exact e.2 C D
      have uZ:∀ j C,ops[j]?=some C->j≠i->L.testBit j=false->(waits ops i ops.size 0 0).testBit j=false->Yg ops p σ C:=by
       intro j C D I O T;have hb:=(Ae j C D I O T).1;unfold Q0 at hb;rw[aH,aH,aH]at hb;obtain⟨⟨⟨b1,b2⟩,b3⟩,b4⟩:=hb;have KO:∀t,gq (jb t) ops i L (waits ops i ops.size 0 0) ops.size 0=false->p t=false:=λt Z=>by rw[<-hp];exact Z
       refine⟨b1,?_,λy F=>?_,λg c t hg Z=>?_⟩
       ·split at b2
        next b Fg=>rw[Fg,b2]
        ·cases b2
       ·have:=bW.1 b3 y (by simpa using F);rw[aH]at this
        refine⟨this.1,λt Z=>?_⟩
        have h2:=this.2;rw[Z]at h2;exact KO t (by simpa using h2)
       ·rw[hg]at b4;simp only[Z]at b4;exact KO t (by simpa using b4)
      have FP:∀ n,20000<=n->p n=false:=by
       intro n hn;cases r3:p n with
       |false=>rfl
       | true=>
        rw[<-hp]at r3;obtain⟨k',RS,hk1,vr,r4,tG,Ag⟩:=Ye _ _ r3;have hm:=(uZ k' RS hk1 vr r4 tG).is;unfold mG at hm;rw[aH]at hm;have hm:=hm.2;unfold Cs jb at Ag;split at Ag
        next e he=>rw[he]at hm;have h1:e=n:=cv Ag;subst h1;exact absurd (cr hm) (Nat.not_le_of_gt (Nat.lt_succ_of_le hn))
        ·cases Ag
      have hE:τ=(cQ P N Φ ops σ o some).getD σ:=by rw[h2];rfl
      refine Ru (W:=waits ops i ops.size 0 0) ho (λj C D U=>?_) (λσ=>(cQ P N Φ ops σ o some).getD σ)
       (λL' E=>((cQ P N Φ ops E o some).isSome=true/\QY E p o=true/\(nT Φ E o).all (vm E p)=true/\vl E o=true)/\(∀ j,L'.testBit j=false->L.testBit j=false)/\
        ∀j C,ops[j]?=some C->j≠i->L'.testBit j=false->(waits ops i ops.size 0 0).testBit j=false->Yg ops p E C)
       (λL' E hI=>?_) (λL' E j C qw hI D I O T gW=>?_) f L σ tF hi ⟨⟨by rw[h2];rfl,c4,c5,c6⟩,λ_ h=>h,uZ⟩ (by rw[<-hE];exact FT dH f _ τ k (K1 h1))
      ·have dV:=(gD.1 D).1;rcases oB j (by omega) (by omega)with e | e | e | e
       ·subst e;have:=FU j U;rw[xK]at this;simp at this
       ·rw[tF j U]at e;cases e
       ·exact Yd D e.2
       ·rw[U]at e;cases e.1
      ·obtain⟨z,hz⟩:=Option.isSome_iff_exists.1 hI.1.1;rw[hz];rfl
      ·obtain⟨⟨i1,i2,i3,i6⟩,i4,i5⟩:=hI;have ap:=(Ae j C D I (i4 j O) T).2;obtain⟨m1,m2,m3,m4⟩:=i5 j C D I O T;obtain⟨a1,a2,a3⟩:=Oper.apart_spec ap;obtain⟨z,hz⟩:=Option.isSome_iff_exists.1 i1;have hEz:(cQ P N Φ ops E o some).getD E=z:=by rw[hz];rfl
       have gW:cQ P N Φ ops z C some=some qw:=by rw[<-hEz];exact gW
       have Yn:∀ t,(E.t t).eY=true->o.dst≠some t->z.t t=E.t t:=by
        intro t Z Y;unfold cQ at hz;split at hz
        ·exact aj8 dH c1 i6 hz Z Y
        ·obtain⟨g1,_⟩:=qJ hz;injection g1 with g1;rw[<-g1];cases xQ:o.dst with
         |none=>rfl
         |some d=>exact bZ _ _ _ (by rintro rfl;exact Y xQ)
        ·cases hz
       have aki:∀ g c t,C.guard=some (g,c)->(ops[g]?).bind (·.dst)=some t->(E.t t).eY=true\/E.t t = .skip:=by
        intro g c t hg Z;unfold fk at m2;rw[hg]at m2;simp only[Z]at m2;split at m2
        next b hb=>left;rw[hb];rfl
        next hb=>exact .inr hb
        ·cases m2
       have FR:∀ g c t,C.guard=some (g,c)->(ops[g]?).bind (·.dst)=some t->o.dst≠some t:=by
        intro g c t hg Z Y;refine a1 t Y (List.mem_append_right _ ?_);rw[hg];simp only[Z];simp
       have hwz:fk z ops C=some true:=by
        rw[xJ (σ:=E) λg c t hg Z=>?_]
        ·exact m2
        ·rcases aki g c t hg Z with h | h
         ·exact Yn t h (FR g c t hg Z)
         ·exfalso;unfold fk at m2;rw[hg]at m2;simp only[Z,h]at m2;cases m2
       have akj:∀ y∈C.op.operands,aE z y=aE E y:=by
        intro y F;cases y with
        | tmp t=>
         refine Yn t (m3 _ F).1 λY=>?_
         exact a1 t Y (List.mem_append_left _ (List.mem_filterMap.2 ⟨.tmp t,by simpa using F,rfl⟩))
        |_=>rfl
       obtain⟨e,x,u,Y,he,hx,hu,xO,nU⟩:=KP m1 hwz gW;have Ah:=hpe j C e D I (i4 j O) T Y;have rG:=a3 e Y;have qK:∀ y∈o.op.operands,(aE E y).nr p=true/\y ≠ .tmp e:=by
        intro y F;refine⟨bW.1 i2 y (by simpa using F),?_⟩;rintro rfl;exact rG (List.mem_append_left _ (List.mem_filterMap.2 ⟨.tmp e,by simpa using F,rfl⟩))
       have xQ:o.dst≠some e:=λh=>a2 e h Y
       have akk:fk (cw e x u E) ops o=fk E ops o:=by
        have hw:∃ b,fk E ops o=some b:=by
         unfold cQ at hz;cases hw:fk E ops o with
         |none=>rw[hw]at hz;cases hz
         |some b=>exact⟨b,rfl⟩
        obtain⟨b,hw⟩:=hw
        refine xJ λg c t' BQ Yo=>?_
        rw[pT,bx ?_]
        ·exact A.zP (p:=p) (pb:=p) (Rg hw g c t' BQ Yo) Ah Ah
        ·rintro rfl;refine rG (List.mem_append_right _ ?_);rw[BQ];simp only[Yo];simp
       have pS:cQ P N Φ ops (cw e x u E) o some=some (cw e x u z):=by
        unfold cQ at hz ⊢;rw[akk];split at hz
        next hw=>exact aj7 dH hx hu he Ah FP c1 i6 xQ qK (λn hn=>bW.1 i3 n hn) hz
        next hw=>obtain⟨g1,g2⟩:=qJ hz;injection g1 with g1;refine((g2 (cw e x u E)).at_ _).trans ?_;rw[<-g1,ajM xQ rfl]
        ·cases hz
       have RT:∀y∈o.op.operands,aE (cw e x u E) y=aE E y:=λy F=>vp (qK y F).1 Ah (qK y F).2
       have hL:∀ k,(L' ||| 2 ^ j).testBit k=false->L'.testBit k=false/\k≠j:=by
        intro k hk;rw[xK,oe]at hk;refine⟨hk.1,?_⟩;rintro rfl;simp at hk
       refine⟨cw e x u E,nU E m2 (λy F=>(akj y F).symm),?_,⟨by rw[pS];rfl,?_,?_,?_⟩,λk hk=>i4 k (hL k hk).1,λk RS hk Yl Ym hkW=>?_⟩
       ·rw[xO,pS];rfl
       ·unfold QY;rw[bW];intro y F;rw[RT y (by simpa using F)];exact(qK y (by simpa using F)).1
       ·have hrj:nT Φ (cw e x u E) o=nT Φ E o:=by
         unfold nT;split
         ·rename_i f' args iO xR;split
          ·refine FL _ _ λy F=>RT y ?_
           rw[xR];simp only[Op.operands,Call.operands];simp only[Array.mem_append]
           first
            |exact .inr (by simpa using F)
            |exact .inl (by simpa using F)
          ·rfl
         ·rfl
        rw[hrj,bW];intro n hn;have h3:=bW.1 i3 n hn;have cS:n≠e:=by
         rintro rfl;have r3:p n=false:=by
          unfold nT at hn;split at hn
          ·rename_i f' args iO xR;split at hn
           ·refine FQ _ _ (λy F=>(qK y ?_).1) n hn
            rw[xR];simp only[Op.operands,Call.operands];simp only[Array.mem_append]
            first
             |exact .inr (by simpa using F)
             |exact .inl (by simpa using F)
           ·cases hn
          ·cases hn
         rw[Ah]at r3;cases r3
        unfold vm at h3 ⊢;rw[nW,bx cS];cases hm:E.m n with
        |none=>rfl
        | some y=>
         cases y with
         |sl=>rfl
         |mp=>rfl
         |gh=>rfl
         | blk cs=>
          rw[hm]at h3;simp only[Option.map_some,aM.FH,oW.xx h3 Ah];exact h3
       ·unfold vl at i6 ⊢;split
        next ty t y xR=>rw[xR]at i6;have e1:(cw e x u E).t t=E.t t:=RT (.tmp t) (by rw[xR];simp[Op.operands]);rw[e1];exact i6
        ·rfl
       ·obtain⟨n1,n2,n3,n4⟩:=i5 k RS hk Yl (hL k Ym).1 hkW;have akl:∀ t,p t=false->t≠e:=by rintro t Z rfl;rw[Ah]at Z;cases Z
        have Yp:∀ t,(E.t t).eY=true->p t=false->(cw e x u E).t t=E.t t:=by
         intro t Z htp;rw[pT,bx (akl t htp)];exact A.K0 Z e
        refine⟨n1,?_,λy F=>?_,n4⟩
        ·rw[xJ (σ:=E) λg c t hg Z=>?_]
         ·exact n2
         ·unfold fk at n2;rw[hg]at n2;simp only[Z]at n2;split at n2
          next b hb=>exact Yp t (by rw[hb];rfl) (n4 g c t hg Z)
          next hb=>cases n2
          ·cases n2
        ·refine⟨?_,(n3 y F).2⟩;cases y with
         | tmp t=>
          show ((cw e x u E).t t).eY=true;rw[Yp t (n3 _ F).1 ((n3 _ F).2 t rfl)];exact(n3 _ F).1
         |const v=>exact(n3 _ F).1
         |global g=>exact(n3 _ F).1
         |func f=>exact(n3 _ F).1
     ·cases h
    ·split at h
     ·rename_i i hf;have hc:=List.find?_some hf;have hm:=List.mem_of_find?_eq_some hf;have hi:=Af.1 hm;split at h
      next o ho=>obtain⟨τ,h1,h2⟩:=Rf dH h;exact akg dH ho hi hc h2 (FT dH f _ τ k (K1 h1))
      ·cases h
     ·cases h
def Cz{b:Bool}(h:fk σ ops o=some b)(hR:Rl w0 N lab ρ σ a w):Region.wanted o (yielded ops a.tmps)=b:=by
 unfold fk at h;split at h
 next F=>injection h with h;subst h;simp[Region.wanted,F]
 ·rename_i j want F;split at h
  ·rename_i t I;have D:=hR.tmp t;rw[gw]at D;split at h
   ·rename_i c L;rw[L]at D;have E:=D.2.wS;injection h with h;subst h;cases C:a.tmps[t]? with
    |none=>rw[C]at E;cases E
    | some v=>
     rw[C]at E;subst E;simp only[Region.wanted,F,yielded,I,Option.bind_some,C];simp_all
   ·rename_i L;rw[L]at D;injection h with h;subst h;cases C:a.tmps[t]? with
    |none=>simp[Region.wanted,F,yielded,I,C]
    | some v=>
     rw[C]at D;have E:=D;subst E;simp only[Region.wanted,F,yielded,I,Option.bind_some,C,undef];simp_all
   ·cases h
  ·cases h
structure r5 (ops:Array Oper) (listed:Array Bool) (L:Nat):Prop where
 size:listed.size=ops.size
 bit:∀j,j<ops.size->listed[j]?=some (L.testBit j)
 out:∀j,ops.size<=j->L.testBit j=false
def r5.Yq{listed:Array Bool}{L:Nat}(h:r5 ops listed L)(j:Nat):listed.getD j false=L.testBit j:=by
 rw[gw];by_cases C:j<ops.size
 ·rw[h.bit j C];rfl
 ·rw[h.out j (by omega),Array.getElem?_eq_none (by rw[h.size];omega)];rfl
def r5.ready{listed:Array Bool}{L:Nat}(h:r5 ops listed L)(j:Nat):j∈Region.ready .any ops listed ↔ ki ops L j=true:=by
 rw[mem_ready,FN];constructor
 ·rintro⟨D,o,C,E⟩;have F:=(gD.1 C).1;rw[gw,h.bit j F]at D;exact⟨D,o,C,λe I hb=>by rw[<-h.Yq];exact E e I hb⟩
 ·rintro⟨D,o,C,E⟩;have F:=(gD.1 C).1;exact⟨by rw[gw,h.bit j F];exact D,o,C,λe I hb=>by rw[h.Yq];exact E e I hb⟩
def r5.set{listed:Array Bool}{L i:Nat}(h:r5 ops listed L)(hi:i<ops.size):r5 ops (listed.setIfInBounds i true) (L ||| 2 ^ i):=by
 refine⟨by simp[h.size],λj C=>?_,λj C=>?_⟩
 ·rw[xK];by_cases D:i=j
  ·subst D;rw[Array.getElem?_setIfInBounds_self_of_lt (by rw[h.size];exact hi)];simp
  ·rw[Array.getElem?_setIfInBounds_ne D,h.bit j C];simp_all
 ·rw[xK,h.out j C]
  grind
def r5.start:r5 ops (Array.replicate ops.size false) 0:=
 ⟨by simp,λj C=>by simp[C],λj _=>Nat.zero_testBit j⟩
def akm(T:fj P Φ){k:S -> ah X}{i:Nat}(hi:ops[i]?=some o)(h:cQ P N Φ ops σ o k=some r):∃ E,k E=some r /\ ∀ a w (K:Act -> World -> Prop) (Q:Exit -> Act -> World -> Prop),R w0 N σ a w -> (∀ L w',R w0 N E L w' -> K L w') -> wpOp P ops Q i K a w:=by
 unfold cQ at h;split at h
 ·rename_i F;obtain⟨E,U,Y⟩:=Q4 T h
  refine⟨E,U,λa w K Q hR D=>?_⟩
  obtain⟨lab,ρ,C⟩:=hR;unfold wpOp;rw[hi];simp[Cz F C];exact .inl (Y a w K Q ⟨lab,ρ,C⟩ D)
 ·rename_i F;unfold gk at h;split at h
  ·rename_i I
   refine⟨σ,h,λa w K Q hR D=>?_⟩
   obtain⟨lab,ρ,C⟩:=hR;unfold wpOp;rw[hi];simp[Cz F C,I];exact D _ _ ⟨lab,ρ,C⟩
  ·rename_i d I;cases O:Nat.blt d N with
   |false=>simp_all
   | true=>
    rw[O,aj]at h
    refine⟨_,h,λa w K Q hR D=>?_⟩
    obtain⟨lab,ρ,C⟩:=hR;unfold wpOp;rw[hi];simp only[Cz F C,I];exact D _ _ ⟨lab,ρ,C.set rfl (by have:=cr O;omega)⟩
 ·cases h
def Yr(O:fj P Φ){K:S -> Prop}{Q:Exit -> Act -> World -> Prop}(E:∀ F,K F -> ∀ a w,R w0 N F a w -> Q .normal a w):
  ∀(f L:Nat) (σ:S) (listed:Array Bool),Any P N Φ ops K f L σ -> r5 ops listed L -> ∀a w,R w0 N σ a w -> wpAny P .any ops Q f listed a w
 | 0,L,σ,listed,h,D,a,w,hR=>by
  refine⟨List.eq_nil_iff_forall_not_mem.2 λj C=>?_,E σ h.2 a w hR⟩
  rw[D.ready,h.1]at C;cases C
 | f+1,L,σ,listed,h,D,a,w,hR=>by
  refine⟨λhr=>E σ (h.1 λj=>?_) a w hR,λj C=>?_⟩
  ·cases C:ki ops L j with
   |false=>rfl
   | true=>
    have:=(D.ready j).2 C;simp_all
  ·have T:=(D.ready j).1 C;obtain⟨o,F,U,Y,Z⟩:=h.2 j T;obtain⟨qw,I,hw⟩:=akm O U Y;injection I with I;subst I;exact hw a w _ Q hR λa' w' eG=>Yr O E f _ _ _ Z (D.set (Yf T)) a' w' eG
def R.drawn(hR:R w0 N σ a w):R w0 N σ a { w with drawn:=w.drawn+1 }:=by
 obtain⟨lab,ρ,h⟩:=hR;exact⟨lab,ρ,h.grow ⟨rfl,rfl,rfl,c9 _,λ_ _=>rfl⟩ (λ_ _=>rfl) (λb k hb hl=>absurd (h.cE b k hl).2.1 (Nat.not_lt.2 hb))⟩
theorem akn[Inhabited Wd](C:fj P Φ){id:Nat}{k:S->ah X}(E:P.follows .mixedOrders=true)(h:pM P N Φ ops ops.size 0 σ k=some r){Q:Exit->Act->World->Prop}(F:∀ D,k D=some r->∀ a w,R w0 N D a w->Q .normal a w)(hR:R w0 N σ a w):
  (Code.region id ops true).wp P Q a w:=
 wp_region_any E (Yr C F _ _ _ _ (FT C _ _ _ _ h) r5.start a _ hR.drawn)
/-! Values. -/
end
end Go.Proofs.YthmgjjfedieljaaGreatDoor
