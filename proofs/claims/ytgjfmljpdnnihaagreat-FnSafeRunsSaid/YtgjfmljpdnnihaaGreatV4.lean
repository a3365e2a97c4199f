/-
  Running the program over pure contents, and that it follows (part 4). Nothing here is a claim.
-/
import Derived.Test.YtgjfmljpdnnihaaGreatV3
set_option linter.unusedSimpArgs false
namespace Go.Proofs.YtgjfmljpdnnihaaGreat
set_option linter.defProp false
open Go.RowKit
set_option linter.unusedVariables false
def fU(σ:S):aj Tmp->A->S
 |none,_=>σ
 |some d,v=>σ.set d v
section
variable {P:Program} {w w':World} {w0:Wd} {B N:Nat} {af az:bk} {ρ ρ':Nat->Loc} {σ:S} {a:Act} {X:Type} {d:Nat} {r:X} {o:Oper} {Φ:dR} {p pb:Nat->Bool} {e:Nat} {x:aP} {u:A} {ops:Array Oper}
def r6{C:aj Tmp}{x:A}{k:S -> aj X}(h:gG N σ C x k=some r):k (fU σ C x)=some r /\ ∀ (σ2:S),lY (λX k=>gG (X:=X) N σ2 C x k) (fU σ2 C x):=by
 unfold gG at h;split at h
 ·exact⟨h,λ_ X k=>rfl⟩
 ·rename_i d;cases D:Nat.blt d N with
  |false=>simp_all
  |true=>rw[D]at h;exact⟨h,λ_ X k=>by simp[gG,D];rfl⟩
def Gn{f:Nat}{c:jh}(C:fC P Φ)(h:Φ f=some (.p c)):iL P f c:=(C f _ h).2
def XZ{f:Nat}{c:jh}(C:fC P Φ)(h:Φ f=some (.q c)):iL P f c:=(C f _ h).2
def aiK{f:Nat}{C:aj Tmp}{c:tO}{xs:aa A}(D:fC P Φ)(h:Φ f=some (.i c)):cm λX k=>F6 (X:=X) N σ C c xs k:=λX Y k g=>
 ((D f _ h).2.1 N σ xs X Y _ g).trans (bx (c.run Y N σ xs) (funext λE=>funext λy=>wL X Y k g))
def X0(C:fC P Φ):cm λX k=>dm (X:=X) P N Φ σ o k:=λX Y k g=>by
 unfold dm
 refine cS ((QV.comp λv=>wL) X Y k g) ?_
 unfold gR gn qz zh yJ wM yF
 repeat' first
  |rfl
  |exact Ka _ _ _ _
  |exact Xs _ _ _ _
  |exact ah1 _ _ _ _
  |exact Xv (Gn C (by assumption)) Db _ _ _ _
  |exact QC _ _ _ _
  |exact ah6 _ _ _ _
  |exact ah3 _ _ _ _
  |exact aiK C (by assumption) _ _ _ _
  |exact ahy (λ_=>QC) _ _ _ _
  |exact Xv (XZ C (by assumption)) Xu _ _ _ _
  |exact aid _ _ _ _
  |exact ahZ _ _ _ _
  |exact aiv _ _ _ _
  |exact ahM _ _ _ _
  |exact aik _ _ _ _
  |exact(ail.comp λv=>wL) X Y k g
  |exact aim _ _ _ _
  |exact wL _ _ _ _
  |exact(agv.comp λv=>wL) X Y k g
  |refine cS ?_ ?_
  |split
def gD.bp{σ C:S}(h:gD p pb σ C){t r j:Nat}(D:σ.t t = .aH r j)(E:pb r=false):C.t t = .aH r j:=by
 rw[<-D];exact h.t (by rw[D];simpa [A.nI,A.fr,tL]using E)
def jy(p:Nat->Bool):A->Prop
 |.aH r _=>p r=true
 |.ptr _=>False
 |_=>True
def gD.st{D:Nat->Bool}{σ C:S}(h:gD p pb σ C){t:Nat}(E:jy D (σ.t t)):jy D (C.t t):=by
 rcases h.nw t with e|e
 ·rw[e];exact E
 ·revert e;cases C.t t<;>simp[A.wQ,jy]
def gD.Q5{σ C:S}(h:gD p pb σ C){x:Operand}(D:(aI σ x).nI p pb=true):aI C x=aI σ x:=by
 cases x with
 |tmp t=>exact h.t D
 |const v=>rfl
 |global g=>rfl
 |func f=>rfl
def gD.val{σ U:S}(h:gD p pb σ U){E:Op}{v:A}(D:lY (λX k=>mb (X:=X) P σ E k) v)(T:∀ y∈E.operands,(aI σ y).nI p pb=true)(Z:v.nI p pb=true)(O:∀ t y r j,E = .load t y->aI σ y = .aH r j->p r=false):lY (λX k=>mb (X:=X) P U E k) v:=by
 intro X k
 refine(XQ E (λy I=>⟨h.Q5 (T y I),λq e X k=>Ky h.sl q k (XW (T y I) e)⟩) (λt y e k=>?_) k).trans (D X k)
 subst e;have D:lY (λX k=>nt (X:=X) P σ t (aI σ y) k) v:=D;have I:=T y (by simp[Op.operands]);have O:=λr j=>O t y r j rfl
 generalize aI σ y=u at D I O;by_cases Y:∃r j,u = .aH r j
 ·obtain⟨r,j,rfl⟩:=Y;have C:nt P σ t (.aH r j) some=some v:=D A some;rw[D.at_ k];simp only[nt]at C ⊢;split at C
  ·cases C
  ·split at C
   next cs gj=>obtain⟨f,e1,e2⟩:=h.ay r (O r j rfl) cs gj;obtain⟨z,⟨⟩,e4⟩:=J9.lA C;rw[e1];simp only[];rw[<-List.map_drop,<-List.map_take,List.map_congr_left λl hl=>e2 l (aiH C Z l hl),List.map_id'];exact e4.at_ k
   ·cases C
 ·exact Sm.load (λq e X k=>Ky h.sl q k (XW I e)) (λr j e=>absurd ⟨r,j,e⟩ Y) k
def Q6:∀ (xs:aa V) (c:Nat) (σ:S),(∀ n,c <= n -> p n=true/\pb n=true) -> gD p pb σ (lZ c σ xs)
 |[],c,σ,h=>.refl σ
 | x :: xs,c,σ,h=>by
  simp[lZ];cases D:x.aG with
  |true=>exact Q6 xs _ σ (λn C=>h n (by omega))
  |false=>exact .trans (.root c (.sl x) (h c (dz _)).1 (h c (dz _)).2 (.refl σ)) (Q6 xs (c+1) _ (λn C=>h n (by omega)))
def Gq:∀ (ps:aa Pt) (c:Nat) (σ:S),(∀ n,c<=n->p n=true/\pb n=true)->gD p pb σ (nB c σ ps)
 |[],c,σ,h=>.refl σ
 |q::ps,c,σ,h=>(Q6 q.2 c σ h).trans (Gq ps _ _ (λn C=>h n (by omega)))
def zn{σ2:S}{ops:Array Oper}(h:∀ g b t,o.guard=some (g,b) -> (ops[g]?).bind (·.dst)=some t -> σ2.t t=σ.t t):fL σ2 ops o=fL σ ops o:=by
 unfold fL
 grind
def qN(p pb:Nat->Bool)(x:A):Prop:=∀r,x = .lf (.own [r])->p r=true/\pb r=true
def gD.tg{C D:Nat->Bool}{σ E:S}(h:gD p pb σ E){t:Nat}(I:qN C D (σ.t t)):qN C D (E.t t):=by
 rcases h.nw t with e|e
 ·rw[e];exact I
 ·intro r O;rw[O]at e;cases e
structure qO (P:Program) (N:Nat) (Φ:dR) (o:Oper) (p pb:Nat->Bool) (o6 τ:S) where
 G:S->S
 u:A
 eq:τ=fU (G o6) o.dst u
 run:∀σ2:S,(∀x∈o.op.operands,aI σ2 x=aI o6 x)->σ2.m=o6.m->dm P N Φ σ2 o some=some (fU (G σ2) o.dst u)
 grow:∀σ,gD p pb σ (G σ)
 set:∀(σ:S) d v,(A.nI p pb v)=true->G (σ.set d v)=(G σ).set d v
 bp:isApp o=false->∀(σ:S) t r j,σ.t t = .aH r j->eG o r=false->(G σ).t t = .aH r j
theorem qO.new{D:S}{d:Nat}(E:o.dst=some d)(C:p d=true/\pb d=true)(T:eG o d=true)(x:aP)(u:A){I:S}(e:I=((D.drop d).root d x).set d u)
  (U:∀σ2:S,(∀x∈o.op.operands,aI σ2 x=aI D x)->dm P N Φ σ2 o some=some (((σ2.drop d).root d x).set d u)):Nonempty (qO P N Φ o p pb D I):=
 ⟨{ G:=λσ=>(σ.drop d).root d x,u:=u,eq:=by rw[E];exact e,run:=λσ2 h _=>by rw[U σ2 h,E];rfl,grow:=λσ=>.root d x C.1 C.2 (.refl σ),
    set:=λσ e v Y=>by rw[S.drop_set d (A.A5 Y C.1 C.2)];rfl
    bp:=λ_ σ t r j Z O=>by
     show A.drop d (σ.t t)=_;rw[Z];exact A.nX (by simp only[A.fr,vW];rw[nZ (by rintro rfl;rw[T]at O;cases O)];rfl) }⟩
def Q7{d:Nat}{C:fO}{D:S}(h:mT σ d C some=some D):∃ (ps:aa Pt) (u:A),∀ σ,mT σ d C some=some ((nB (1000000000100000+1000*d) σ ps).set d u):=by
 unfold mT at h ⊢;split at h
 ·rename_i q;split at h
  next y E=>exact⟨[q],y,λσ=>rfl⟩
  ·cases h
 ·exact⟨_,_,λσ=>rfl⟩
theorem X3{f d:Nat}{c:jh}{T:S}{ev:S->(X:Type)->(aa Pt->aj X)->aj X}(U:o.dst=some d)(E:∀ n,1000000000100000+1000*d<=n->eG o n=true)(Z:∀ n,eG o n=true->p n=true/\pb n=true)(hc:iL P f c)(C:cm (ev σ))
  (QE:∀σ2:S,(∀x∈o.op.operands,aI σ2 x=aI σ x)->σ2.m=σ.m->∀(X:Type) (k:aa Pt->aj X),ev σ2 X k=ev σ X k) (dV:∀σ2,dm P N Φ σ2 o some=rT N σ2 d c (ev σ2 S) some) (h:rT N σ d c (ev σ S) some=some T):Nonempty (qO P N Φ o p pb σ T):=by
 obtain⟨res,rO,D,I,h3⟩:=Kc hc C h;injection I with I;subst I;obtain⟨ps,u,Y⟩:=Q7 D;have O:∀n,1000000000100000+1000*d<=n->p n=true/\pb n=true:=λn C=>Z n (E n C)
 rw[Y]at D;injection D with D;exact⟨{ G:=λσ=>nB (1000000000100000+1000*d) σ ps,u:=u,eq:=by rw[U];exact D.symm,run:=λσ2 r7 hm=>by rw[dV,U];exact(h3 σ2 _ _ (QE σ2 r7 hm) (Y σ2)).at_ _,grow:=λσ=>Gq ps _ σ O,set:=λσ e v hv=>Qr v ps _ σ λn C=>A.A5 hv (O n C).1 (O n C).2,bp:=λ_ σ t r j ht hr=>(Gq (p:=eG o) (pb:=eG o) ps _ σ (λn C=>⟨E n C,E n C⟩)).bp ht hr }⟩
theorem aiL[Inhabited Wd](dI:fC P Φ){τ:S}(E:Ks Φ o.op=true)(hp:∀ n,eG o n=true->p n=true/\pb n=true)(h:dm P N Φ σ o some=some τ):Nonempty (qO P N Φ o p pb σ τ):=by
 have h0:=h;unfold dm at h;cases hv:fD o.op with
 | true=>
  rw[hv,aq]at h;obtain⟨v,I,D,_⟩:=QW (w0:=default) (N:=N) h;obtain⟨T,h3⟩:=r6 I;injection T with T
  refine⟨{ G:=λσ=>σ,u:=v,eq:=T.symm,run:=λσ2 C hm=>?_,grow:=.refl,set:=λ_ _ _ _=>rfl,bp:=λ_ _ _ _ _ h _=>h }⟩
  unfold dm;rw[hv,aq,XR o.op hm C];refine(D.at_ _).trans ?_;exact(h3 σ2).at_ _
 | false=>
  rw[hv,av]at h;have Z:∀σ2,dm P N Φ σ2 o some=gR P N Φ σ2 o some:=λσ2=>by unfold dm;rw[hv,av]
  unfold gR at h Z;unfold Ks at E;rw[hv,Bool.false_or]at E;split at h
  ·rename_i e C;obtain⟨d,D,h⟩:=jx h;obtain⟨x,y,I,_,T⟩:=ahL h;injection I with I;have U:eG o d=true:=by unfold eG;rw[D,C];exact Nat.beq_refl d
   refine qO.new D (hp d U) U x y I.symm λσ2 _=>?_
   rw[Z,C];simp only[gn,D];exact(T σ2).at_ _
  ·rename_i e x C;obtain⟨d,D,h⟩:=jx h;obtain⟨y,u,I,T⟩:=ahQ h;injection I with I;have U:eG o d=true:=by unfold eG;rw[D,C];exact Nat.beq_refl d
   refine qO.new D (hp d U) U _ _ I.symm λσ2 O=>?_
   rw[Z,C];simp only[gn,D];rw[O x (by rw[C];simp[Op.operands])];exact(T σ2).at_ _
  ·rename_i t len parts C;obtain⟨d,D,h⟩:=jx h;have U:eG o d=true:=by unfold eG;rw[D,C];exact Nat.beq_refl d
   cases hn:o7 t with
   | true=>
    rw[hn,aq]at h;obtain⟨y,u,I,T⟩:=ahT h;injection I with I
    refine qO.new D (hp d U) U _ _ I.symm λσ2 O=>?_
    rw[Z,C];simp only[gn,D,hn,aq]
    refine(T σ2 λq hq=>O _ ?_).at_ _
    rw[C];simp only[Op.operands];exact List.mem_toArray.2 (List.mem_map_of_mem (f:=(·.2)) hq)
   | false=>
    rw[hn,av]at h;obtain⟨y,I,T⟩:=Xq h;injection I with I
    refine qO.new D (hp d U) U _ _ I.symm λσ2 O=>?_
    rw[Z,C];simp only[gn,D,hn,av]
    refine(T σ2 λq hq=>O _ ?_).at_ _
    rw[C];simp only[Op.operands];exact List.mem_toArray.2 (List.mem_map_of_mem (f:=(·.2)) hq)
  next t x y C=>rw[C]at E;cases E
  ·rename_i t l c C;obtain⟨d,D,h⟩:=jx h;obtain⟨y,I,T⟩:=Xp h;injection I with I;have U:eG o d=true:=by unfold eG;rw[D,C];exact Nat.beq_refl d
   refine qO.new D (hp d U) U _ _ I.symm λσ2 O=>?_
   rw[Z,C];simp only[gn,D];rw[O l (by rw[C];simp[Op.operands]),O c (by rw[C];simp[Op.operands])];exact(T σ2).at_ _
  ·rename_i f args jv C;have X4:∀ σ2:S,(∀ x∈o.op.operands,aI σ2 x=aI σ x)->∀ x∈args.toList,aI σ2 x=aI σ x:=λσ2 O x hx=>O x (by
    rw[C];simp only[Op.operands,Call.operands,Array.mem_append]
    first
     |exact .inr (by simpa using hx)
     |exact .inl (by simpa using hx))
   have nm:∀d,o.dst=some d->∀n,1000000000100000+1000*d<=n->eG o n=true:=λd D n hn=>by unfold eG;rw[D,C];exact iF hn
   split at h
   next c Y=>obtain⟨d,D,h⟩:=jx h;exact X3 D (nm d D) hp (Gn dI Y) (ev:=λσ X k=>rR σ args.toList k) Db (λσ2 O hm X k=>aiA hm _ _ (X4 σ2 O)) (λσ2=>by rw[Z,C];simp only[Y,gn,D];rfl) h
   iterate 5 (rename_i c Y;rw[C]at E;simp[Y]at E)
   next c Y=>obtain⟨d,D,h⟩:=jx h;exact X3 D (nm d D) hp (XZ dI Y) (ev:=λσ X k=>AU σ args.toList k) Xu (λσ2 O hm X k=>aiC hm _ _ (X4 σ2 O)) (λσ2=>by rw[Z,C];simp only[Y,gn,D];rfl) h
   next c Y=>rw[C]at E;simp[Y]at E
   ·cases h
  next x y t t' C=>rw[C]at E;cases E
  next t C=>rw[C]at E;cases E
  next t x i C=>rw[C]at E;cases E
  next t x i v C=>rw[C]at E;cases E
  next t args jv C=>rw[C]at E;cases E
  next f XP C=>rw[C]at E;cases E
  next x t C=>rw[C]at E;cases E
  ·cases h
def X5(C:fC P Φ){ops:Array Oper}:cm λX k=>de (X:=X) P N Φ ops σ o k:=λX Y k g=>by
 unfold de;split
 ·exact X0 C _ _ _ _
 ·exact wL _ _ _ _
 ·rfl
theorem Q8[Inhabited Wd](D:fC P Φ){ops:Array Oper}{k:S->aj X}(h:de P N Φ ops σ o k=some r):∃ C,k C=some r/\de P N Φ ops σ o some=some C:=
 let ⟨C,E,I⟩:=(X5 D).lA h
 ⟨C,E,I S some⟩
def Q9{ops:Array Oper}{b:Bool}(h:fL σ ops o=some b):∀ g c t,o.guard=some (g,c) -> (ops[g]?).bind (·.dst)=some t -> (σ.t t).nI p pb=true:=by
 intro g c t C D;unfold fL at h;rw[C]at h;simp[D]at h;split at h
 next hb=>rw[hb];rfl
 next hb=>rw[hb];rfl
 ·cases h
def Dg{ops:Array Oper}{d:Nat}(h:d ∉ o.looksAt ops)(v:A){x:Operand}(C:x∈o.op.operands):aI (σ.set d v) x=aI σ x:=by
 cases x with
 | tmp t=>
  have:t≠d:=by
   rintro rfl;exact h (List.mem_append_left _ (List.mem_filterMap.2 ⟨.tmp t,by simpa using C,rfl⟩))
  exact cc _ _ _ this
 |_=>rfl
def Ra{ops:Array Oper}{d:Nat}(h:d ∉ o.looksAt ops)(v:A):∀ g b t,o.guard=some (g,b) -> (ops[g]?).bind (·.dst)=some t -> (σ.set d v).t t=σ.t t:=by
 intro g b t C D;have:t≠d:=by
  rintro rfl;refine h (List.mem_append_right _ ?_);simp_all
 exact cc _ _ _ this
def mh(P:Program)(ops:Array Oper)(C:Oper)(p pb:Nat->Bool)(v:A)(σ:S):Prop:=
 (fL σ ops C=some true/\fD C.op=true/\lY (λX k=>mb (X:=X) P σ C.op k) v/\(∀y∈C.op.operands,(aI σ y).nI p pb=true)/\v.nI p pb=true/\∀t y r j,C.op = .load t y->aI σ y = .aH r j->p r=false)\/(fL σ ops C=some false/\v = .skip)
def mh.grow{ops:Array Oper}{U:Oper}{v:A}(h:mh P ops U p pb v σ){Y:S}(C:gD p pb σ Y):mh P ops U p pb v Y:=by
 rcases h with ⟨D,I,h3,E,Z,h6⟩|⟨D,I⟩
 ·refine .inl ⟨?_,I,C.val h3 E Z h6,λy hy=>?_,Z,λt y r j e h=>?_⟩
  ·rw[zn λg b t O T=>C.t (Q9 D g b t O T)];exact D
  ·rw[C.Q5 (E y hy)];exact E y hy
  ·exact h6 t y r j e (by rw[<-C.Q5 (E y (by rw[e];simp[Op.operands]))];exact h)
 ·refine .inr ⟨?_,I⟩;rw[zn λg b t O T=>C.t (Q9 D g b t O T)];exact D
def mh.set{ops:Array Oper}{D:Oper}{v u:A}(h:mh P ops D p pb v σ){d:Nat}(C:d ∉ D.looksAt ops):mh P ops D p pb v (σ.set d u):=by
 rcases h with ⟨E,I,T,U,Y,Z⟩|⟨E,I⟩
 ·refine .inl ⟨?_,I,λX k=>?_,λy O=>?_,Y,λt y r j e h=>?_⟩
  ·rw[zn (Ra C u)];exact E
  ·exact(XR (σ:=σ) (σ2:=σ.set d u) D.op rfl (λx hx=>Dg C u hx) k).trans (T.at_ k)
  ·rw[Dg C u O];exact U y O
  ·exact Z t y r j e (by rw[<-Dg C u (by rw[e];simp[Op.operands])];exact h)
 ·refine .inr ⟨?_,I⟩;rw[zn (Ra C u)];exact E
def mh.put{ops:Array Oper}{C:Oper}{v u:A}(h:mh P ops C p pb v σ){D:aj Tmp}(E:∀ d,D=some d->d ∉ C.looksAt ops):mh P ops C p pb v (fU σ D u):=by
 cases D with
 |none=>exact h
 |some d=>exact h.set (E d rfl)
def mh.nr{ops:Array Oper}{C:Oper}{v:A}(h:mh P ops C p pb v σ):v.nI p pb=true:=by
 rcases h with ⟨_,_,_,_,D,_⟩|⟨_,E⟩
 ·exact D
 ·rw[E];rfl
def X6{x y:aj Tmp}(v u:A)(h:∀ d,x=some d->y≠some d):fU (fU σ x v) y u=fU (fU σ y u) x v:=by
 cases x with
 |none=>rfl
 | some d=>cases y with
  |none=>rfl
  |some e=>exact S.set_set (λC=>h d rfl (bx some C)) v u
def aiM(x:aj Tmp)(v:A):(fU σ x v).m=σ.m:=by cases x<;>rfl
def Kz{ops:Array Oper}{C:aj Tmp}(h:∀ d,C=some d->d ∉ o.looksAt ops)(v:A){x:Operand}(D:x∈o.op.operands):aI (fU σ C v) x=aI σ x:=by
 cases C with
 |none=>rfl
 |some d=>exact Dg (h d rfl) v D
def aiN{ops:Array Oper}{C:aj Tmp}(h:∀ d,C=some d->d ∉ o.looksAt ops)(v:A):fL (fU σ C v) ops o=fL σ ops o:=by
 cases C with
 |none=>rfl
 |some d=>exact zn (Ra (h d rfl) v)
/-! Calls that write blocks alone. -/
def X7{σ2:S}(C:σ2.m=σ.m)(ns:aa Nat):∀ (xs:aa Lf) (k:aa V -> aj X),rW σ2 ns xs k=rW σ ns xs k
 |[],k=>rfl
 | x :: xs,k=>by
  simp[rW,QY C];congr 2;funext y;exact X7 C ns xs _
def aiO{σ2:S}(C:σ2.m=σ.m)(ns:aa Nat)(x:A)(k:Pt->aj X):qJ σ2 ns x k=qJ σ ns x k:=by
 unfold qJ;split<;>simp only[X7 C,C]
def aiP{σ2:S}(C:σ2.m=σ.m)(p:PK)(x:A):uY σ2 p x=uY σ p x:=by
 cases p<;>simp only[uY,C]
def X8{σ2:S}(C:σ2.m=σ.m):∀ (ps:aa PK) (xs:aa Operand),(∀ x∈xs,aI σ2 x=aI σ x)->ji σ2 ps xs=ji σ ps xs
 |[],[],_=>rfl
 |[],_::_,_=>rfl
 |_::_,[],_=>rfl
 | p :: ps,x :: xs,h=>by
  simp only[ji];rw[h x (.head _),aiP C,X8 C ps xs (λy D=>h y (.tail _ D))]
def KA{σ2:S}(E:σ2.m=σ.m)(ns:aa Nat):∀ (ps:aa PK) (xs:aa Operand) (C:aa Mu) (k:kN ps->aj X),(∀ x∈xs,aI σ2 x=aI σ x)->jj σ2 ns ps xs C k=jj σ ns ps xs C k
 |[],[],[],k,_=>rfl
 | .v b t :: ps,x :: xs,C,k,h=>by
  simp only[jj];rw[h x (.head _),aiO E];congr 1;funext p;congr 1;split
  ·exact KA E ns ps xs C _ (λy D=>h y (.tail _ D))
  ·rfl
 | .p t g off :: ps,x :: xs,.ay I cs O :: C,k,h=>by
  simp only[jj];split
  ·exact KA E ns ps xs C _ (λy D=>h y (.tail _ D))
  ·rfl
 | .s t g :: ps,x :: xs,.sl q T :: C,k,h=>by
  simp only[jj];split
  ·exact KA E ns ps xs C _ (λy D=>h y (.tail _ D))
  ·rfl
 |[],[],_::_,k,_=>rfl
 |[],_::_,_,k,_=>rfl
 |.v _ _::_,[],_,k,_=>rfl
 |.p _ _ _::_,[],_,k,_=>rfl
 |.s _ _::_,[],_,k,_=>rfl
 |.p _ _ _::_,_::_,[],k,_=>rfl
 |.s _ _::_,_::_,[],k,_=>rfl
 |.p _ _ _::_,_::_,.sl _ _::_,k,_=>rfl
 |.s _ _::_,_::_,.ay _ _ _::_,k,_=>rfl
def aiQ{m:Nat -> aj aP}{l:Lf}{v:V}{q:Nat}(h:uX m l=some (v,some q)):v.aG=false:=by
 unfold uX at h
 grind
def X9{m:Nat->aj aP}:∀ {cs:aa Lf} {C:aa (V×aj Nat)},qI m cs=some C->(∀ v∈C,v.1.aG=true)->∀ v∈C,v.2=none
 |[],C,h,_=>by injection h with h;subst h;simp
 | c :: cs,C,h,D=>by
  unfold qI at h;split at h
  ·rename_i v T E I;injection h with h;subst h;intro u hu;rcases gk.1 hu with rfl | hu
   ·obtain⟨x,q⟩:=u;cases q with
    |none=>rfl
    |some q=>have:=aiQ E;rw[D _ (.head _)]at this;cases this
   ·exact X9 I (λv O=>D v (.tail _ O)) u hu
  ·cases h
def Ya{i:Nat}:∀ (C:aa (V×aj Nat)) (j:Nat),(∀ v∈C,v.2=none) -> C2 i j C=[]
 |[],_,_=>rfl
 | (x,q) :: C,j,h=>by
  have:=h _ (.head _);subst this;exact Ya C _ (λv D=>h v (.tail _ D))
def Rb:∀ (C:aa Nat) (xs:aa V),(∀ x∈xs,x.aG=true)->va C xs=[]/\tJ C xs=[]
 |[],[],_=>⟨rfl,rfl⟩
 |[],_::_,_=>⟨rfl,rfl⟩
 |_::_,[],_=>⟨rfl,rfl⟩
 | n :: C,x :: xs,h=>by
  simp only[va,tJ,h x (.head _),aq];exact Rb C xs (λx D=>h x (.tail _ D))
def Dh(ps:aa PK):Bool:=ps.all λp=>match p with
 |.v _ _=>true
 |.p _ g _=>Nat.beq g 0
 |.s _ _=>false
def Rc{ns:aa Nat}:∀ (ps:aa PK) (xs:aa Operand) (D:aa Mu) (k:kN ps->aj X),Dh ps=true->ji σ ps xs=some D->jj σ ns ps xs D k=some r->∀ (i E c0:Nat) (y:qG (dZ ps)),
  (∀p∈kO i D,p.1∈ir σ ps xs)/\mW c0 E D (iM (dZ ps) y)=[]/\∀(Z cn:aa Nat),∀p∈kP Z cn c0 E D (iM (dZ ps) y),p.1∈ir σ ps xs
 | [],[],D,k,_,C,h=>by
  injection C with C;subst C;intro i E c0 y;exact⟨(λp hp=>by cases hp),by simp[mW],(λ_ _ p hp=>by simp[kP]at hp)⟩
 | .v b t :: ps,x :: xs,D,k,U,C,h=>by
  have rN:ji σ ps xs=some D:=by
   unfold ji at C;split at C
   next mu Y I O=>exact(uZ I).elim
   next Y I O=>rw[O];exact C
   ·cases C
  have rM:Dh ps=true:=by simpa [Dh]using U
  unfold jj at h;obtain⟨p,O,_⟩:=XC.lA h;cases hb:p.1==b with
  |false=>rw[hb]at O;cases O
  | true=>
   rw[hb,aq]at O;split at O
   ·intro i E c0 y;exact Rc ps xs D _ rM rN O i E c0 y
   ·cases O
 | .p t g off :: ps,x :: xs,D,k,U,C,h=>by
  unfold ji at C;split at C
  ·rename_i mu Y I O;injection C with C;subst C;have I:=uZ I;cases mu with
   |sl=>exact I.elim
   | ay r' cs T=>
    have I:aI σ x = .aH r' off/\yZ σ (.ay r' cs T):=I;have U:Nat.beq g 0=true/\Dh ps=true:=by simpa [Dh]using U
    have hg:=cE U.1;subst hg;unfold jj at h;split at h
    ·rename_i z hz;have hz:dec t 0 (T.map (·.1))=some z:=hz;have hw:=lz t 0 _ z hz;have Rd:∀ v∈T,v.1.aG=true:=by
      intro v hv;obtain⟨j,hj⟩:=List.mem_iff_getElem?.1 hv;have KB:(T.map (·.1))[j]?=some v.1:=by rw[dW,hj];rfl
      have vZ:j<(enc t 0 z).length:=by rw[<-hw.1];exact(dA.1 KB).1
      have hk:=hw.2 j _ _ KB (bH vZ);have pg:=oR t 0 z (by omega) j _ (bH vZ);cases Rd:v.1.aG with
      |true=>rfl
      |false=>rw[hk.P1 Rd]at pg;cases pg
     have hn:=X9 I.2.2.1 Rd;intro i E c0 y;obtain⟨k1,k2,k3⟩:=Rc ps xs Y _ U.2 O h (i+1) (E+1+T.length) c0 y.2;have Yb:∀ u∈enc t 0 y.1,u.aG=true:=by
      intro u hu;obtain⟨j,hj⟩:=List.mem_iff_getElem?.1 hu;exact oR t 0 y.1 (by omega) j u hj
     have A7:ir σ (.p t 0 off::ps) (x::xs)=r'::ir σ ps xs:=by simp only[ir,I.1]
     rw[A7]
     refine⟨λp hp=>?_,?_,λZ cn p hp=>?_⟩
     ·simp only[kO,Ya T 0 hn,List.nil_append]at hp;rcases gk.1 hp with rfl | hp
      ·exact .head _
      ·exact .tail _ (k1 p hp)
     ·show va (l6 c0 (E+1) T) (enc t 0 y.1)++mW c0 (E+1+T.length) Y (iM (dZ ps) y.2)=[]
      rw[(Rb _ _ Yb).1,k2];rfl
     ·have hp:p∈(r',aP.ay (ov Z cn (l6 c0 (E+1) T) cs (enc t 0 y.1))) :: (tJ (l6 c0 (E+1) T) (enc t 0 y.1)++kP Z cn c0 (E+1+T.length) Y (iM (dZ ps) y.2)):=hp;rw[(Rb _ _ Yb).2,List.nil_append]at hp;rcases gk.1 hp with rfl | hp
      ·exact .head _
      ·exact .tail _ (k3 Z cn p hp)
    ·cases h
  next Y I O=>exact(uZ I).elim
  ·cases C
 |.s t g::ps,x::xs,D,k,U,C,h=>by simp[Dh]at U
 |[],_::_,D,k,_,C,h=>by cases C
 |_::_,[],D,k,_,C,h=>by cases C
def S.Re{ns:aa Nat}{nr:aa (Nat×aP)}(v:A)(h:v.cX ns []=v):(σ.set d v).cX ns [] nr=(σ.cX ns [] nr).set d v:=by
 refine S.ext' (λk=>?_) λ_=>rfl
 show (bG σ.t d v k).cX ns []=bG (λk=>(σ.t k).cX ns []) d v k;by_cases C:k=d
 ·subst C;rw[bJ,bJ];exact h
 ·rw[cc _ _ _ C,cc _ _ _ C]
def KD{n:Nat}{x:aP}:∀ {l:aa (Nat×aP)},l.lookup n=some x -> (n,x)∈l
 |[],h=>by cases h
 | q :: l,h=>by
  rw[List.lookup_cons]at h;cases hb:n==q.1 with
  |true =>grind
  |false=>rw[hb]at h;exact .tail _ (KD h)
theorem aiR{τ:S}{f:Nat}{args:Array Operand}{jv:Array TypeId}{c:mV}(Z:o.op = .call { callee:=.value (.func f),args,argTypes:=jv })(hc:Φ f=some (.m c))(hfl:Kt c=true)(hp:∀ n,eG o n=true->p n=true/\pb n=true)(zd:∀ n∈ir σ c.ps args.toList,p n=true)
  (h:dm P N Φ σ o some=some τ):Nonempty (qO P N Φ o p pb σ τ):=by
 have dV:∀ σ2,dm P N Φ σ2 o some=nE N σ2 o.dst c args.toList some:=by
  intro σ2;unfold dm;rw[show fD o.op=false by rw[Z];rfl,av];simp only[gR,Z,hc]
 rw[dV]at h;have Yc:∀ σ2:S,(∀ x∈o.op.operands,aI σ2 x=aI σ x)->∀ x∈args.toList,aI σ2 x=aI σ x:=by
  intro σ2 E x U;refine E x ?_;rw[Z];simp only[Op.operands,Call.operands];simp only[Array.mem_append]
  first
   |exact .inr (by simpa using U)
   |exact .inl (by simpa using U)
 unfold nE at h;split at h
 ·rename_i O tK;cases jN:(once (kO 0 O)&&Nat.ble O.length 40)with
  |false=>rw[jN]at h;cases h
  | true=>
   rw[jN,aq]at h;have aiS:=Rc c.ps args.toList O _ hfl tK h;obtain⟨x,C,hd⟩:=(Kk _ _ _).lA h;split at C
   ·rename_i y hy;obtain⟨k1,k2,k3⟩:=aiS 0 (eJ c.ro y.1).len (gP o.dst) y.2;unfold C5 at C;rw[k2]at C;generalize jk:C4 N O (iM (dZ c.ps) y.2) []=ok at C;cases ok with
    |false=>cases C
    | true=>
     rw[aq]at C;generalize yz:(kO 0 O).map (·.1)=ns at C hd;generalize vc:kP ns [] (gP o.dst) (eJ c.ro y.1).len O (iM (dZ c.ps) y.2)=nr at C;have KE:Q1 p ns nr:=by
      refine⟨λn D=>?_,λn x U=>?_⟩
      ·rw[<-yz]at D;obtain⟨q,hq,e⟩:=List.mem_map.1 (tE.1 D);rw[<-e];exact zd _ (k1 q hq)
      ·rw[<-vc]at U;exact zd _ (k3 ns [] _ (KD U))
     have oy:∀ σ2:S,(∀ x∈o.op.operands,aI σ2 x=aI σ x)->σ2.m=σ.m->nE N σ2 o.dst c args.toList some=oY N (σ2.cX ns [] nr) o.dst (eJ c.ro y.1) some:=by
      intro σ2 E T;simp only[nE];rw[X8 T _ _ (Yc σ2 E),tK];simp only[jN,aq];rw[yz,KA T _ _ _ _ _ (Yc σ2 E)];refine(hd S _).trans ?_;simp only[hy,C5,k2,jk,aq,vc]
     have Yd:∀ (σ:S) t r j,σ.t t = .aH r j->(σ.cX ns [] nr).t t = .aH r j:=by
      intro σ t r j Y;show A.cX ns [] (σ.t t)=_;rw[Y];rfl
     generalize jL:eJ c.ro y.1=res at C oy;cases I:o.dst with
     | none=>
      rw[I]at C;have C:some (σ.cX ns [] nr)=some τ:=C;injection C with C;exact⟨{ G:=λσ=>σ.cX ns [] nr,u:=.undef,eq:=by rw[I];exact C.symm,run:=λσ2 E T=>by rw[dV,oy σ2 E T,I];rfl,grow:=λσ=>.cX ns nr KE (.refl σ),set:=λσ e v hv=>S.Re v (A.Q4 hv KE.ns),bp:=λ_ σ t r j Y _=>Yd σ t r j Y }⟩
     | some d=>
      rw[I]at C;have lF:∀n,1000000000100000+1000*d<=n->eG o n=true:=λn D=>by unfold eG;rw[I,Z];exact iF D
      have qP:∀n,1000000000100000+1000*d<=n->p n=true/\pb n=true:=λn D=>hp n (lF n D)
      cases hN:Nat.blt d N with
      |false=>simp only[oY,hN,av]at C;cases C
      | true=>
       have e:∀σ,oY N σ (some d) res some=mT σ d res some:=λσ=>by simp only[oY,hN,aq]
       rw[e]at C;obtain⟨ps,u,hG⟩:=Q7 C;rw[hG]at C;injection C with C;exact⟨{ G:=λσ=>nB (1000000000100000+1000*d) (σ.cX ns [] nr) ps,u:=u,eq:=by rw[I];exact C.symm,run:=λσ2 E T=>by rw[dV,oy σ2 E T,I,e,hG];rfl,grow:=λσ=>(gD.cX ns nr KE (.refl σ)).trans (Gq ps _ _ qP),set:=λσ e v hv=>by rw[S.Re v (A.Q4 hv KE.ns),Qr v ps _ _ λn D=>A.A5 hv (qP n D).1 (qP n D).2],bp:=λ_ σ t r j Y hr=>(Gq (p:=eG o) (pb:=eG o) ps _ _ (λn D=>⟨lF n D,lF n D⟩)).bp (Yd σ t r j Y) hr }⟩
   ·cases C
 ·cases h
def Calm(Φ:dR)(ok:Nat->Nat->Bool)(qQ mc p pb:Nat->Bool)(σ:S)(o:Oper):Prop:=
 Ks Φ o.op=true\/(∃f args D c,o.op = .call { callee:=.value (.func f),args:=args,argTypes:=D }/\Φ f=some (.m c)/\Kt c=true/\r4 ok σ c.ps args.toList=true/\∀n∈ir σ c.ps args.toList,p n=true)\/
 (∃ty t y,o.op = .store ty (.tmp t) y/\o.dst=none/\qQ t=true/\jy p (σ.t t))\/
 ∃x y t C,o.op = .call ⟨.builtin .append,⟨[.tmp x,y]⟩,⟨[t,C]⟩⟩/\mc x=true/\(o7 t=false/\Nat.beq t C=true/\Bc o.dst t (.tmp x)=false)/\qN p pb (σ.t x)
theorem aiT{Z:S}{ty:TypeId}{t:Tmp}{y:Operand}(I:o.op = .store ty (.tmp t) y)(Y:o.dst=none)(C:jy p (σ.t t))(h:dm P N Φ σ o some=some Z):Nonempty (qO P N Φ o p pb σ Z):=by
 have FX:∀ (x:A) (z:A),(∀ k,x ≠ .ptr k) -> wN x z=false:=by
  intro x z E;unfold wN;split
  ·grind
  ·rfl
 have dV:∀ σ2:S,(∀ k,σ2.t t ≠ .ptr k) -> dm P N Φ σ2 o some=oV P σ2 ty (σ2.t t) (aI σ2 y) some:=by
  intro σ2 KF;unfold dm;rw[show fD o.op=false by rw[I];rfl,av];simp only[gR,I,Y];rw[show wN (aI σ2 (.tmp t)) (aI σ2 y)=false from FX _ _ KF,av];rfl
 rw[dV σ (λk O=>by rw[O]at C;exact C)]at h;cases E:σ.t t with
 | aH D j=>
  rw[E]at h C;have hp:p D=true:=C;have key:∃ x,∀ σ2:S,σ2.m=σ.m -> ∀ v,v=aI σ y -> oV P σ2 ty (.aH D j) v some=some (σ2.root D x):=by
   unfold oV at h;split at h
   ·rename_i n xs hn n9;split at h
    ·rename_i hlen;simp only at h;split at h
     ·rename_i cs gj;split at h
      ·rename_i hj;cases hl:xs.all Lf.live with
       |false=>grind
       | true=>
        refine⟨.ay (splice cs j xs),λσ2 T v hv=>?_⟩
        subst hv;simp only[oV,hn,n9,aV hlen,T,gj,aV hj,hl,aq];simp only[S.root,T]
      ·cases h
     ·cases h
    ·cases h
   ·cases h
  obtain⟨x,lC⟩:=key;have U:=lC σ rfl _ rfl;rw[h]at U;injection U with U
  refine⟨{ G:=λσ=>σ.root D x,u:=.undef,eq:=by rw[Y];exact U,run:=λσ2 r7 T=>?_,grow:=λσ=>.rt D x hp (.refl σ),set:=λσ d v hv=>rfl,bp:=λ_ σ t r j ht _=>ht }⟩
  have e1:σ2.t t = .aH D j:=(r7 (.tmp t) (by rw[I];simp[Op.operands])).trans E;rw[dV σ2 (λk O=>by rw[e1]at O;cases O),e1,lC σ2 T _ (r7 y (by rw[I];simp[Op.operands])),Y];rfl
 |ptr k=>rw[E]at C;exact C.elim
 | _=>
  rw[E]at h;exfalso;revert h;unfold oV;split
  ·grind
  ·grind
def cq(e:Nat)(x:aP)(u:A)(σ:S):S:=((σ.drop e).root e x).set e u
def mj(e:Nat)(u:A):Prop:=u = .aH e 0\/u = .lf (.own [e])
structure jP (x:aP):Prop where
 bY:∀K:mP,x.bY K=x
def jP.drop{x:aP}(h:jP x)(n:Nat):x.drop n=x:=h.bY _
def jP.cX{x:aP}(h:jP x)(ns cn:aa Nat):x.cX ns cn=x:=h.bY _
def jP.zero(C:aa Value):jP (.ay (C.map nv)):=⟨λK=>bx aP.ay (qw.nX (bN.2 λc D=>by
 obtain⟨v,_,rfl⟩:=List.mem_map.1 D;unfold nv;split<;>rfl))⟩
def Ye(h:vf o=true):∃ t,∃ e:Nat,o.op = .alloc t/\o.guard=none/\o.dst=some e/\e<20000:=by
 unfold vf at h;rw[aJ,aJ]at h;obtain⟨⟨C,E⟩,D⟩:=h;split at C
 ·rename_i t I;split at D
  ·simp_all
  ·cases D
 ·cases C
def aiU{ops:Array Oper}{t:TypeId}{e:Nat}(D:o.op = .alloc t)(O:o.guard=none)(T:o.dst=some e){E:S}(h:de P N Φ ops σ o some=some E):∃ x,jP x/\E=cq e x (.aH e 0) σ/\∀ σ2,de P N Φ ops σ2 o some=some (cq e x (.aH e 0) σ2):=by
 have I:∀ σ2,de P N Φ ops σ2 o some=qz P N σ2 e t some:=by
  intro σ2;unfold de fL;rw[O];simp only;unfold dm;rw[show fD o.op=false by rw[D];rfl,av];simp only[gR,D,gn,T]
 rw[I]at h;unfold qz at h;split at h
 ·rename_i z U;unfold gI at h;cases C:Nat.blt e N with
  |false=>rw[C]at h;cases h
  | true=>
   rw[C,aq]at h;injection h with h
   refine⟨_,.zero _,h.symm,λσ2=>(I σ2).trans ?_⟩
   unfold qz gI;rw[U,C];rfl
 ·cases h
def Gr{σ2:S}:∀ (ps:aa PK) (xs:aa Operand),(∀ x∈xs,aI σ2 x=aI σ x) -> ir σ2 ps xs=ir σ ps xs
 |[],[],_=>rfl
 |[],_::_,_=>rfl
 |.v _ _::_,[],_=>rfl
 |.p _ _ _::_,[],_=>rfl
 |.s _ _::_,[],_=>rfl
 |.v _ _::ps,x::xs,h=>by simp[ir];exact Gr ps xs (λy C=>h y (.tail _ C))
 |.s _ _::ps,x::xs,h=>by simp only[ir];exact Gr ps xs (λy C=>h y (.tail _ C))
 | .p _ _ _ :: ps,x :: xs,h=>by
  simp only[ir];rw[h x (.head _),Gr ps xs (λy C=>h y (.tail _ C))]
def Rf{ok:Nat -> Nat -> Bool}{σ2:S}(D:∀ t r j,σ.t t = .aH r j -> ok t r=true -> σ2.t t = .aH r j):∀ (ps:aa PK) (xs:aa Operand),r4 ok σ ps xs=true -> r4 ok σ2 ps xs=true/\ir σ2 ps xs=ir σ ps xs
 |[],[],_=>⟨rfl,rfl⟩
 | .v _ _ :: ps,x :: xs,h=>by
  exact Rf D ps xs h
 | .p _ _ _ :: ps,x :: xs,h=>by
  cases x with
  | tmp t=>
   simp[r4,aJ]at h;obtain⟨C,I⟩:=h;obtain⟨O,T⟩:=Rf D ps xs I;split at C
   ·rename_i U j E;have e:=D t U j E C;refine⟨?_,?_⟩
    ·simp only[r4,aJ];exact⟨by rw[e];exact C,O⟩
    ·simp only[ir,aI,e,E,T]
   ·cases C
  |const v=>simp[r4]at h
  |global g=>simp[r4]at h
  |func f=>simp[r4]at h
def Calm.iW{ok:Nat->Nat->Bool}{qQ mc:Nat->Bool}{σ2:S}(h:Calm Φ ok qQ mc p pb σ o)(O:∀ t r j,σ.t t = .aH r j->ok t r=true->σ2.t t = .aH r j)(T:∀ t,qQ t=true->jy p (σ.t t)->jy p (σ2.t t))(U:∀ t,mc t=true->qN p pb (σ.t t)->qN p pb (σ2.t t)):Calm Φ ok qQ mc p pb σ2 o:=by
 rcases h with h|⟨f,args,Y,c,E,C,D,I,Z⟩|⟨ty,t,y,E,C,D,I⟩|⟨x,y,t,t',E,C,hn,D⟩
 ·exact .inl h
 ·obtain⟨k1,k2⟩:=Rf O _ _ I;exact .inr (.inl ⟨f,args,Y,c,E,C,D,k1,by rw[k2];exact Z⟩)
 ·exact .inr (.inr (.inl ⟨ty,t,y,E,C,D,T t D I⟩))
 ·exact .inr (.inr (.inr ⟨x,y,t,t',E,C,hn,U x C D⟩))
def KG{ops:Array Oper}(U:nH o=true)(Y:fL σ ops o=some true){τ:S}(h:de P N Φ ops σ o some=some τ):∃ (e:Nat) (x:aP) (u:A),o.dst=some e/\e<20000/\jP x/\mj e u/\τ=cq e x u σ/\
  ∀σ2,fL σ2 ops o=some true->(∀y∈o.op.operands,aI σ2 y=aI σ y)->de P N Φ ops σ2 o some=some (cq e x u σ2):=by
 have Z:fD o.op=false->∀ σ2,fL σ2 ops o=some true->de P N Φ ops σ2 o some=gR P N Φ σ2 o some:=by
  intro hv σ2 I;unfold de;rw[I];simp only;unfold dm;rw[hv,av]
 have Yf:∀y:V,jP (.sl y):=λy=>⟨λ_=>rfl⟩
 unfold nH at U;rw[aJ]at U;obtain⟨Gs,r8⟩:=U;split at r8
 ·rename_i e D;have c9:e<20000:=cr r8;split at Gs
  ·rename_i t C;have E:=Z (by rw[C];rfl);rw[E σ Y]at h;simp only[gR,C,gn,D]at h;unfold qz at h;split at h
   ·rename_i z hz;unfold gI at h;cases hN:Nat.blt e N with
    |false=>rw[hN]at h;cases h
    | true=>
     rw[hN,aq]at h;injection h with h
     refine⟨e,.ay (z.cells.toList.map nv),.aH e 0,D,c9,.zero _,.inl rfl,h.symm,λσ2 I _=>(E σ2 I).trans ?_⟩
     simp only[gR,C,gn,D];unfold qz gI;rw[hz,hN];rfl
   ·cases h
  ·rename_i t len parts C;have E:=Z (by rw[C];rfl);rw[E σ Y]at h;have hn:o7 t=false:=by simpa using Gs
   simp only[gR,C,gn,D,hn,av]at h;obtain⟨y,O,h2⟩:=Xq h;injection O with O
   refine⟨e,.sl y,.lf (.own [e]),D,c9,Yf y,.inr rfl,O.symm,λσ2 I T=>(E σ2 I).trans ?_⟩
   simp only[gR,C,gn,D,hn,av]
   refine(h2 σ2 λq hq=>T _ ?_).at_ _
   rw[C];simp only[Op.operands];exact List.mem_toArray.2 (List.mem_map_of_mem (f:=(·.2)) hq)
  ·rename_i t l c C;have E:=Z (by rw[C];rfl);rw[E σ Y]at h;simp only[gR,C,gn,D]at h;obtain⟨y,O,h2⟩:=Xp h;injection O with O
   refine⟨e,.sl y,.lf (.own [e]),D,c9,Yf y,.inr rfl,O.symm,λσ2 I T=>(E σ2 I).trans ?_⟩
   simp only[gR,C,gn,D];rw[T l (by rw[C];simp[Op.operands]),T c (by rw[C];simp[Op.operands])];exact(h2 σ2).at_ _
  ·cases Gs
 ·cases r8
def KH{d:Nat}{t:TypeId}{y z:A}{U:S}(h:tj P N σ d t y z some=some U):∃ (r:Nat) (v:V),U=((σ.drop r).root r (.sl v)).set d (.lf (.own [r]))/\(r=d\/y = .lf (.own [r]))/\
  ∀σ2:S,(∀(k:V->aj S),rL σ2 z k=rL σ z k)->(∀r v,y = .lf (.own [r])->σ.m r=some (.sl v)->σ2.m r=some (.sl v))->tj P N σ2 d t y z some=some (((σ2.drop r).root r (.sl v)).set d (.lf (.own [r]))):=by
 unfold tj at h;split at h
 ·rename_i e tc Y;cases I:(Nat.beq (full tc) 0&&(zeroOf P e).any (λz=>Nat.beq z.cells.size (aB tc)))with
  |false=>rw[I]at h;cases h
  | true=>
   rw[I,aq]at h;obtain⟨yv,C,Z⟩:=Qm.lA h;clear h;split at C
   ·cases C
   ·rename_i l2 kM;split at C
    ·cases D:cv l2.length with
     |false=>rw[D]at C;cases C
     | true=>
      rw[D,aq]at C;cases O:Nat.blt d N with
      |false=>unfold gI at C;rw[O]at C;cases C
      | true=>
       have E:=C;unfold gI at E;rw[O,aq]at E;injection E with E
       refine⟨d,.sl tc 2 false l2,E.symm,.inl rfl,λσ2 T r8=>?_⟩
       simp only[tj,Y,I,aq];refine(T _).trans ((Z.at_ _).trans ?_);simp only[kM,D,aq];unfold gI;rw[O,aq]
    ·rename_i rr;split at C
     ·rename_i t' o q l hm;split at C
      ·rename_i mR;cases D:(Nat.blt d N&&(Nat.blt rr N || Nat.ble 60000 rr)&&cv (l.length+l2.length))with
       |false=>rw[D]at C;cases C
       | true=>
        rw[D,aq]at C;injection C with C
        refine⟨rr,_,C.symm,.inr rfl,λσ2 T r8=>?_⟩
        simp only[tj,Y,I,aq];refine(T _).trans ((Z.at_ _).trans ?_);simp only[kM,r8 rr _ rfl hm,aO mR,D,aq]
      ·cases C
     ·cases C
    ·cases C
 ·cases h
def Rg(h:isApp o=true):∃ x y t C,o.op = .call ⟨.builtin .append,⟨[x,y]⟩,⟨[t,C]⟩⟩/\o7 t=false/\Nat.beq t C=true/\Bc o.dst t x=false:=by
 unfold isApp at h
 grind
def Gt{x y:Operand}{t D:TypeId}(E:o.op = .call ⟨.builtin .append,⟨[x,y]⟩,⟨[t,D]⟩⟩)(I:o7 t=false)(O:Nat.beq t D=true)(C:Bc o.dst t x=false)(σ:S):dm P N Φ σ o some=gn o λd=>tj P N σ d t (aI σ x) (aI σ y) some:=by
 unfold dm;rw[show fD o.op=false by rw[E];rfl];simp[gR,E,I,O,aq];unfold gn;cases T:o.dst with
 |none=>rfl
 | some d=>
  rw[T]at C;have C:Kr t d x=false:=C;simp_all
theorem aiV{U:S}{x:Tmp}{y:Operand}{t Y:TypeId}(C:o.op = .call ⟨.builtin .append,⟨[.tmp x,y]⟩,⟨[t,Y]⟩⟩)(E:o7 t=false)(I:Nat.beq t Y=true)(O:Bc o.dst t (.tmp x)=false)(hp:∀ n,eG o n=true->p n=true/\pb n=true)(jK:qN p pb (σ.t x))(h:dm P N Φ σ o some=some U):Nonempty (qO P N Φ o p pb σ U):=by
 rw[Gt C E I O]at h;obtain⟨d,T,h⟩:=jx h;obtain⟨r,v,gQ,hr,oy⟩:=KH h;have D:p r=true/\pb r=true:=by
  rcases hr with hr|hr
  ·rw[hr];exact hp d (by unfold eG;rw[T,C];exact Nat.beq_refl d)
  ·exact jK r hr
 refine⟨{ G:=λσ=>(σ.drop r).root r (.sl v),u:=.lf (.own [r]),eq:=by rw[T];exact gQ,run:=λσ2 Z hm=>?_,grow:=λσ=>.root r _ D.1 D.2 (.refl σ),set:=λσ e v' hv=>(by rw[S.drop_set r (A.A5 hv D.1 D.2)];rfl),bp:=λha=>(by rw[isApp,C]at ha;simp[E,I,O]at ha) }⟩
 rw[Gt C E I O];unfold gn;rw[T];simp only;rw[Z (.tmp x) (by rw[C];simp[Op.operands,Call.operands]),Z y (by rw[C];simp[Op.operands,Call.operands]),oy σ2 (λk=>aiz hm _ k) (λr' v' _ h'=>by rw[hm];exact h')];rfl
theorem aiW[Inhabited Wd](dI:fC P Φ){ok:Nat->Nat->Bool}{qQ mc me:Nat->Bool}(hX:∀ x,me x=true->jy p (σ.t x)){ops:Array Oper}{oi D:Oper}{v:A}{τ:S}(hF:mh P ops oi p pb v σ)(ha:oi.apart ops D=true)(O:Calm Φ ok qQ mc p pb σ D)(hp:∀ n,eG D n=true->p n=true/\pb n=true)
  (h:de P N Φ ops (fU σ oi.dst v) D some=some τ):∃ U,de P N Φ ops σ D some=some U/\τ=fU U oi.dst v/\mh P ops oi p pb v U/\(isApp D=false->∀ t r j,σ.t t = .aH r j->D.dst≠some t->eG D r=false->U.t t = .aH r j)/\
   (∀t,jy p (σ.t t)->(D.dst≠some t\/(vf D=true/\p t=true)\/∃s x f,D.op = .fieldAddr s (.tmp x) f/\me x=true)->jy p (U.t t))/\
   ∀t,qN p pb (σ.t t)->(D.dst≠some t\/(nH D=true/\p t=true/\pb t=true)\/(isApp D=true\/zm Φ D=true))->qN p pb (U.t t):=by
 obtain⟨a1,a2,a3⟩:=Oper.apart_spec ha;have Di:∀ (σ:S) (u:A) t,D.dst≠some t->(fU σ D.dst u).t t=σ.t t:=by
  intro σ u t O;cases T:D.dst with
  |none=>rfl
  |some d=>exact cc _ _ _ (by rintro rfl;exact O T)
 have Dj:∀ U,de P N Φ ops σ D some=some U->∀ t,vf D=true->D.dst=some t->p t=true->jy p (U.t t):=by
  intro U C t Dj T QG;obtain⟨ty,e,E,Y,h3,_⟩:=Ye Dj;rw[h3]at T;injection T with T;subst T;obtain⟨x,_,e1,_⟩:=aiU E Y h3 C;rw[e1];show jy p (bG _ e (.aH e 0) e);rw[bJ];exact QG
 have fin:∀ U,de P N Φ ops σ D some=some U->(∀ t,D.dst≠some t->jy p (σ.t t)->jy p (U.t t))->∀ t,jy p (σ.t t)->(D.dst≠some t\/(vf D=true/\p t=true)\/∃ s x f,D.op = .fieldAddr s (.tmp x) f/\me x=true)->jy p (U.t t):=by
  intro U C hk t O Rh;rcases Rh with ck|⟨E,Y⟩|⟨s,x,f,E,Y⟩
  ·exact hk t ck O
  ·by_cases T:D.dst=some t
   ·exact Dj U C t E T Y
   ·exact hk t T O
  ·by_cases T:D.dst=some t
   ·unfold de at C;split at C
    ·unfold dm at C;rw[show fD D.op=true by rw[E];rfl,aq]at C;rw[E]at C;simp only[mb]at C;have hx:=hX x Y;have hx:jy p (aI σ (.tmp x)):=hx;generalize aI σ (.tmp x)=z at hx C;have key:∀ v,gG N σ D.dst v some=some U->jy p v->jy p (U.t t):=by
      intro v hv hA;obtain⟨I,_⟩:=r6 hv;injection I with I;rw[<-I,T];show jy p (bG σ.t t v t);rw[bJ];exact hA
     unfold CM at C;split at C
     ·cases C
     ·split at C
      ·split at C
       ·exact key _ C hx
       ·exact key _ C trivial
       ·exact hx.elim
       ·cases C
      ·cases C
    ·obtain⟨I,_⟩:=r6 C;injection I with I;rw[<-I,T];show jy p (bG σ.t t .skip t);rw[bJ];trivial
    ·cases C
   ·exact hk t T O
 have aiX:=O;have Yg:∀ U,de P N Φ ops σ D some=some U->(∀ t,D.dst≠some t->qN p pb (σ.t t)->qN p pb (U.t t))->∀ t,qN p pb (σ.t t)->(D.dst≠some t\/(nH D=true/\p t=true/\pb t=true)\/(isApp D=true\/zm Φ D=true))->qN p pb (U.t t):=by
  intro U C hk t O Rh;rcases Rh with ck|⟨E,Y⟩|aiY|Bg
  ·exact hk t ck O
  ·by_cases T:D.dst=some t
   ·cases hw:fL σ ops D with
    |none=>unfold de at C;rw[hw]at C;cases C
    | some b=>
     cases b with
     | true=>
      obtain⟨e,x,u,I,g2,g3,g4,g5,_⟩:=KG E hw C;rw[T]at I;injection I with I;subst I;rw[g5];intro r hr;have hr:bG _ t u t = .lf (.own [r]):=hr;rw[bJ]at hr;rcases g4 with g4|g4
      ·rw[g4]at hr;cases hr
      ·rw[g4]at hr;injection hr with hr;injection hr with hr;injection hr with hr;subst hr;exact Y
     | false=>
      unfold de at C;rw[hw]at C;obtain⟨I,_⟩:=r6 C;injection I with I;rw[<-I,T];intro r hr;have hr:bG σ.t t .skip t = .lf (.own [r]):=hr;rw[bJ]at hr;cases hr
   ·exact hk t T O
  ·by_cases T:D.dst=some t
   ·obtain⟨x,y,t1,t2,I,g2,g3,g4⟩:=Rg aiY;have hT:qN p pb (aI σ x):=by
     rcases aiX with q|⟨f,args,jv,c,q1,_⟩|⟨ty,tt,yy,q1,_⟩|⟨x',y',t1',t2',q1,q2,q3,q4⟩
     ·rw[I]at q;cases q
     ·rw[I]at q1;cases q1
     ·rw[I]at q1;cases q1
     ·rw[I]at q1;injection q1 with q1;injection q1 with _ q1 _;injection q1 with q1;injection q1 with q1 _;subst q1;exact q4
    cases hw:fL σ ops D with
    |none=>unfold de at C;rw[hw]at C;cases C
    | some b=>
     cases b with
     | true=>
      unfold de at C;rw[hw]at C;have C:dm P N Φ σ D some=some U:=C;rw[Gt I g2 g3 g4]at C;obtain⟨d,tP,C⟩:=jx C;rw[T]at tP;injection tP with tP;subst tP;obtain⟨r,v,gQ,hr,_⟩:=KH C;rw[gQ];intro r' fo;have fo:bG ((σ.drop r).root r (.sl v)).t t (.lf (.own [r])) t = .lf (.own [r']):=fo;rw[bJ]at fo;injection fo with fo;injection fo with fo;injection fo with fo;subst fo;rcases hr with hr|hr
      ·rw[hr];exact hp t (by unfold eG;rw[T,I];exact Nat.beq_refl t)
      ·exact hT r hr
     | false=>
      unfold de at C;rw[hw]at C;obtain⟨I,_⟩:=r6 C;injection I with I;rw[<-I,T];intro r hr;have hr:bG σ.t t .skip t = .lf (.own [r]):=hr;rw[bJ]at hr;cases hr
   ·exact hk t T O
  ·by_cases T:D.dst=some t
   ·cases hw:fL σ ops D with
    |none=>unfold de at C;rw[hw]at C;cases C
    | some b=>
     cases b with
     | true=>
      unfold de at C;rw[hw]at C;have C:dm P N Φ σ D some=some U:=C;unfold zm at Bg;split at Bg
      ·rename_i f args jv ho;split at Bg
       ·rename_i c hc;unfold dm at C;rw[show fD D.op=false by rw[ho];rfl,av]at C;simp only[gR,ho,hc]at C;obtain⟨d,tP,C⟩:=jx C;rw[T]at tP;injection tP with tP;subst tP;obtain⟨res,rO,E,Y,_⟩:=Kc (Gn dI hc) Db C;injection Y with Y;subst Y;have lF:∀ n,1000000000100000+1000*t<=n->p n=true/\pb n=true:=λn hn=>hp n (by unfold eG;rw[T,ho];exact iF hn)
        intro r hr;unfold mT at E;cases res with
        | one q=>
         simp only at E;split at E
         ·rename_i y Z;injection E with E;rw[<-E]at hr;have hr:bG _ t y t=A.lf (Lf.own [r]):=hr;rw[bJ]at hr;subst hr;obtain⟨b,vs⟩:=q;cases b with
          |true=>cases Z
          | false=>
           match vs,Z with
           | [v],Z=>
            have Z:some (A.lf (bif v.aG then Lf.v v else Lf.own [1000000000100000+1000*t]))=some (A.lf (Lf.own [r])):=Z;injection Z with Z;injection Z with Z;cases hf:v.aG with
            |true=>rw[hf]at Z;cases Z
            | false=>
             rw[hf]at Z;injection Z with Z;injection Z with Z;subst Z;exact lF _ (dz _)
         ·cases E
        | eO ps=>
         injection E with E;rw[<-E]at hr;have hr:bG _ t _ t=A.lf (Lf.own [r]):=hr;rw[bJ]at hr;cases hr
       ·cases Bg
      ·cases Bg
     | false=>
      unfold de at C;rw[hw]at C;obtain⟨I,_⟩:=r6 C;injection I with I;rw[<-I,T];intro r hr;have hr:bG σ.t t .skip t = .lf (.own [r]):=hr;rw[bJ]at hr;cases hr
   ·exact hk t T O
 unfold de at h;rw[aiN a1]at h;split at h
 ·rename_i hw;have aiZ:Nonempty (qO P N Φ D p pb (fU σ oi.dst v) τ):=by
   rcases O with O|⟨f,args,jv,c,E,Y,h3,h4,h5⟩|⟨ty,t,y,E,Y,h3,h4⟩|⟨x,y,t1,t2,E,Y,hn,h3⟩
   ·exact aiL dI O hp h
   ·refine aiR E Y h3 hp ?_ h;rw[Gr]
    ·exact h5
    ·intro x hx;refine Kz a1 v ?_;rw[E];simp only[Op.operands,Call.operands];simp only[Array.mem_append]
     first
      |exact .inr (by simpa using hx)
      |exact .inl (by simpa using hx)
   ·refine aiT E Y ?_ h;have e1:aI (fU σ oi.dst v) (.tmp t)=aI σ (.tmp t):=Kz a1 v (by rw[E];simp[Op.operands]);have e1:(fU σ oi.dst v).t t=σ.t t:=e1;rw[e1];exact h4
   ·refine aiV E hn.1 hn.2.1 hn.2.2 hp ?_ h;have e1:aI (fU σ oi.dst v) (.tmp x)=aI σ (.tmp x):=Kz a1 v (by rw[E];simp[Op.operands,Call.operands]);have e1:(fU σ oi.dst v).t x=σ.t x:=e1;rw[e1];exact h3
  obtain⟨G,u,e,hr,hg,hs,Ri⟩:=aiZ;have qR:de P N Φ ops σ D some=some (fU (G σ) D.dst u):=by
   unfold de;rw[hw];exact hr σ (λx hx=>(Kz a1 v hx).symm) (aiM _ _).symm
  refine⟨fU (G σ) D.dst u,qR,?_,(hF.grow (hg σ)).put a3,λve t r j O ck lF=>?_,fin _ qR λt ck O=>?_,Yg _ qR λt ck O=>?_⟩
  ·refine e.trans ?_;have:∀ dst,G (fU σ dst v)=fU (G σ) dst v:=by
    intro dst;cases dst with
    |none=>rfl
    |some d=>exact hs σ d v hF.nr
   rw[this];exact X6 _ _ a2
  ·rw[Di _ _ t ck];exact Ri ve σ t r j O lF
  ·rw[Di _ _ t ck];exact(hg σ).st O
  ·rw[Di _ _ t ck];exact(hg σ).tg O
 ·rename_i hw;obtain⟨E,Y⟩:=r6 h;injection E with E;have qR:de P N Φ ops σ D some=some (fU σ D.dst .skip):=by
   unfold de;rw[hw];exact(Y σ).at_ _
  exact⟨fU σ D.dst .skip,qR,by rw[<-E];exact X6 _ _ a2,hF.put a3,λ_ t r j O ck _=>(by rw[Di _ _ t ck];exact O),fin _ qR λt ck O=>(by rw[Di _ _ t ck];exact O),Yg _ qR λt ck O=>(by rw[Di _ _ t ck];exact O)⟩
 ·cases h
def Any(P:Program)(N:Nat)(Φ:dR)(ops:Array Oper)(K:S->Prop):Nat->Nat->S->Prop
 |0,L,σ=>(∀j,lG ops L j=false)/\K σ
 |f+1,L,σ=>((∀j,lG ops L j=false)->K σ)/\∀j,lG ops L j=true->∃o C,ops[j]?=some o/\de P N Φ ops σ o some=some C/\Any P N Φ ops K f (L |||2 ^ j) C
def zo(L i j:Nat):(L ||| 2 ^ i).testBit j=(L.testBit j || decide (i=j)):=by
 rw[Nat.testBit_or,Nat.testBit_two_pow]
def Gu{ops:Array Oper}{L j:Nat}:lG ops L j=true ↔ L.testBit j=false /\ ∃ o,ops[j]?=some o /\ ∀ e∈o.after,Region.binds .any e=true -> L.testBit e.on=true:=by
 unfold lG
 grind
def Rj{ops:Array Oper}{L i j:Nat}(h:lG ops L j=true)(C:j≠i):lG ops (L ||| 2 ^ i) j=true:=by
 rw[Gu]at h ⊢
 grind
def mh.step{ops:Array Oper}{C:Oper}{v:A}(I:mh P ops C p pb v σ)(O:∀ σ:S,gG N σ C.dst v some=some (fU σ C.dst v)):de P N Φ ops σ C some=some (fU σ C.dst v):=by
 unfold de;rcases I with ⟨D,E,T,_,_,_⟩|⟨D,E⟩
 ·rw[D];unfold dm;rw[E,aq];exact(T.at_ _).trans (O σ)
 ·simp_all
def Rk{K:S -> Prop}{ops:Array Oper}{i W:Nat}{U:Oper}(hi:ops[i]?=some U)(hW:∀ j C,ops[j]?=some C -> W.testBit j=true -> ∃ e∈C.after,Region.binds .any e=true/\(e.on=i \/ W.testBit e.on=true))(E:S -> S)(I:Nat -> S -> Prop)
  (r1:∀L σ,I L σ -> de P N Φ ops σ U some=some (E σ))
  (r2:∀L σ j C Y,I L σ -> ops[j]?=some C -> j≠i -> L.testBit j=false -> W.testBit j=false -> de P N Φ ops (E σ) C some=some Y -> ∃O,de P N Φ ops σ C some=some O/\Y=E O/\I (L |||2 ^ j) O):
  ∀(f L:Nat) (σ:S),(∀j,W.testBit j=true -> L.testBit j=false) -> lG ops L i=true -> I L σ -> Any P N Φ ops K f (L |||2 ^ i) (E σ) -> Any P N Φ ops K (f+1) L σ:=by
 intro f
 induction f with
 | zero=>
  intro L σ vg T Z H
  refine⟨λh=>absurd (h i) (by rw[T];simp),λj hj=>?_⟩
  by_cases D:j=i
  ·subst D;exact⟨U,_,hi,r1 L σ Z,H⟩
  ·have:=Rj hj D;rw[H.1]at this;cases this
 | succ f ih=>
  intro L σ vg T Z H
  refine⟨λh=>absurd (h i) (by rw[T];simp),λj hj=>?_⟩
  by_cases D:j=i
  ·subst D;exact⟨U,_,hi,r1 L σ Z,H⟩
  ·obtain⟨C,Y,wR,gQ,H'⟩:=H.2 j (Rj hj D);obtain⟨Dk,oj',KI,oy⟩:=Gu.1 hj;rw[wR]at KI;injection KI with KI;subst KI;have zp:W.testBit j=false:=by
    cases zp:W.testBit j with
    |false=>rfl
    | true=>
     obtain⟨e,he,hb,jN⟩:=hW j C wR zp;have h1:=oy e he hb;rcases jN with jN|jN
     ·rw[jN,(Gu.1 T).1]at h1;cases h1
     ·rw[vg _ jN]at h1;cases h1
   obtain⟨O,hs,zq,hI'⟩:=r2 L σ j C Y Z wR D Dk zp gQ
   refine⟨C,O,wR,hs,ih (L |||2 ^ j) O (λk hk=>?_) (Rj T (Ne.symm D)) hI' ?_⟩
   ·grind
   ·rw[<- zq]
    grind
theorem ai0[Inhabited Wd](dI:fC P Φ){ok:Nat -> Nat -> Bool}{qQ mc me:Nat -> Bool}{K:S -> Prop}{ops:Array Oper}{i W:Nat}{I:Oper}{v:A}(hi:ops[i]?=some I)(hN:∀ σ:S,gG N σ I.dst v some=some (fU σ I.dst v))
  (hW:∀j C,ops[j]?=some C -> W.testBit j=true -> ∃e∈C.after,Region.binds .any e=true/\(e.on=i \/ W.testBit e.on=true)) (f L:Nat) (σ:S)
  (jk:∀t r,ok t r=true -> ∀j C,ops[j]?=some C -> j≠i -> L.testBit j=false -> W.testBit j=false -> C.dst≠some t/\eG C r=false/\isApp C=false)
  (KJ:∀x,me x=true -> ∀j C,ops[j]?=some C -> j≠i -> L.testBit j=false -> W.testBit j=false -> C.dst≠some x) (hX:∀x,me x=true -> jy p (σ.t x))
  (KM:∀t,qQ t=true -> ∀j C,ops[j]?=some C -> j≠i -> L.testBit j=false -> W.testBit j=false -> C.dst≠some t \/ (vf C=true/\p t=true) \/ ∃s x f,C.op = .fieldAddr s (.tmp x) f/\me x=true)
  (KN:∀t,mc t=true -> ∀j C,ops[j]?=some C -> j≠i -> L.testBit j=false -> W.testBit j=false -> C.dst≠some t \/ (nH C=true/\p t=true/\pb t=true) \/ (isApp C=true \/ zm Φ C=true))
  (Bh:∀j C,ops[j]?=some C -> j≠i -> L.testBit j=false -> W.testBit j=false -> I.apart ops C=true/\Calm Φ ok qQ mc p pb σ C /\ ∀n,eG C n=true -> p n=true/\pb n=true)
  (vg:∀j,W.testBit j=true -> L.testBit j=false) (hr:lG ops L i=true) (hF:mh P ops I p pb v σ) (H:Any P N Φ ops K f (L |||2 ^ i) (fU σ I.dst v)):Any P N Φ ops K (f+1) L σ:=by
 refine Rk hi hW (λσ=>fU σ I.dst v)
  (λL σ=>mh P ops I p pb v σ/\(∀ t r,ok t r=true -> ∀ j C,ops[j]?=some C -> j≠i -> L.testBit j=false -> W.testBit j=false -> C.dst≠some t/\eG C r=false/\isApp C=false) /\
   ((∀x,me x=true -> ∀j C,ops[j]?=some C -> j≠i -> L.testBit j=false -> W.testBit j=false -> C.dst≠some x) /\ ∀x,me x=true -> jy p (σ.t x)) /\
   (∀t,qQ t=true -> ∀j C,ops[j]?=some C -> j≠i -> L.testBit j=false -> W.testBit j=false -> C.dst≠some t \/ (vf C=true/\p t=true) \/ ∃s x f,C.op = .fieldAddr s (.tmp x) f/\me x=true) /\
   (∀t,mc t=true -> ∀j C,ops[j]?=some C -> j≠i -> L.testBit j=false -> W.testBit j=false -> C.dst≠some t \/ (nH C=true/\p t=true/\pb t=true) \/ (isApp C=true \/ zm Φ C=true)) /\
   ∀j C,ops[j]?=some C -> j≠i -> L.testBit j=false -> W.testBit j=false -> I.apart ops C=true/\Calm Φ ok qQ mc p pb σ C /\ ∀n,eG C n=true -> p n=true/\pb n=true)
  (λL σ h=>h.1.step hN) (λL σ j C τ h wR Gv Dk zp gQ=>?_) f L σ vg hr ⟨hF,jk,⟨KJ,hX⟩,KM,KN,Bh⟩ H
 obtain⟨hF,jk,⟨KJ,hX⟩,KM,KN,Bh⟩:=h;obtain⟨c1,c2,c3⟩:=Bh j C wR Gv Dk zp;obtain⟨cG,hs,zq,hF',QA,jK,hta⟩:=aiW (me:=me) dI hX hF c1 c2 c3 gQ;have Z:∀ k,(L ||| 2 ^ j).testBit k=false -> L.testBit k=false:=by
  intro k D;rw[zo,nh]at D;exact D.1
 refine⟨cG,hs,zq,hF',λt r E k O D T U Y=>jk t r E k O D T (Z k U) Y,⟨λx hx k O D T U Y=>KJ x hx k O D T (Z k U) Y,λx hx=>jK x (hX x hx) (.inl (KJ x hx j C wR Gv Dk zp))⟩,λt E k O D T U Y=>KM t E k O D T (Z k U) Y,λt E k O D T U Y=>KN t E k O D T (Z k U) Y,λk O D T U Y=>?_⟩
 obtain⟨d1,d2,d3⟩:=Bh k O D T (Z k U) Y
 refine⟨d1,d2.iW (λt r j' E h=>?_) (λt h E=>jK t E (KM t h j C wR Gv Dk zp)) (λt h E=>hta t E (KN t h j C wR Gv Dk zp)),d3⟩
 grind
def A.Ro(y:A)(a b:Nat):(y.drop a).drop b=(y.drop b).drop a:=A.nY y _ _
def aP.Ro(y:aP)(a b:Nat):(y.drop a).drop b=(y.drop b).drop a:=aP.nY y _ _
def mj.drop(h:mj e u){n:Nat}(C:e≠n):u.drop n=u:=by
 rcases h with rfl|rfl
 ·simp only[A.drop,nZ C,av,A.bY,vW]
 ·have:cz n [e]=false:=by simp[cz,C]
  simp only[A.drop,Lf.drop,this,av,A.bY,vW,Lf.bY]
def mj.cX(h:mj e u){ns cn:aa Nat}(D:cM e ns=false)(C:cM e cn=false):u.cX ns cn=u:=by
 rcases h with rfl|rfl
 ·simp only[A.cX,C,av,A.bY,uW]
 ·have E:fK [e] ns=false:=D;have I:fK [e] cn=false:=C;simp only[A.cX,Lf.cX,E,I,A.bY,uW,Lf.bY];rfl
def qS(k:Nat):(cq e x u σ).t k=if k=e then u else (σ.t k).drop e:=by
 by_cases C:k=e
 ·subst C;rw[aV rfl];exact bJ _ _ _
 ·rw[aW C];exact cc _ _ _ C
def oz(n:Nat):(cq e x u σ).m n=if n=e then some x else (σ.m n).map (aP.drop e):=by
 show bG (λr=>bif Nat.beq r e then none else (σ.m r).map (aP.drop e)) e (some x) n=_;by_cases C:n=e
 ·subst C;rw[aV rfl,bJ]
 ·rw[aW C,cc _ _ _ C,nZ C];rfl
def Rp(c:Nat)(y:aP)(k:Nat):((σ.drop c).root c y).t k=(σ.t k).drop c:=rfl
def Yh(c:Nat)(y:aP)(n:Nat):((σ.drop c).root c y).m n=if n=c then some y else (σ.m n).map (aP.drop c):=by
 show bG (λr=>bif Nat.beq r c then none else (σ.m r).map (aP.drop c)) c (some y) n=_;by_cases C:n=c
 ·subst C;rw[aV rfl,bJ]
 ·rw[aW C,cc _ _ _ C,nZ C];rfl
def Yi{c:Nat}(z:V)(I:jP x)(O:mj e u)(T:e≠c):((cq e x u σ).drop c).root c (.sl z)=cq e x u ((σ.drop c).root c (.sl z)):=by
 refine S.ext' (λk=>?_) λn=>?_
 ·rw[Rp,qS,qS,Rp];by_cases C:k=e
  ·rw[aV C,aV C];exact O.drop T
  ·rw[aW C,aW C];exact A.nY _ _ _
 ·rw[Yh,oz,oz,Yh];by_cases D:n=c
  ·rw[aV D,aW,aV D];rfl
  ·rw[aW D];by_cases E:n=e
   ·rw[aV E,aV E];simp only[Option.map_some,I.drop]
   ·rw[aW E,aW E,aW D,Option.map_map,Option.map_map];congr 1;funext y;exact aP.nY y _ _
def KO(C:jP x)(D:mj e u):∀ (xs:aa V) (c:Nat) (σ:S),e<c -> lZ c (cq e x u σ) xs=cq e x u (lZ c σ xs)
 |[],c,σ,_=>rfl
 | y :: xs,c,σ,h=>by
  simp[lZ];cases E:y.aG with
  |true=>exact KO C D xs _ σ (by omega)
  | false=>
   rw[Yi y C D (by omega)];exact KO C D xs _ _ (by omega)
def Yj(C:jP x)(D:mj e u):∀ (ps:aa Pt) (c:Nat) (σ:S),e<c -> nB c (cq e x u σ) ps=cq e x u (nB c σ ps)
 |[],c,σ,_=>rfl
 | q :: ps,c,σ,h=>by
  simp[nB];rw[KO C D _ _ _ h];exact Yj C D ps _ _ (by omega)
def KP{v:A}(D:d≠e)(E:v.drop e=v):(cq e x u σ).set d v=cq e x u (σ.set d v):=by
 refine S.ext' (λk=>?_) λn=>?_
 ·show bG (cq e x u σ).t d v k=_;rw[qS];show _=if k=e then u else (bG σ.t d v k).drop e;by_cases C:k=d
  ·subst C;rw[bJ,aW D,bJ,E]
  ·rw[cc _ _ _ C,cc _ _ _ C,qS]
 ·rfl
def ai1{v:A}{C:aj Tmp}(D:C≠some e)(E:v.drop e=v):fU (cq e x u σ) C v=cq e x u (fU σ C v):=by
 cases C with
 |none=>rfl
 |some d=>exact KP (by rintro rfl;exact D rfl) E
def ai2{ns cn:aa Nat}{nr:aa (Nat×aP)}(T:jP x)(U:mj e u)(E:cM e ns=false)(I:cM e cn=false)(O:∀ q∈nr,q.1≠e/\q.2.drop e=q.2):(cq e x u σ).cX ns cn nr=cq e x u (σ.cX ns cn nr):=by
 have hl:nr.lookup e=none:=by
  cases hl:nr.lookup e with
  |none=>rfl
  |some y=>exact absurd rfl (O _ (KD hl)).1
 refine S.ext' (λk=>?_) λn=>?_
 ·show ((cq e x u σ).t k).cX ns cn=_;rw[qS,qS];by_cases C:k=e
  ·rw[aV C,aV C];exact U.cX E I
  ·rw[aW C,aW C];exact A.nY _ _ _
 ·rw[oz];show (match nr.lookup n with | some x=>some x | none=>bif cM n ns || cM n cn then none else ((cq e x u σ).m n).map (aP.cX ns cn))=if n=e then some x else (match nr.lookup n with | some x=>some x | none=>bif cM n ns || cM n cn then none else (σ.m n).map (aP.cX ns cn)).map (aP.drop e);by_cases D:n=e
  ·subst D;rw[aV rfl,hl,E,I];simp only[Bool.or_false,av,oz,if_true,Option.map_some,T.cX]
  ·rw[aW D];cases Y:nr.lookup n with
   |some y=>simp only[Option.map_some];rw[(O _ (KD Y)).2]
   | none=>
    simp only;cases (cM n ns ||cM n cn)with
    |true=>rfl
    | false=>
     simp only[av];rw[oz,aW D,Option.map_map,Option.map_map];congr 1;funext y;exact aP.nY y _ _
/-! What a call reads. -/
def Yk{q:aa Nat}{k:V->aj X}(h:cz e q=false):iZ (cq e x u σ).m q k=iZ σ.m q k:=aiF q k h
def wU{y:Operand}(h:(aI σ y).nr p=true)(C:p e=true)(D:y ≠ .tmp e):aI (cq e x u σ) y=aI σ y:=by
 cases y with
 | tmp t=>
  show (cq e x u σ).t t=σ.t t;rw[qS,aW (by rintro rfl;exact D rfl)];exact A.zg h C
 |_=>rfl
def Rq{l:Lf}{k:V->aj X}(h:l.nr p=true)(C:p e=true):n8 (cq e x u σ) l k=n8 σ l k:=by
 cases l with
 |own q=>exact Yk (Xx h C)
 |_=>rfl
def Yl{q:aa Nat}{s i j:Nat}{k:V->aj X}(h:nG p q=true)(C:p e=true):uM (cq e x u σ) q s i j k=uM σ q s i j k:=by
 unfold uM;exact Yk (Xx h C)
def ai3{y:A}{k:V->aj X}(h:y.nr p=true)(C:p e=true):rL (cq e x u σ) y k=rL σ y k:=by
 cases y with
 |lf l=>exact Rq h C
 |view q s i j=>exact Yl h C
 |_=>rfl
def Rr(C:p e=true):∀ (xs:aa Lf) (k:aa V -> aj X),xs.all (Lf.nr p)=true -> qB (cq e x u σ) xs k=qB σ xs k
 |[],k,_=>rfl
 | y :: xs,k,h=>by
  rw[List.all_cons,aJ]at h;simp[qB,Rq h.1 C];congr 1;funext z;exact Rr C xs _ h.2
def ai4{y:A}{k:Pt->aj X}(h:y.nr p=true)(C:p e=true):ny (cq e x u σ) y k=ny σ y k:=by
 cases y with
 |lf l=>simp only[ny];exact Rr C _ _ (by rw[List.all_cons,show l.nr p=true from h];rfl)
 |agg cs=>simp only[ny];exact Rr C _ _ h
 |view q s i j=>simp only[ny];exact Yl h C
 |iX cs=>cases cs<;>rfl
 |_=>rfl
def Ym(C:p e=true):∀ (xs:aa Operand) (k:aa Pt->aj X),(∀ y∈xs,(aI σ y).nr p=true/\y ≠ .tmp e)->rR (cq e x u σ) xs k=rR σ xs k
 |[],k,_=>rfl
 | y :: xs,k,h=>by
  obtain⟨D,E⟩:=h y (.head _);unfold rR uT;rw[wU D C E,ai4 D C];congr 1;funext z;exact Ym C xs _ (λy I=>h y (.tail _ I))
def Rs{ns:aa Nat}(C:p e=true):∀ (xs:aa Lf) (k:aa V -> aj X),xs.all (Lf.nr p)=true -> rW (cq e x u σ) ns xs k=rW σ ns xs k
 |[],k,_=>rfl
 | y :: xs,k,h=>by
  rw[List.all_cons,aJ]at h;simp[rW,Rq h.1 C];congr 2;funext z;exact Rs C xs _ h.2
def Yn{d:Nat}:∀ (xs:aa Lf),qy (xs.map (Lf.drop d))=qy xs
 |[]=>rfl
 | x :: xs=>by
  have C:(x.drop d).pl=x.pl:=by
   cases x with
   | own k=>
    show (bif cz d k then _ else Lf.own k).pl=_;cases cz d k<;>rfl
   |_=>rfl
  simp[List.map_cons,qy,C,Yn]
def ai5{ns:aa Nat}{y:A}{k:Pt->aj X}(h:y.nr p=true)(C:p e=true):qJ (cq e x u σ) ns y k=qJ σ ns y k:=by
 cases y with
 |lf l=>simp only[qJ];exact Rs C _ _ (by rw[List.all_cons,show l.nr p=true from h];rfl)
 |agg cs=>simp only[qJ];exact Rs C _ _ h
 |mO f cs=>cases cs<;>rfl
 | fn f cap=>
  match cap,h with
  |[],_=>rfl
  |_::_::_,_=>rfl
  | [(D,j)],h=>
   have E:p D=false:=by simpa [A.nr,A.fr,tL]using h
   have I:D≠e:=by rintro rfl;rw[C]at E;cases E
   simp only[qJ,oz,aW I];cases σ.m D with
   |none=>rfl
   | some z=>
    cases z with
    |ay cs=>simp only[Option.map_some,aP.Gl,<-List.map_drop,Yn]
    |_=>rfl
 |_=>rfl
def ai6{l:Lf}(h:l.nr p=true)(C:p e=true):uX (cq e x u σ).m l=uX σ.m l:=by
 cases l with
 | own k=>
  match k with
  |[]=>rfl
  | [q]=>
   have D:q≠e:=by
    have h:(!p q)=true:=by simpa [Lf.nr,Lf.fr,nG,iJ]using h
    rintro rfl;rw[C]at h;cases h
   simp only[uX];rw[oz,aW D];cases σ.m q with
   |none=>rfl
   |some y=>cases y<;>rfl
  |_::_::_=>rfl
 |v x=>rfl
 |dead=>rfl
def Yo(D:p e=true):∀ (C:aa Lf),C.all (Lf.nr p)=true -> qI (cq e x u σ).m C=qI σ.m C
 |[],_=>rfl
 | l :: C,h=>by
  rw[List.all_cons,aJ]at h;simp[qI,ai6 h.1 D,Yo D C h.2]
def Yp{m:Nat->aj aP}:∀ {cs:aa Lf} {E:aa (V×aj Nat)},qI m cs=some E->cs.all (Lf.nr p)=true->∀ v∈E,∀ q,v.2=some q->p q=false
 |[],E,h,_=>by injection h with h;subst h;simp
 | c :: cs,E,h,I=>by
  rw[List.all_cons,aJ]at I;unfold qI at h;split at h
  ·rename_i v Y C T;injection h with h;subst h;intro u hu q D;rcases gk.1 hu with rfl | hu
   ·unfold uX at C;split at C
    ·injection C with C;rw[<-C]at D;cases D
    ·rename_i Z;split at C
     ·rename_i y _;cases O:y.aG with
      |true=>rw[O]at C;injection C with C;rw[<-C]at D;cases D
      | false=>
       rw[O,av]at C;injection C with C;rw[<-C]at D;injection D with D;subst D;have U:=I.1
       simpa [Lf.nr,Lf.fr,nG,iJ]using U
     ·cases C
    ·cases C
   ·exact Yp T I.2 u hu q D
  ·cases h
def KQ(p:Nat->Bool):Mu->Prop
 |.ay r cs C=>p r=false/\cs.all (Lf.nr p)=true/\∀v∈C,∀q,v.2=some q->p q=false
 |.sl q _=>p q=false
def Rt(I:p e=true):∀ (ps:aa PK) (xs:aa Operand) (O:aa Mu),(∀ y∈xs,(aI σ y).nr p=true/\y ≠ .tmp e)->(∀ n∈ir σ ps xs,wP σ p n=true)->ji σ ps xs=some O->ji (cq e x u σ) ps xs=some O/\∀ C∈O,KQ p C
 |[],[],O,_,_,h=>⟨h,by injection h with h;subst h;simp⟩
 |[],_::_,O,_,_,h=>by cases h
 |_::_,[],O,_,_,h=>by cases h
 | q :: ps,y :: xs,O,hy,hl,h=>by
  obtain⟨E,h2⟩:=hy y (.head _);have uR:∀ n∈ir σ ps xs,wP σ p n=true:=by
   intro n Z;refine hl n ?_;cases q with
   |v=>exact Z
   |s=>exact Z
   | p t g off=>
    simp only[ir];split
    ·exact .tail _ Z
    ·exact Z
  unfold ji at h;have D:∀ z,uY σ q (aI σ y)=some z->uY (cq e x u σ) q (aI (cq e x u σ) y)=some z/\∀ C,z=some C->KQ p C:=by
   intro z hz;rw[wU E I h2];have T:=uZ hz;cases q with
   | v=>
    cases z with
    |some C=>exact T.elim
    |none=>exact⟨hz,by simp⟩
   | p t g off=>
    cases z with
    |none=>exact T.elim
    | some C=>
     cases C with
     |sl=>exact T.elim
     | ay Y cs vs=>
      obtain⟨U,hm,hg,hlen⟩:=T;have fo:p Y=false:=by
       rw[U]at E;have E:(!p Y)=true:=E
       simpa using E
      have ck:Y≠e:=by rintro rfl;rw[I]at fo;cases fo
      have gj:cs.all (Lf.nr p)=true:=by
       have:=hl Y (by simp only[ir,U];exact .head _);unfold wP at this;rw[hm]at this;exact this
      have rN:(cq e x u σ).m Y=some (.ay cs):=by
       rw[oz,aW ck,hm];simp only[Option.map_some,aP.Gl,qw.zg gj I]
      refine⟨?_,λC D=>?_⟩
      ·rw[U];simp only[uY,Nat.beq_refl,aq,rN,Yo I cs gj,hg];have:Nat.blt cs.length 999=true:=iF hlen;rw[this];rfl
      ·injection D with D;subst D;exact⟨fo,gj,Yp hg gj⟩
   | s t g=>
    cases z with
    |none=>exact T.elim
    | some C=>
     cases C with
     |ay=>exact T.elim
     | sl q y0=>
      obtain⟨U,hm,hf⟩:=T;have hq:p q=false:=by
       rw[U]at E;have E:(!p q)=true:=by simpa [A.nr,A.fr,tL,Lf.nr,Lf.fr,nG,iJ]using E
       simpa using E
      have ck:q≠e:=by rintro rfl;rw[I]at hq;cases hq
      refine⟨?_,λC D=>?_⟩
      ·rw[U];simp only[uY];rw[oz,aW ck,hm];simp only[Option.map_some,aP.drop,hf,av,aP.bY]
      ·injection D with D;subst D;exact hq
  split at h
  ·rename_i C Kn k1 k2;injection h with h;subst h;obtain⟨g1,g2⟩:=D _ k1;obtain⟨f1,f2⟩:=Rt I ps xs Kn (λy h=>hy y (.tail _ h)) uR k2
   refine⟨by simp only[ji,g1,f1],λm hm=>?_⟩
   rcases gk.1 hm with rfl|hm
   ·exact g2 _ rfl
   ·exact f2 m hm
  next Kn k1 k2=>injection h with h;subst h;obtain⟨g1,g2⟩:=D _ k1;obtain⟨f1,f2⟩:=Rt I ps xs Kn (λy h=>hy y (.tail _ h)) uR k2;exact⟨by simp only[ji,g1,f1],f2⟩
  ·cases h
def KR(D:p e=true)(ns:aa Nat):∀ (ps:aa PK) (xs:aa Operand) (C:aa Mu) (k:kN ps->aj X),(∀ y∈xs,(aI σ y).nr p=true/\y ≠ .tmp e)->jj (cq e x u σ) ns ps xs C k=jj σ ns ps xs C k
 |[],[],[],k,_=>rfl
 | .v b t :: ps,y :: xs,C,k,h=>by
  obtain⟨I,O⟩:=h y (.head _);simp only[jj];rw[wU I D O,ai5 I D];congr 1;funext z;congr 1;split
  ·exact KR D ns ps xs C _ (λy E=>h y (.tail _ E))
  ·rfl
 | .p t g off :: ps,y :: xs,.ay T cs U :: C,k,h=>by
  simp only[jj];split
  ·exact KR D ns ps xs C _ (λy E=>h y (.tail _ E))
  ·rfl
 | .s t g :: ps,y :: xs,.sl q Y :: C,k,h=>by
  simp only[jj];split
  ·exact KR D ns ps xs C _ (λy E=>h y (.tail _ E))
  ·rfl
 |[],[],_::_,k,_=>rfl
 |[],_::_,_,k,_=>rfl
 |.v _ _::_,[],_,k,_=>rfl
 |.p _ _ _::_,[],_,k,_=>rfl
 |.s _ _::_,[],_,k,_=>rfl
 |.p _ _ _::_,_::_,[],k,_=>rfl
 |.s _ _::_,_::_,[],k,_=>rfl
 |.p _ _ _::_,_::_,.sl _ _::_,k,_=>rfl
 |.s _ _::_,_::_,.ay _ _ _::_,k,_=>rfl
def Ru{i:Nat}:∀ (C:aa (V×aj Nat)) (j:Nat),(∀ v∈C,∀ q,v.2=some q -> p q=false) -> ∀ u∈C2 i j C,p u.1=false
 |[],_,_,u,hu=>by cases hu
 |(y,none)::C,j,h,u,hu=>Ru C (j+1) (λv D=>h v (.tail _ D)) u hu
 | (y,some q) :: C,j,h,u,hu=>by
  rcases gk.1 hu with rfl|hu
  ·simp_all
  ·exact Ru C (j+1) (λv D=>h v (.tail _ D)) u hu
def Rv:∀ (C:aa Mu) (i:Nat),(∀ E∈C,KQ p E) -> ∀ u∈kO i C,p u.1=false
 |[],_,_,u,hu=>by cases hu
 | .ay U cs I :: C,i,h,u,hu=>by
  obtain⟨O,Y,T⟩:=h _ (.head _);rcases gk.1 hu with rfl|hu
  ·exact O
  ·rcases kX.1 hu with hu | hu
   ·exact Ru I 0 T u hu
   ·exact Rv C _ (λm D=>h m (.tail _ D)) u hu
 | .sl q y :: C,i,h,u,hu=>by
  rcases gk.1 hu with rfl|hu
  ·exact h _ (.head _)
  ·exact Rv C (i+1) (λm D=>h m (.tail _ D)) u hu
def Rw{c0:Nat}(E:∀ n,c0 <= n -> p n=false):∀ (C:aa (V×aj Nat)) (n:Nat),(∀ v∈C,∀ q,v.2=some q -> p q=false) -> ∀ u∈l6 c0 n C,p u=false
 |[],_,_,u,hu=>by cases hu
 | (y,none) :: C,n,h,u,hu=>by
  rcases gk.1 hu with rfl|hu
  ·simp_all
  ·exact Rw E C (n+1) (λv D=>h v (.tail _ D)) u hu
 | (y,some q) :: C,n,h,u,hu=>by
  rcases gk.1 hu with rfl|hu
  ·simp_all
  ·exact Rw E C (n+1) (λv D=>h v (.tail _ D)) u hu
def Rx:∀ (C:aa Nat) (xs:aa V),∀ u∈va C xs,u∈C
 |[],[],u,hu=>by cases hu
 | n :: C,y :: xs,u,hu=>by
  simp[va]at hu;cases D:y.aG with
  |true=>rw[D]at hu;exact .tail _ (Rx C xs u hu)
  | false=>
   rw[D]at hu;rcases gk.1 hu with rfl|hu
   ·simp_all
   ·exact .tail _ (Rx C xs u hu)
def Yq{ns cn:aa Nat}:∀ (C:aa Nat) (D:aa Lf) (xs:aa V),(∀ n∈C,p n=false)->D.all (Lf.nr p)=true->(ov ns cn C D xs).all (Lf.nr p)=true
 |[],_,_,_,_=>by simp[ov]
 |_::_,[],_,_,_=>by simp[ov]
 |_::_,_::_,[],_,_=>by simp[ov]
 | n :: C,l :: D,y :: xs,I,E=>by
  rw[List.all_cons,aJ]at E;simp only[ov,List.all_cons,aJ]
  refine⟨?_,Yq C D xs (λn O=>I n (.tail _ O)) E.2⟩
  cases y.plain with
  |true=>rfl
  | false=>
   simp only[av];cases y.aG with
   | true=>
    simp only[aq];cases l with
    | own k=>
     have T:Lf.cX ns cn (.own k)=(bif fK k cn ||(fK k ns && !(Nat.beq k.length 1))then .dead else .own k):=rfl;rw[T];cases (fK k cn ||(fK k ns && !(Nat.beq k.length 1)))with
     |true=>rfl
     |false=>exact E.1
    |v x=>rfl
    |dead=>rfl
   | false=>
    show (!p n)=true;rw[I n (.head _)];rfl
def Ry:∀ (C:aa Nat) (xs:aa V),∀ u∈tJ C xs,u.1∈C /\ ∃ y,u.2 = .sl y
 |[],[],u,hu=>by cases hu
 |[],_::_,u,hu=>by cases hu
 | n :: C,y :: xs,u,hu=>by
  simp[tJ]at hu;cases I:y.aG with
  |true=>rw[I]at hu;obtain⟨D,E⟩:=Ry C xs u hu;exact⟨.tail _ D,E⟩
  | false=>
   rw[I]at hu;rcases gk.1 hu with rfl|hu
   ·simp_all
   ·obtain⟨D,E⟩:=Ry C xs u hu;exact⟨.tail _ D,E⟩
def Rz{c0:Nat}{ns cn:aa Nat}(E:p e=true)(T:∀ n,c0<=n->p n=false):∀ (D:aa Mu) (outs:aa In) (C:Nat),(∀ mu∈D,KQ p mu)->(∀ u∈mW c0 C D outs,p u=false)/\∀ u∈kP ns cn c0 C D outs,u.1≠e/\u.2.drop e=u.2
 |[],outs,C,_=>⟨(λu hu=>by simp[mW]at hu),(λu hu=>by simp[kP]at hu)⟩
 |.ay _ _ _::_,[],C,_=>⟨(λu hu=>by cases hu),(λu hu=>by cases hu)⟩
 |.sl _ _::_,[],C,_=>⟨(λu hu=>by cases hu),(λu hu=>by cases hu)⟩
 |.ay _ _ _::_,.sl _::_,C,_=>⟨(λu hu=>by cases hu),(λu hu=>by cases hu)⟩
 |.sl _ _::_,.ay _::_,C,_=>⟨(λu hu=>by cases hu),(λu hu=>by cases hu)⟩
 | .ay r' cs vs :: D,.ay xs :: outs,C,h=>by
  obtain⟨I,h2,h3⟩:=h _ (.head _);obtain⟨U,O⟩:=Rz (ns:=ns) (cn:=cn) E T D outs (C+1+vs.length) (λm Y=>h m (.tail _ Y));have ck:∀n,p n=false->n≠e:=by rintro n hn rfl;rw[E]at hn;cases hn
  have Z:=Rw T vs (C+1) h3
  refine⟨λu hu=>?_,λu hu=>?_⟩
  ·simp only[mW]at hu;rcases kX.1 hu with hu | hu
   ·exact Z u (Rx _ _ u hu)
   ·exact U u hu
  ·simp only[kP]at hu;rcases gk.1 hu with rfl | hu
   ·refine⟨ck _ I,?_⟩;rw[aP.Gl,qw.zg (Yq _ _ _ Z h2) E]
   ·rcases kX.1 hu with hu | hu
    ·obtain⟨g1,y,g2⟩:=Ry _ _ u hu;exact⟨ck _ (Z _ g1),by rw[g2];rfl⟩
    ·exact O u hu
 | .sl q y :: D,.sl y' :: outs,C,h=>by
  have I:p q=false:=h _ (.head _);obtain⟨U,O⟩:=Rz (ns:=ns) (cn:=cn) E T D outs (C+1) (λm Y=>h m (.tail _ Y))
  refine⟨λu hu=>U u (by simpa [mW]using hu),λu hu=>?_⟩
  simp only[kP]at hu;cases hy:y'.jG with
  |false=>rw[hy]at hu;exact O u hu
  |true=>
  rw[hy]at hu;rcases gk.1 hu with rfl|hu
  ·exact⟨(by rintro rfl;rw[E]at I;cases I),rfl⟩
  ·exact O u hu
def RB:∀ (xs:aa V) (c:Nat),e<c->(nA c xs).map (Lf.drop e)=nA c xs
 |[],_,_=>rfl
 | y :: xs,c,h=>by
  simp only[nA,List.map_cons];rw[RB xs (c+1) (by omega)];cases y.aG with
  |true=>rfl
  | false=>
   have:cz e [c]=false:=by simp[cz];omega
   simp only[av,Lf.drop,this,Lf.bY]
def ai7{b:Bool}{xs:aa Lf}{y:A}(h:yD (b,xs)=some y)(C:xs.map (Lf.drop e)=xs):y.drop e=y:=by
 unfold yD at h;split at h
 next D=>injection h with h;subst h;obtain⟨_,rfl⟩:=D;exact bx A.agg C
 next z D=>injection h with h;subst h;obtain⟨_,rfl⟩:=D;simp at C;exact bx A.lf C
 ·cases h
def Yr:∀ (ps:aa Pt) (c:Nat),e<c->(rS c ps).map (λq=>(q.1,q.2.map (Lf.drop e)))=rS c ps
 |[],_,_=>rfl
 | q :: ps,c,h=>by
  simp only[rS,List.map_cons];rw[RB _ _ h,Yr ps _ (by omega)]
def ai8(ps:aa Pt)(c:Nat)(h:e<c):A.drop e (.eO (rS c ps)) = .eO (rS c ps):=bx A.eO (Yr ps c h)
def Ys(C:jP x)(D:mj e u)(U:e<20000)(E:d≠e){I:fO}{O:S}(h:mT σ d I some=some O):mT (cq e x u σ) d I some=some (cq e x u O):=by
 unfold mT at h ⊢;split at h
 ·split at h
  next y T=>injection h with h;subst h;rw[KO C D _ _ _ (by omega),KP E (ai7 T (RB _ _ (by omega)))]
  ·cases h
 ·injection h with h;subst h;rw[Yj C D _ _ _ (by omega),KP E (ai8 _ _ (by omega))]
def ai9(O:jP x)(T:mj e u)(U:e<20000){C:aj Tmp}(Y:C≠some e){E:fO}{D:S}(h:oY N σ C E some=some D):oY N (cq e x u σ) C E some=some (cq e x u D):=by
 cases C with
 | none=>
  have h:some σ=some D:=h;injection h with h;rw[<-h];rfl
 | some d=>
  unfold oY at h ⊢;cases I:Nat.blt d N with
  |false=>simp only[I,av]at h;cases h
  | true=>
   simp only[I,aq]at h ⊢;exact Ys O T U (by rintro rfl;exact Y rfl) h
def aja(dI:fC P Φ)(hx:jP x)(Y:mj e u)(he:e<20000)(T:p e=true)(wV:∀ n,20000<=n->p n=false)(C:mY Φ o=true)(hd:o.dst≠some e)(r7:∀ y∈o.op.operands,(aI σ y).nr p=true/\y ≠ .tmp e)(hl:∀ n∈ow Φ σ o,wP σ p n=true){τ:S}
  (h:dm P N Φ σ o some=some τ):dm P N Φ (cq e x u σ) o some=some (cq e x u τ):=by
 have r9:∃ f args jv,o.op = .call { callee:=.value (.func f),args:=args,argTypes:=jv }:=by
  unfold mY at C;split at C
  ·exact⟨_,_,_,by assumption⟩
  ·cases C
 obtain⟨f,args,jv,D⟩:=r9;have lD:∀ y∈args.toList,(aI σ y).nr p=true/\y ≠ .tmp e:=by
  intro y hy;refine r7 y ?_;rw[D];simp only[Op.operands,Call.operands];simp only[Array.mem_append]
  first
   |exact .inr (by simpa using hy)
   |exact .inl (by simpa using hy)
 have dV:∀ σ2,dm P N Φ σ2 o some=gR P N Φ σ2 o some:=by
  intro σ2;unfold dm;rw[show fD o.op=false by rw[D];rfl,av]
 rw[dV]at h ⊢;cases I:Φ f with
 |none=>simp only[gR,D,I]at h;cases h
 | some c=>
  cases c with
  |n F=>rw[mY,D]at C;simp[I]at C
  |v c=>rw[mY,D]at C;simp[I]at C
  |i c=>rw[mY,D]at C;simp[I]at C
  |d c=>rw[mY,D]at C;simp[I]at C
  |q c=>rw[mY,D]at C;simp[I]at C
  |c c=>rw[mY,D]at C;simp[I]at C
  | p c=>
   simp only[gR,D,I]at h ⊢;obtain⟨d,Z,h⟩:=jx h;have hde:d≠e:=by rintro rfl;exact hd Z
   obtain⟨res,rO,h1,E,h3⟩:=Kc (Gn dI I) Db h;injection E with E;subst E;simp only[gn,Z];exact(h3 (cq e x u σ) (cq e x u rO) (λX k=>rR (cq e x u σ) args.toList k) (λX k=>Ym T _ k lD) (Ys hx Y he hde h1)).at_ _
  | m c=>
   simp only[gR,D,I]at h ⊢;have zd:∀ n∈ir σ c.ps args.toList,wP σ p n=true:=by
    intro n U;refine hl n ?_;simp only[ow,D,I];exact U
   unfold nE at h;split at h
   ·rename_i O tK;obtain⟨g1,g2⟩:=Rt (x:=x) (u:=u) T c.ps args.toList O lD zd tK;cases jN:(once (kO 0 O)&&Nat.ble O.length 40)with
    |false=>rw[jN]at h;cases h
    | true=>
     rw[jN,aq]at h;obtain⟨z,E,Yt⟩:=(Kk _ _ _).lA h;simp only[nE,g1,jN,aq];rw[KR T _ _ _ _ _ lD];refine(Yt S _).trans ?_;split at E
     ·rename_i y hy;unfold C5 at E ⊢;generalize om:mW (gP o.dst) (eJ c.ro y.1).len O (iM (dZ c.ps) y.2)=cn at E;generalize jk:C4 N O (iM (dZ c.ps) y.2) cn=ok at E;cases ok with
      |false=>cases E
      | true=>
       rw[aq]at E;have qH:∀ n,gP o.dst<=n->p n=false:=by
        intro n U;refine wV n ?_;cases Z:o.dst with
        |none=>rw[Z]at U;simp only[gP]at U;omega
        |some d=>rw[Z]at U;simp only[gP]at U;omega
       obtain⟨k1,k2⟩:=Rz (ns:=(kO 0 O).map (·.1)) (cn:=cn) T qH O (iM (dZ c.ps) y.2) (eJ c.ro y.1).len g2;rw[om]at k1;rw[aq,ai2 hx Y ?_ ?_ k2]
       ·exact ai9 hx Y he hd E
       ·cases hm:cM e ((kO 0 O).map (·.1))with
        |false=>rfl
        | true=>
         obtain⟨u,Y,e1⟩:=List.mem_map.1 (tE.1 hm);have:=Rv O 0 g2 u Y;rw[e1,T]at this;cases this
       ·cases hm:cM e cn with
        |false=>rfl
        |true=>have:=k1 e (tE.1 hm);rw[T]at this;cases this
     ·cases E
   ·cases h
def A.Yu{y:A}(h:y.fD=true)(K:mP):y.bY K=y:=by
 refine A.nX ?_;cases y with
 |lf l=>cases l<;>first|rfl|cases h
 | agg cs=>
  refine bN.2 λl hl=>?_
  have:=bN.1 h l hl;cases l<;>first|rfl|cases this
 |_=>cases h
def A.KS{y:A}(h:y.fD=true)(n:Nat):y.drop n=y:=A.Yu h _
def A.ajb{y:A}(h:y.fD=true)(ns cn:aa Nat):y.cX ns cn=y:=A.Yu h _
def RC:∀ (xs:aa V) (c:Nat) (σ:S) {t:Nat},(σ.t t).fD=true -> (lZ c σ xs).t t=σ.t t
 |[],c,σ,t,h=>rfl
 | y :: xs,c,σ,t,h=>by
  simp[lZ];cases y.aG with
  |true=>exact RC xs _ σ h
  | false=>
   simp;have C:(((σ.drop c).root c (.sl y)).t t)=σ.t t:=by rw[Rp];exact A.KS h c
   rw[RC xs _ _ (by rw[C];exact h),C]
def Yv:∀ (ps:aa Pt) (c:Nat) (σ:S) {t:Nat},(σ.t t).fD=true -> (nB c σ ps).t t=σ.t t
 |[],c,σ,t,h=>rfl
 | q :: ps,c,σ,t,h=>by
  simp[nB];have C:=RC q.2 c σ h;rw[Yv ps _ _ (by rw[C];exact h),C]
def Yw{D:fO}{C:S}(h:mT σ d D some=some C){t:Nat}(E:(σ.t t).fD=true)(I:t≠d):C.t t=σ.t t:=by
 obtain⟨ps,u,O⟩:=Q7 h;rw[O]at h;injection h with h;rw[<-h];exact(cc _ _ _ I).trans (Yv _ _ _ E)
def ajc{C:aj Tmp}{I:fO}{D:S}(h:oY N σ C I some=some D){t:Nat}(O:(σ.t t).fD=true)(T:C≠some t):D.t t=σ.t t:=by
 cases C with
 | none=>
  have h:some σ=some D:=h;injection h with h;rw[<-h]
 | some d=>
  unfold oY at h;cases E:Nat.blt d N with
  |false=>simp only[E,av]at h;cases h
  | true=>
   simp only[E,aq]at h;exact Yw h O (by rintro rfl;exact T rfl)
def ajd(dI:fC P Φ)(C:mY Φ o=true){U:S}(h:dm P N Φ σ o some=some U){t:Nat}(T:(σ.t t).fD=true)(Y:o.dst≠some t):U.t t=σ.t t:=by
 have r9:∃ f args Z,o.op = .call { callee:=.value (.func f),args:=args,argTypes:=Z }:=by
  unfold mY at C;split at C
  ·exact⟨_,_,_,by assumption⟩
  ·cases C
 obtain⟨f,args,Z,E⟩:=r9;have dV:dm P N Φ σ o some=gR P N Φ σ o some:=by
  unfold dm;rw[show fD o.op=false by rw[E];rfl,av]
 rw[dV]at h;cases I:Φ f with
 |none=>simp only[gR,E,I]at h;cases h
 | some c=>
  cases c with
  |n F=>rw[mY,E]at C;simp[I]at C
  |v c=>rw[mY,E]at C;simp[I]at C
  |i c=>rw[mY,E]at C;simp[I]at C
  |d c=>rw[mY,E]at C;simp[I]at C
  |q c=>rw[mY,E]at C;simp[I]at C
  |c c=>rw[mY,E]at C;simp[I]at C
  | p c=>
   simp only[gR,E,I]at h;obtain⟨d,tP,h⟩:=jx h;obtain⟨res,rO,h1,D,h3⟩:=Kc (Gn dI I) Db h;injection D with D;subst D;exact Yw h1 T (by rintro rfl;exact Y tP)
  | m c=>
   simp only[gR,E,I]at h;unfold nE at h;split at h
   ·rename_i O tK;cases jN:(once (kO 0 O)&&Nat.ble O.length 40)with
    |false=>rw[jN]at h;cases h
    | true=>
     rw[jN,aq]at h;obtain⟨z,D,Yt⟩:=(Kk _ _ _).lA h;split at D
     ·rename_i y hy;unfold C5 at D;generalize C4 N O (iM (dZ c.ps) y.2) (mW (gP o.dst) (eJ c.ro y.1).len O (iM (dZ c.ps) y.2))=ok at D;cases ok with
      |false=>cases D
      | true=>
       rw[aq]at D;have e1:∀ns cn nr,(σ.cX ns cn nr).t t=σ.t t:=λns cn nr=>A.ajb T ns cn
       have:=ajc (t:=t) D (by rw[e1];exact T) Y;rw[this,e1]
     ·cases D
   ·cases h
def aje{E:Nat}{I:aP}{O:A}(T:jP x)(U:mj e u)(Y:jP I)(Z:mj E O)(h:e≠E):cq E I O (cq e x u σ)=cq e x u (cq E I O σ):=by
 refine S.ext' (λk=>?_) λn=>?_
 ·simp only[qS];by_cases C:k=E
  ·subst C;rw[aV rfl,aW (Ne.symm h),aV rfl,Z.drop (Ne.symm h)]
  ·rw[aW C];by_cases D:k=e
   ·subst D;rw[aV rfl,aV rfl,U.drop h]
   ·rw[aW D,aW D,aW C,A.Ro]
 ·simp only[oz];by_cases C:n=E
  ·subst C;rw[aV rfl,aW (Ne.symm h),aV rfl,Option.map_some,Y.drop]
  ·rw[aW C];by_cases D:n=e
   ·subst D;rw[aV rfl,aV rfl,Option.map_some,T.drop]
   ·rw[aW D,aW D,aW C];cases σ.m n with
    |none=>rfl
    |some y=>simp only[Option.map_some,aP.Ro]
def ajf(O:jP x)(T:mj e u)(U:p e=true)(Y:nH o=true)(Z:o.dst≠some e)(C:∀ y∈o.op.operands,(aI σ y).nr p=true/\y ≠ .tmp e){D:S}
  (h:dm P N Φ σ o some=some D):dm P N Φ (cq e x u σ) o some=some (cq e x u D):=by
 obtain⟨e',x',u',hd',FR,lC,uN,gQ,oy⟩:=KG (o:={ o with guard:=none }) (ops:=#[]) Y rfl h;have ck:e≠e':=by rintro rfl;exact Z hd'
 have E:=oy (cq e x u σ) rfl λy I=>wU (C y I).1 U (C y I).2
 rw[aje O T lC uN ck,<- gQ]at E;exact E
def ajg(D:nH o=true){C:S}(h:dm P N Φ σ o some=some C){t:Nat}(E:(σ.t t).fD=true)(I:o.dst≠some t):C.t t=σ.t t:=by
 obtain⟨O,Z,u',T,FR,lC,uN,U,oy⟩:=KG (o:={ o with guard:=none }) (ops:=#[]) D rfl h;have Y:t≠O:=by rintro rfl;exact I T
 rw[U,qS,aW Y,A.KS E]
def ajh(hx:jP x)(hu:mj e u)(C:p e=true)(hm:isApp o=true)(hd:o.dst≠some e)(O:∀ y∈o.op.operands,(aI σ y).nr p=true/\y ≠ .tmp e){T:S}
  (h:dm P N Φ σ o some=some T):dm P N Φ (cq e x u σ) o some=some (cq e x u T):=by
 obtain⟨a,b,t,t',I,hn,mR,hk⟩:=Rg hm;have E:=O a (by rw[I];simp[Op.operands,Call.operands]);have hb:=O b (by rw[I];simp[Op.operands,Call.operands]);rw[Gt I hn mR hk]at h ⊢;obtain⟨d,U,h⟩:=jx h;obtain⟨r,v,gQ,hr,oy⟩:=KH h;have Y:d≠e:=by rintro rfl;exact hd U
 have Z:r≠e:=by
  rcases hr with h1|h1
  ·rw[h1];exact Y
  ·rintro rfl;have D:=E.1;rw[h1]at D;simp[A.nr,A.fr,tL,Lf.nr,Lf.fr,nG,iJ,C]at D
 unfold gn;rw[U];simp only;rw[wU E.1 C E.2,wU hb.1 C hb.2,oy (cq e x u σ) (λk=>ai3 hb.1 C) (λr' v' fo rN=>?_)]
 ·rw[Yi v hx hu (Ne.symm Z),KP Y ?_,gQ];have:cz e [r]=false:=by simp[cz,Z]
  simp only[A.drop,Lf.drop,this,av,A.bY,vW,Lf.bY]
 ·have ck:r'≠e:=by
   rintro rfl;have D:=E.1;rw[fo]at D;simp[A.nr,A.fr,tL,Lf.nr,Lf.fr,nG,iJ,C]at D
  rw[oz,aW ck,rN];rfl
def aji(D:isApp o=true){C:S}(h:dm P N Φ σ o some=some C){t:Nat}(E:(σ.t t).fD=true)(I:o.dst≠some t):C.t t=σ.t t:=by
 obtain⟨a,b,t1,t2,O,T,U,Y⟩:=Rg D;rw[Gt O T U Y]at h;obtain⟨d,Z,h⟩:=jx h;obtain⟨r,v,gQ,hr,oy⟩:=KH h;have ck:t≠d:=by rintro rfl;exact I Z
 rw[gQ];show bG ((σ.drop r).root r _).t d _ t=_;rw[cc _ _ _ ck];exact A.KS E r
def Yx(C:∃ ty t y,o.op = .store ty (.tmp t) y/\o.dst=none /\ ∃ r j,σ.t t = .aH r j){I:S}(h:dm P N Φ σ o some=some I):∃ t y r j cs xs,o.op.operands = #[.tmp t,y]/\σ.t t = .aH r j/\(aI σ y).yB=some xs/\σ.m r=some (.ay cs)/\I=σ.root r (.ay (splice cs j xs)) /\
  ∀(σ2:S) (D:aa Lf),σ2.t t = .aH r j -> aI σ2 y=aI σ y -> σ2.m r=some (.ay D) -> D.length=cs.length -> dm P N Φ σ2 o some=some (σ2.root r (.ay (splice D j xs))):=by
 obtain⟨ty,t,y,C,Y,r,j,O⟩:=C;have T:∀ σ2:S,σ2.t t = .aH r j -> dm P N Φ σ2 o some=oV P σ2 ty (.aH r j) (aI σ2 y) some:=by
  intro σ2 E;unfold dm;rw[show fD o.op=false by rw[C];rfl,av];simp[gR,C,Y];have Z:aI σ2 (.tmp t) = .aH r j:=E;rw[Z,show wN _ _=false from rfl,av]
 rw[T σ O]at h;unfold oV at h;split at h
 ·rename_i n xs hn U;split at h
  ·rename_i hlen;simp only at h;split at h
   ·rename_i cs gj;split at h
    ·rename_i hj;cases hl:xs.all Lf.live with
     |false=>simp_all
     | true=>
      rw[hl,aq]at h;injection h with h
      refine⟨t,y,r,j,cs,xs,by rw[C];rfl,O,U,gj,h.symm,λσ2 D h1 E h3 h4=>?_⟩
      rw[T σ2 h1,E];simp only[oV,hn,U,aV hlen,h3];rw[aV (by rw[h4];exact hj),hl];rfl
    ·cases h
   ·cases h
  ·cases h
 ·cases h
def Yy(C:Gi o=true)(E:wO σ o=true):∃ ty t y,o.op = .store ty (.tmp t) y/\o.dst=none /\ ∃ r j,σ.t t = .aH r j:=by
 unfold Gi at C;rw[aJ]at C;obtain⟨D,I⟩:=C;split at D
 ·rename_i ty t y O;refine⟨ty,t,y,O,Option.isNone_iff_eq_none.1 I,?_⟩;unfold wO at E
  grind
 ·cases D
def ajj{y:A}{xs:aa Lf}(h:y.yB=some xs)(C:y.nr p=true):xs.all (Lf.nr p)=true:=by
 cases y with
 |lf l=>injection h with h;subst h;rw[List.all_cons,show l.nr p=true from C];rfl
 |agg cs=>injection h with h;subst h;exact C
 |_=>cases h
def ajk(hx:jP x)(hu:mj e u)(C:p e=true)(hm:Gi o=true)(hs:wO σ o=true)(O:∀ y∈o.op.operands,(aI σ y).nr p=true/\y ≠ .tmp e){T:S}
  (h:dm P N Φ σ o some=some T):dm P N Φ (cq e x u σ) o some=some (cq e x u T):=by
 obtain⟨t,y,r,j,cs,xs,U,Y,g3,g4,g5,g6⟩:=Yx (Yy hm hs) h;have D:=O (.tmp t) (by rw[U];simp);have E:=O y (by rw[U];simp);have e1:(cq e x u σ).t t = .aH r j:=(wU D.1 C D.2).trans Y;have Z:r≠e:=by
  have h2:(aI σ (.tmp t)).nr p=true:=D.1;have h3:aI σ (.tmp t) = .aH r j:=Y;rw[h3]at h2;exact aiG h2 C
 have e3:(cq e x u σ).m r=some (.ay (cs.map (Lf.drop e))):=by
  rw[oz,aW Z,g4];rfl
 have n9:=qw.zg (ajj g3 E.1) C;rw[g6 (cq e x u σ) _ e1 (wU E.1 C E.2) e3 (by rw[eN]),g5];congr 1
 refine S.ext' (λk=>?_) λn=>?_
 ·show (cq e x u σ).t k=(cq e x u (σ.root r (.ay (splice cs j xs)))).t k;rw[qS,qS];rfl
 ·show bG (cq e x u σ).m r (some (.ay (splice (cs.map (Lf.drop e)) j xs))) n=(cq e x u (σ.root r (.ay (splice cs j xs)))).m n;rw[oz];by_cases I:n=r
  ·subst I;rw[bJ,aW Z];show _=(bG σ.m n (some (aP.ay (splice cs j xs))) n).map (aP.drop e);rw[bJ];simp only[Option.map_some,aP.Gl,splice,List.map_append,List.map_take,List.map_drop,n9]
  ·rw[cc _ _ _ I,oz];have:(σ.root r (.ay (splice cs j xs))).m n=σ.m n:=cc _ _ _ I;rw[this]
def ajl(D:Gi o=true)(E:wO σ o=true){C:S}(h:dm P N Φ σ o some=some C)(t:Nat):C.t t=σ.t t:=by
 obtain⟨_,_,r,j,cs,xs,_,_,_,_,I,_⟩:=Yx (Yy D E) h;rw[I];rfl
def ajm(Y:fC P Φ)(C:jP x)(D:mj e u)(Z:e<20000)(E:p e=true)(wV:∀ n,20000<=n->p n=false)(O:Gj Φ o=true)(jK:wO σ o=true)(T:o.dst≠some e)(I:∀ y∈o.op.operands,(aI σ y).nr p=true/\y ≠ .tmp e)(hl:∀ n∈ow Φ σ o,wP σ p n=true){U:S}
  (h:dm P N Φ σ o some=some U):dm P N Φ (cq e x u σ) o some=some (cq e x u U):=by
 unfold Gj at O;rw[dS,dS,dS]at O;rcases O with ((hc|hc)|hc)|hc
 ·exact aja Y C D Z E wV hc T I hl h
 ·exact ajf C D E hc T I h
 ·exact ajh C D E hc T I h
 ·exact ajk C D E hc jK I h
def ajn(O:fC P Φ)(C:Gj Φ o=true)(T:wO σ o=true){I:S}(h:dm P N Φ σ o some=some I){t:Nat}(D:(σ.t t).fD=true)(E:o.dst≠some t):I.t t=σ.t t:=by
 unfold Gj at C;rw[dS,dS,dS]at C;rcases C with ((hc|hc)|hc)|hc
 ·exact ajd O hc h D E
 ·exact ajg hc h D E
 ·exact aji hc h D E
 ·exact ajl hc T h t
def Yz{i W j:Nat}{C:Oper}(D:ops[j]?=some C)(h:Gf ops i W j=true):∃ e∈C.after,Region.binds .any e=true/\(e.on=i\/W.testBit e.on=true):=by
 unfold Gf at h;rw[D]at h;obtain⟨e,E,hb⟩:=List.any_eq_true.1 h;rw[aJ,dS]at hb
 refine⟨e,by simpa using E,hb.1,hb.2.imp (λh=>cE h) id⟩
def RD{g:Oper -> Bool}{C:Oper}{i L W:Nat}:∀ (n j:Nat),Gg g ops C i L W n j=true -> ∀ k,j <= k -> k<j+n -> k=i \/ L.testBit k=true \/ (W.testBit k=true/\Gf ops i W k=true) \/ (W.testBit k=false /\ ∀ ok,ops[k]?=some ok -> g ok=true/\C.apart ops ok=true)
 |0,j,_,k,D,E=>by omega
 | n+1,j,h,k,D,E=>by
  unfold Gg at h;rw[aJ,dS,dS]at h;by_cases I:k=j
  ·subst I;rcases h.1 with (h | h) | h
   ·exact .inl (cE h)
   ·exact .inr (.inl h)
   ·grind
  ·exact RD n (j+1) h.2 k (by omega) (by omega)
def oA{g:Oper -> Bool}{i L W:Nat}:∀ (n j:Nat) (k:Nat),j <= k -> k<j+n -> k≠i -> L.testBit k=false -> W.testBit k=false -> ∀ ok,ops[k]?=some ok -> g ok=true -> gJ g ops i L W n j=true
 |0,j,k,C,D,_,_,_,_,_,_=>by omega
 | n+1,j,k,C,D,hi,E,I,ok,O,T=>by
  unfold gJ;rw[dS];by_cases U:k=j
  ·subst U;refine .inl ?_;have hb:Nat.beq k i=false:=by
    cases hb:Nat.beq k i with
    |false=>rfl
    |true=>simp_all
   simp_all
  ·exact .inr (oA n _ k (by omega) (by omega) hi E I ok O T)
def YA{g:Oper -> Bool}{i L W:Nat}:∀ (n j:Nat),gJ g ops i L W n j=true -> ∃ k ok,ops[k]?=some ok/\k≠i/\L.testBit k=false/\W.testBit k=false/\g ok=true
 |0,j,h=>by cases h
 | n+1,j,h=>by
  unfold gJ at h;rw[dS]at h;rcases h with h|h
  ·rw[aJ,fH,nh,nh]at h;obtain⟨⟨⟨D,E⟩,I⟩,C⟩:=h;split at C
   next ok O=>exact⟨j,ok,O,(by rintro rfl;rw[Nat.beq_refl]at D;cases D),E,I,C⟩
   ·cases C
  ·exact YA n _ h
theorem ajo[Inhabited Wd]{L i:Nat}{k:S -> aj X}(E:fD o.op=true \/ fL σ ops o=some false)(I:QO σ (zl Φ ops i L (waits ops i ops.size 0 0) σ) (Be σ ops i L (waits ops i ops.size 0 0)) o=true)(h:Gh P N Φ ops L i σ o k=some r):
  ∃v,k (fU σ o.dst v)=some r/\mh P ops o (zl Φ ops i L (waits ops i ops.size 0 0) σ) (Be σ ops i L (waits ops i ops.size 0 0)) v σ /\ ∀σ:S,gG N σ o.dst v some=some (fU σ o.dst v):=by
 unfold Gh at h;unfold QO at I;rw[aJ]at I;split at h
 ·rename_i C;obtain⟨v,D,Z,_⟩:=QW (w0:=default) (N:=N) h;cases O:v.nI _ _ with
  |false=>rw[O]at D;cases D
  | true=>
   rw[O,aq]at D;obtain⟨T,U⟩:=r6 D;have E:=E.resolve_right (by rw[C];simp)
   refine⟨v,T,.inl ⟨C,E,Z,λy Y=>bN.1 I.1 y (by simpa using Y),O,λt y r j e Y=>?_⟩,λσ=>(U σ).at_ _⟩
   simp_all
 next C=>obtain⟨T,U⟩:=r6 h;exact⟨.skip,T,.inr ⟨C,rfl⟩,λσ=>(U σ).at_ _⟩
 ·cases h
def Dl{i L W n:Nat}(h:zk Φ ops i L W σ n=true):zl Φ ops i L W σ n=true:=by unfold zl;rw[h];rfl
def ajp{i L W:Nat}(h:Fb Φ ops i L W σ o=true):∃ ty t y,o.op = .store ty (.tmp t) y/\o.dst=none/\Kw Φ ops i L W σ t=true/\(∀ k,σ.t t ≠ .ptr k) /\ ∀ r j,σ.t t = .aH r j -> zj σ o=[r]:=by
 unfold Fb at h;split at h
 ·rename_i ty t y C;rw[aJ,aJ]at h
  refine⟨ty,t,y,C,by simpa using h.1.1,h.1.2,λk E=>?_,λr j D=>by simp[zj,C,D]⟩
  simp_all
 ·cases h
def ajq{i L W:Nat}(h:QM Φ ops i L W o=true):∃ x y t C,o.op = .call ⟨.builtin .append,⟨[.tmp x,y]⟩,⟨[t,C]⟩⟩/\mc Φ ops i L W x=true/\(o7 t=false/\Nat.beq t C=true/\Bc o.dst t (.tmp x)=false):=by
 unfold QM at h
 grind
def ajr{i L W:Nat}(h:QL Φ ops i L W σ o=true):∃ f args C c,o.op = .call { callee:=.value (.func f),args:=args,argTypes:=C } /\ Φ f=some (.m c)/\Kt c=true/\r4 (λt r=>!gJ (jO t) ops i L W ops.size 0 && !gJ (λok=>eG ok r) ops i L W ops.size 0 && !gJ isApp ops i L W ops.size 0) σ c.ps args.toList=true/\ow Φ σ o=ir σ c.ps args.toList:=by
 unfold QL at h;split at h
 ·rename_i f args C D;split at h
  next c E=>rw[aJ]at h;exact⟨f,args,C,c,D,E,h.1,h.2,by simp[ow,D,E]⟩
  ·cases h
 ·cases h
def Gw{p:Nat -> Bool}:∀ (ps:aa PK) (xs:aa Operand),(∀ x∈xs,(aI σ x).nr p=true) -> ∀ n∈ir σ ps xs,p n=false
 |[],[],_,n,hn=>by cases hn
 |.v _ _::ps,x::xs,h,n,hn=>Gw ps xs (λy C=>h y (.tail _ C)) n hn
 |.s _ _::ps,x::xs,h,n,hn=>Gw ps xs (λy C=>h y (.tail _ C)) n hn
 | .p _ _ _ :: ps,x :: xs,h,n,hn=>by
  simp[ir]at hn;split at hn
  ·rename_i I j E;rcases gk.1 hn with rfl | hn
   ·have D:=h x (.head _);rw[E]at D;have D:(!p n)=true:=D
    simpa using D
   ·exact Gw ps xs (λy C=>h y (.tail _ C)) n hn
  ·exact Gw ps xs (λy C=>h y (.tail _ C)) n hn
def KT{D:aj Tmp}{g:Bool}{k:S -> aj X}(h:r3 σ D g k=some r):k σ=some r:=by
 unfold r3 at h;cases g with
 |false=>exact h
 | true=>
  rw[aq]at h;split at h
  ·rename_i d;split at h
   ·rename_i b hb;have:∀ c,b=c -> σ.set d (.lf (.v (.bool c)))=σ:=by
     rintro c rfl
     refine S.ext' (λk=>?_) λ_=>rfl
     show bG _ _ _ _=_;by_cases C:k=d
     ·subst C;rw[bJ,hb]
     ·rw[cc _ _ _ C]
    grind
   ·exact h
  ·exact h
def YB{L j:Nat}(h:lG ops L j=true):j<ops.size:=by
 obtain⟨_,o,C,_⟩:=Gu.1 h
 grind
def Bi{L j:Nat}:j∈(List.range ops.size).filter (lG ops L) ↔ lG ops L j=true:=by
 rw[List.mem_filter,fA];exact⟨λh=>h.2,λh=>⟨YB h,h⟩⟩
structure YC (ops:Array Oper) (p:Nat->Bool) (σ:S) (o:Oper):Prop where
 is:nH o=true
 want:fL σ ops o=some true
 aub:∀y∈o.op.operands,(aI σ y).fD=true/\∀t,y = .tmp t->p t=false
 guard:∀g c t,o.guard=some (g,c)->(ops[g]?).bind (·.dst)=some t->p t=false
def ajs{x:A}{n:Nat}{z:V}(h:qL x n=some z)(X:Type)(k:A -> aj X):AO x n k=k (.lf (.v z)):=by
 unfold qL at h;split at h
 ·split at h
  next xs _ _ C=>injection h with h;subst h;simp[AO,C,Option.bind_some,yD]
  ·cases h
 ·cases h
def YD{x:A}{n:Nat}{z:V}{g:Lf -> Lf}{G:A -> A}(C:∀ xs,G (.eO xs) = .eO (xs.map λp=>(p.1,p.2.map g)))(D:∀ z,g (.v z) = .v z)(h:qL x n=some z):qL (G x) n=some z:=by
 unfold qL at h;split at h
 ·split at h
  next xs _ _ E=>injection h with h;subst h;rw[C];simp[qL,dW,E,Option.map_some,List.map_cons,List.map_nil,D]
  ·cases h
 ·cases h
def RE{v:A}(C:∀ q,v.drop q=v){rr d:Nat}{key:Nat -> aa Nat}:∀ (f j:Nat) (xs:aa Lf) (σ:S),gH rr key f j xs (σ.set d v)=(gH rr key f j xs σ).map λp=>(p.1,p.2.set d v)
 |_,_,[],σ=>by simp[gH]
 |0,j,x::xs,σ=>by cases x<;>simp[gH]
 | f+1,j,.v x :: xs,σ=>by
  simp only[gH,RE C f];cases gH rr key f (j+1) xs σ<;>rfl
 | f+1,j,.own [q] :: xs,σ=>by
  simp only[gH];show (match σ.m q with
   |some (.sl z)=>_
   |_=>none)=_
  cases D:σ.m q with
  |none=>rfl
  | some y=>
   cases y with
   | sl z=>
    cases Nat.beq q rr with
    |true=>rfl
    | false=>
     simp only[av];rw[S.drop_set q (C q),RE C f];cases gH rr key f (j+1) (xs.map (Lf.drop q)) (σ.drop q)<;>rfl
   |_=>rfl
 |f+1,j,.own []::xs,σ=>rfl
 |f+1,j,.own (_::_::_)::xs,σ=>rfl
 |f+1,j,.dead::xs,σ=>rfl
def RG{rr:Nat}{key:Nat -> aa Nat}{x n:Nat}{z:V}:∀ (f j:Nat) (xs:aa Lf) (σ C:S) (D:aa V),gH rr key f j xs σ=some (D,C) -> qL (σ.t x) n=some z -> qL (C.t x) n=some z
 | _,_,[],σ,C,D,h,E=>by
  simp only[gH]at h;simp_all
 |0,j,y::xs,σ,C,D,h,E=>by cases y<;>simp[gH]at h
 | f+1,j,.v y :: xs,σ,C,D,h,E=>by
  simp only[gH]at h;cases I:gH rr key f (j+1) xs σ with
  |none=>simp_all
  | some p=>
   rw[I]at h;injection h with h;injection h with _ h;subst h;exact RG f (j+1) xs σ p.2 p.1 I E
 | f+1,j,.own [q] :: xs,σ,C,D,h,E=>by
  simp only[gH]at h;split at h
  ·cases hb:Nat.beq q rr with
   |true=>simp_all
   | false=>
    rw[hb,av]at h;cases I:gH rr key f (j+1) (xs.map (Lf.drop q)) (σ.drop q)with
    |none=>simp_all
    | some p=>
     rw[I]at h;injection h with h;injection h with _ h;subst h;refine RG f (j+1) _ (σ.drop q) p.2 p.1 I ?_;exact YD (G:=A.drop q) (g:=Lf.drop q) (λ_=>rfl) (λ_=>rfl) E
  ·cases h
def ajt{d:Nat}{v:V}{t:TypeId}{x y:A}{I:S}(h:tM P (σ.set d (.lf (.v v))) t x y some=some I):∃ D,tM P σ t x y some=some D/\I=D.set d (.lf (.v v)) /\ ∀ (e n:Nat) (z:V),qL (σ.t e) n=some z -> qL (D.t e) n=some z:=by
 unfold tM at h;split at h
 ·rename_i n xs j i s rr hn n9;split at h
  ·rename_i hlen;cases O:xs.all Lf.live with
   |false=>simp_all
   | true=>
    rw[O,aq]at h;split at h
    ·rename_i vs τ1 C;rw[RE (v:=.lf (.v v)) (λ_=>rfl)]at C;cases E:gH rr (λm=>(j+m) :: i :: s :: [rr]) xs.length 0 xs σ with
     |none=>simp_all
     | some p=>
      rw[E]at C;obtain⟨vs0,T⟩:=p;injection C with C;injection C with e1 e2;subst e1 e2;split at h
      ·rename_i U Y Z l gQ;have aju:T.m rr=some (.sl (.sl U (Y+2) Z l)):=gQ;split at h
       ·rename_i n6;split at h
        ·rename_i hi;split at h
         ·rename_i hj;split at h
          ·rename_i e he;injection h with h
           refine⟨T.cX [rr] [] [(rr,.sl (.sl U (Y+2) Z (l.set i e)))],?_,?_,λex nx z hz=>?_⟩
           ·simp[tM,hn,n9,aV hlen,O,aq,E,aju,aV n6,aO hi,aV hj,he]
           ·rw[<- h];exact S.Re _ rfl
           ·exact YD (G:=A.cX [rr] []) (λ_=>rfl) (λ_=>rfl) (RG _ _ _ _ _ _ E hz)
          ·cases h
         ·cases h
        ·cases h
       ·cases h
      ·cases h
    ·cases h
  ·cases h
 ·cases h
def YE{t:TypeId}{a b:Operand}(C:o.op = .store t a b)(D:o.dst=none)(E:wN (aI σ a) (aI σ b)=true):dm P N Φ σ o some=tM P σ t (aI σ a) (aI σ b) some:=by
 unfold dm;rw[show fD o.op=false by rw[C];rfl,av];simp[gR,C,D,E,aq]
theorem ajv[Inhabited Wd](dI:fC P Φ){K:S -> Prop}{f L i:Nat}{U:Oper}{τ:S}(hi:ops[i]?=some U)(hr:lG ops L i=true)(D:QT ops L σ i=true)(gQ:de P N Φ ops σ U some=some τ)(H:Any P N Φ ops K f (L ||| 2 ^ i) τ):Any P N Φ ops K (f+1) L σ:=by
 unfold QT at D;rw[hi]at D;split at D
 ·rename_i oi' j0 e1 ajw;injection e1 with e1;subst e1;split at D
  ·rename_i x n d oj r9 zu zv hj0;split at D
   ·rename_i ty a b Y YF YG;rw[aJ,aJ]at D;obtain⟨⟨c1,c2⟩,c3⟩:=D;obtain⟨z,hz⟩:=Option.isSome_iff_exists.1 c1;obtain⟨a1,a2,a3⟩:=Oper.apart_spec c3;have hpd:∀ j,j<ops.size -> j≠i -> L.testBit j=false -> j=j0:=by
     intro j E I O;have:j∈(List.range ops.size).filter (λj=>!(Nat.beq j i || L.testBit j)):=by
      rw[List.mem_filter];refine⟨fA.2 E,?_⟩;rw[O,Bool.or_false];cases hb:Nat.beq j i with
      |false=>rfl
      |true=>exact absurd (cE hb) I
     rw[ajw]at this;exact gF.1 this
    have qR:∀ σ2:S,qL (σ2.t x) n=some z -> de P N Φ ops σ2 U some=gG N σ2 (some d) (.lf (.v z)) some:=by
     intro σ2 h2;unfold de;simp only[fL,zv];unfold dm;rw[show fD U.op=true by rw[r9];rfl,aq,r9];simp only[mb];rw[show aI σ2 (.tmp x)=σ2.t x from rfl,ajs h2,zu]
    have hN:∀ σ2:S,gG N σ2 (some d) (.lf (.v z)) some=some (σ2.set d (.lf (.v z))):=by
     intro σ2;rw[qR σ hz]at gQ;obtain⟨_,g2⟩:=r6 gQ;exact(g2 σ2).at_ _
    have hE:τ=σ.set d (.lf (.v z)):=by
     grind
    rw[hE]at H
    refine Rk (W:=0) hi (λj oj _ E=>by rw[Nat.zero_testBit]at E;cases E) (λσ=>σ.set d (.lf (.v z)))
     (λL' C=>qL (C.t x) n=some z /\ ∀j,j<ops.size -> j≠i -> L'.testBit j=false -> j=j0/\wN (aI C a) (aI C b)=true)
     (λL' C Z=>(qR C Z.1).trans (hN C)) (λL' C j oj' rO Z T I O _ zq=>?_) f L σ (λj E=>by rw[Nat.zero_testBit]at E;cases E) hr
     ⟨hz,λj E I O=>⟨hpd j E I O,c2⟩⟩ H
    obtain⟨rfl,hg⟩:=Z.2 j (hU.1 T).1 I O;rw[hj0]at T;injection T with T;subst T;have ha:aI (C.set d (.lf (.v z))) a=aI C a:=Dg (a1 d zu) _ (by rw[Y];simp[Op.operands]);have hb:aI (C.set d (.lf (.v z))) b=aI C b:=Dg (a1 d zu) _ (by rw[Y];simp[Op.operands]);have jK:de P N Φ ops (C.set d (.lf (.v z))) oj some=tM P (C.set d (.lf (.v z))) ty (aI C a) (aI C b) some:=by
     unfold de;simp only[fL,YG];rw[YE Y YF (by rw[ha,hb];exact hg),ha,hb]
    rw[jK]at zq;obtain⟨σ2,h1,h2,h3⟩:=ajt zq
    refine⟨σ2,?_,h2,h3 _ _ _ Z.1,λk hk YH YI=>?_⟩
    ·unfold de;simp only[fL,YG];rw[YE Y YF hg];exact h1
    ·grind
   ·cases D
  ·cases D
 ·cases D
theorem Gx[Inhabited Wd](dI:fC P Φ):∀ (f L:Nat) (σ:S) (k:S->aj X),qM P N Φ ops f L σ k=some r->Any P N Φ ops (λτ=>k τ=some r) f L σ
 | 0,L,σ,k,h=>by
  unfold qM at h;split at h
  ·rename_i hr
   refine⟨λj=>?_,h⟩
   cases Y:lG ops L j with
   |false=>rfl
   |true=>have:=Bi.2 Y;rw[hr]at this;cases this
  ·cases h
 | f+1,L,σ,k,h=>by
  unfold qM at h;split at h
  ·rename_i hr
   refine⟨λ_=>h,λj Y=>?_⟩
   have:=Bi.2 Y;rw[hr]at this;cases this
  ·rename_i i hr;have hi:lG ops L i=true:=Bi.1 (by rw[hr];exact .head _)
   refine⟨λh=>absurd (h i) (by rw[hi];simp),λj Y=>?_⟩
   have Y:=Bi.2 Y;rw[hr]at Y;obtain rfl:=gF.1 Y;split at h
   next o ho=>obtain⟨τ,h1,h2⟩:=Q8 dI h;exact⟨o,τ,ho,h2,Gx dI f _ τ k (KT h1)⟩
   ·cases h
  ·rename_i rs hn hs;split at h
   ·rename_i i hf;have hc:=List.find?_some hf;have hm:=List.mem_of_find?_eq_some hf;have hi:=Bi.1 hm;split at h
    ·rename_i o ho;unfold XM at hc;rw[ho,aJ,aJ,aJ]at hc;obtain⟨⟨⟨c1,c2⟩,c3⟩,c4⟩:=hc;have c1:fD o.op=true\/fL σ ops o=some false:=by
      rw[dS]at c1
      refine c1.imp id λc1=>?_
      split at c1
      next b hb=>rw[hb];cases b<;>first|rfl|cases c1
      ·cases c1
     obtain⟨v,h1,hF,hN⟩:=ajo c1 c4 h;have pg:=RD _ _ c3;have c2:=cE c2;have Gy:∀ j,(waits ops i ops.size 0 0).testBit j=true->(L ||| 2 ^ i).testBit j=false:=by
      intro j Y;have:((L |||2 ^ i) &&& waits ops i ops.size 0 0).testBit j=false:=by rw[c2];exact Nat.zero_testBit j
      rw[Nat.testBit_and,Y,Bool.and_true]at this;exact this
     have vg:∀ j,(waits ops i ops.size 0 0).testBit j=true->L.testBit j=false:=by
      intro j Y;have:=Gy j Y;rw[zo,nh]at this;exact this.1
     refine ai0 (W:=waits ops i ops.size 0 0) (ok:=λt r=>!gJ (jO t) ops i L (waits ops i ops.size 0 0) ops.size 0 && !gJ (λok=>eG ok r) ops i L (waits ops i ops.size 0 0) ops.size 0 && !gJ isApp ops i L (waits ops i ops.size 0 0) ops.size 0) (qQ:=Kw Φ ops i L (waits ops i ops.size 0 0) σ) (me:=me Φ ops i L (waits ops i ops.size 0 0) σ) (mc:=mc Φ ops i L (waits ops i ops.size 0 0)) dI ho hN (λj C D Y=>?_) f L σ (λt r jk j C D O T U=>?_) (λx hx j C D O T U=>?_) (λx hx=>?_) (λt jk j C D O T U=>?_) (λt jk j C D O T U=>?_) (λj C D O T U=>?_) vg hi hF (Gx dI f _ _ k (KT h1))
     ·have c9:=(hU.1 D).1;rcases pg j (by omega) (by omega)with e | e | e | e
      ·subst e;have:=Gy j Y;rw[zo]at this;simp at this
      ·rw[vg j Y]at e;cases e
      ·exact Yz D e.2
      ·rw[Y]at e;cases e.1
     ·have c9:=(hU.1 D).1;rw[aJ,aJ,fH,fH,fH]at jk
      refine⟨λZ=>?_,?_,?_⟩
      ·have:=oA (g:=jO t) ops.size 0 j (by omega) (by omega) O T U C D (by unfold jO;rw[Z];exact Nat.beq_refl t);rw[jk.1.1]at this;cases this
      ·cases hn:eG C r with
       |false=>rfl
       | true=>
        have:=oA (g:=λok=>eG ok r) ops.size 0 j (by omega) (by omega) O T U C D hn;rw[jk.1.2]at this;cases this
      ·cases hn:isApp C with
       |false=>rfl
       | true=>
        have:=oA (g:=isApp) ops.size 0 j (by omega) (by omega) O T U C D hn;rw[jk.2]at this;cases this
     ·have c9:=(hU.1 D).1;unfold me at hx;rw[aJ]at hx;intro Z;have:=oA (g:=jO x) ops.size 0 j (by omega) (by omega) O T U C D (by unfold jO;rw[Z];exact Nat.beq_refl x);rw[this]at hx;cases hx.1
     ·unfold me at hx;rw[aJ]at hx;have hx:=hx.2;cases hz:σ.t x with
      |aH r j=>rw[hz]at hx;exact hx
      |iX cs=>trivial
      |_=>rw[hz]at hx;cases hx
     ·have c9:=(hU.1 D).1;by_cases Z:C.dst=some t
      ·refine .inr ?_;have RH:jO t C=true:=by unfold jO;rw[Z];exact Nat.beq_refl t
       cases Dj:vf C with
       | false=>
        cases Gz:Kv Φ ops i L (waits ops i ops.size 0 0) σ C with
        | false=>
         have:=oA (g:=λok=>jO t ok && !(vf ok ||Kv Φ ops i L (waits ops i ops.size 0 0) σ ok)) ops.size 0 j (by omega) (by omega) O T U C D (by rw[RH,Dj,Gz];rfl);unfold Kw at jk;rw[this]at jk;cases jk
        | true=>
         unfold Kv at Gz;split at Gz
         next s x f zw=>exact .inr ⟨s,x,f,zw,Gz⟩
         ·cases Gz
       | true=>
        refine .inl ⟨rfl,?_⟩;refine Dl ?_;unfold zk;rw[dS]
        refine .inl (oA (g:=λo=>eG o t) _ 0 j (by omega) (by omega) O T U C D ?_)
        obtain⟨ty,e,h1,_,h3,_⟩:=Ye Dj;unfold eG;rw[Z,h1];exact Nat.beq_refl t
      ·exact .inl Z
     ·have c9:=(hU.1 D).1;by_cases Z:C.dst=some t
      ·refine .inr ?_;have RH:jO t C=true:=by unfold jO;rw[Z];exact Nat.beq_refl t
       cases uU:nH C with
       | false=>
        cases hma:isApp C with
        |true=>exact .inr (.inl rfl)
        | false=>
         cases Bg:zm Φ C with
         |true=>exact .inr (.inr rfl)
         | false=>
          have:=oA (g:=λok=>jO t ok && !(nH ok ||isApp ok ||zm Φ ok)) ops.size 0 j (by omega) (by omega) O T U C D (by rw[RH,uU,hma,Bg];rfl);unfold mc at jk;rw[this]at jk;cases jk
       | true=>
        refine .inl ?_;have lF:eG C t=true:=by
         unfold nH at uU;rw[aJ]at uU;have h1:=uU.1;unfold eG;rw[Z];split at h1
         next AV=>simp only[AV];exact Nat.beq_refl t
         next AV=>simp only[AV];exact Nat.beq_refl t
         next AV=>simp only[AV];exact Nat.beq_refl t
         ·cases h1
        have h9:=oA (g:=λo=>eG o t) ops.size 0 j (by omega) (by omega) O T U C D lF;refine⟨rfl,?_,?_⟩
        ·refine Dl ?_;unfold zk;rw[dS];exact .inl h9
        ·unfold Be;rw[dS];exact .inl h9
      ·exact .inl Z
     ·have c9:=(hU.1 D).1;rcases pg j (by omega) (by omega)with e | e | e | e
      ·exact absurd e O
      ·rw[T]at e;cases e
      ·rw[U]at e;cases e.1
      ·obtain⟨e1,e2⟩:=e.2 C D
       refine⟨e2,?_,λn hn=>?_⟩
       ·rw[dS,dS,dS]at e1;rcases e1 with ((e1 | e1) | e1) | e1
        ·exact .inl e1
        ·obtain⟨f',args,jv,c,g1,g2,g3,g4,g5⟩:=ajr e1
         refine .inr (.inl ⟨f',args,jv,c,g1,g2,g3,g4,λn hn=>?_⟩)
         refine Dl ?_;unfold zk;rw[dS]
         refine .inr (oA (g:=λo=>cM n (ow Φ σ o) ||cM n (zj σ o)) _ 0 j (by omega) (by omega) O T U C D ?_)
         rw[g5,tE.2 hn];rfl
        ·obtain⟨ty,t,y,g1,g2,g3,g4,g5⟩:=ajp e1;refine .inr (.inr (.inl ⟨ty,t,y,g1,g2,g3,?_⟩));cases hx:σ.t t with
         | aH r' j'=>
          show zl Φ ops i L (waits ops i ops.size 0 0) σ r'=true;refine Dl ?_;unfold zk;rw[dS]
          refine .inr (oA (g:=λo=>cM r' (ow Φ σ o) ||cM r' (zj σ o)) _ 0 j (by omega) (by omega) O T U C D ?_)
          rw[g5 r' j' hx,dS];exact .inr (tE.2 (.head _))
         |ptr k=>exact absurd hx (g4 k)
         |_=>trivial
        ·obtain⟨x,y,t1,t2,g1,g2,g3⟩:=ajq e1
         refine .inr (.inr (.inr ⟨x,y,t1,t2,g1,g2,g3,λr' fo=>⟨?_,?_⟩⟩))
         ·refine Dl ?_;unfold zk;rw[dS]
          refine .inr (oA (g:=λo=>cM r' (ow Φ σ o) ||cM r' (zj σ o)) _ 0 j (by omega) (by omega) O T U C D ?_)
          have:zj σ C=[r']:=by simp only[zj,g1,fo]
          rw[this,dS];exact .inr (tE.2 (.head _))
         ·unfold Be;rw[dS]
          refine .inr (oA (g:=λo=>cM r' (Ku σ o)) _ 0 j (by omega) (by omega) O T U C D ?_)
          have:Ku σ C=[r']:=by simp only[Ku,g1,fo]
          rw[this];exact tE.2 (.head _)
       ·have h9:=oA (g:=λo=>eG o n) ops.size 0 j (by omega) (by omega) O T U C D hn;refine⟨?_,?_⟩
        ·refine Dl ?_;unfold zk;rw[dS];exact .inl h9
        ·unfold Be;rw[dS];exact .inl h9
    ·cases h
   ·split at h
    ·rename_i i hf;have hc:=List.find?_some hf;have hm:=List.mem_of_find?_eq_some hf;have hi:=Bi.1 hm;split at h
     ·rename_i o ho;unfold XN at hc;rw[ho,aJ,aJ,aJ,aJ,aJ]at hc;obtain⟨⟨⟨⟨⟨c1,c2⟩,c3⟩,c4⟩,c5⟩,c6⟩:=hc;have pg:=RD _ _ c3;have c2:=cE c2;have Gy:∀ j,(waits ops i ops.size 0 0).testBit j=true->(L ||| 2 ^ i).testBit j=false:=by
       intro j Y;have:((L |||2 ^ i) &&& waits ops i ops.size 0 0).testBit j=false:=by rw[c2];exact Nat.zero_testBit j
       rw[Nat.testBit_and,Y,Bool.and_true]at this;exact this
      have vg:∀ j,(waits ops i ops.size 0 0).testBit j=true->L.testBit j=false:=by
       intro j Y;have:=Gy j Y;rw[zo,nh]at this;exact this.1
      obtain⟨τ,h1,h2⟩:=Q8 dI h;generalize hp:(λn=>gJ (λo=>Df o n) ops i L (waits ops i ops.size 0 0) ops.size 0)=p at c4 c5;have hpe:∀ j C e,ops[j]?=some C->j≠i->L.testBit j=false->(waits ops i ops.size 0 0).testBit j=false->C.dst=some e->p e=true:=by
       intro j C e D O T U Z;have c9:=(hU.1 D).1;rw[<-hp];exact oA (g:=λo=>Df o e) _ 0 j (by omega) (by omega) O T U C D (by unfold Df jO;rw[Z];exact Nat.beq_refl e)
      have Bh:∀ j C,ops[j]?=some C->j≠i->L.testBit j=false->(waits ops i ops.size 0 0).testBit j=false->QS ops i L (waits ops i ops.size 0 0) σ C=true/\o.apart ops C=true:=by
       intro j C D O T U;have c9:=(hU.1 D).1;rcases pg j (by omega) (by omega)with e|e|e|e
       ·exact absurd e O
       ·rw[T]at e;cases e
       ·rw[U]at e;cases e.1
       ·exact e.2 C D
      have uU:∀ j C,ops[j]?=some C->j≠i->L.testBit j=false->(waits ops i ops.size 0 0).testBit j=false->YC ops p σ C:=by
       intro j C D O T U;have hb:=(Bh j C D O T U).1;unfold QS at hb;rw[aJ,aJ,aJ]at hb;obtain⟨⟨⟨b1,b2⟩,b3⟩,b4⟩:=hb;have KF:∀t,gJ (jO t) ops i L (waits ops i ops.size 0 0) ops.size 0=false->p t=false:=λt ht=>by rw[<-hp];exact ht
       refine⟨b1,?_,λy I=>?_,λg c t hg ht=>?_⟩
       ·split at b2
        next b wh=>rw[wh,b2]
        ·cases b2
       ·have:=bN.1 b3 y (by simpa using I);rw[aJ]at this
        refine⟨this.1,λt ht=>?_⟩
        have h2:=this.2;rw[ht]at h2;exact KF t (by simpa using h2)
       ·rw[hg]at b4;simp only[ht]at b4;exact KF t (by simpa using b4)
      have wV:∀ n,20000<=n->p n=false:=by
       intro n hn;cases qP:p n with
       |false=>rfl
       | true=>
        rw[<-hp]at qP;obtain⟨k',RI,zx,qT,tQ,vh,wW⟩:=YA _ _ qP;have hm:=(uU k' RI zx qT tQ vh).is;unfold nH at hm;rw[aJ]at hm;have hm:=hm.2;unfold Df jO at wW;split at wW
        next e he=>rw[he]at hm;have h1:e=n:=cE wW;subst h1;exact absurd (cr hm) (Nat.not_le_of_gt (Nat.lt_succ_of_le hn))
        ·cases wW
      have hE:τ=(de P N Φ ops σ o some).getD σ:=by rw[h2];rfl
      refine Rk (W:=waits ops i ops.size 0 0) ho (λj C D Y=>?_) (λσ=>(de P N Φ ops σ o some).getD σ)
       (λL' E=>((de P N Φ ops E o some).isSome=true/\QN E p o=true/\(ow Φ E o).all (wP E p)=true/\wO E o=true)/\(∀ j,L'.testBit j=false->L.testBit j=false)/\
        ∀j C,ops[j]?=some C->j≠i->L'.testBit j=false->(waits ops i ops.size 0 0).testBit j=false->YC ops p E C)
       (λL' E hI=>?_) (λL' E j C rO hI D O T U gQ=>?_) f L σ vg hi ⟨⟨by rw[h2];rfl,c4,c5,c6⟩,λ_ h=>h,uU⟩ (by rw[<-hE];exact Gx dI f _ τ k (KT h1))
      ·have c9:=(hU.1 D).1;rcases pg j (by omega) (by omega)with e | e | e | e
       ·subst e;have:=Gy j Y;rw[zo]at this;simp at this
       ·rw[vg j Y]at e;cases e
       ·exact Yz D e.2
       ·rw[Y]at e;cases e.1
      ·obtain⟨z,hz⟩:=Option.isSome_iff_exists.1 hI.1.1;rw[hz];rfl
      ·obtain⟨⟨i1,i2,i3,i6⟩,i4,i5⟩:=hI;have ap:=(Bh j C D O (i4 j T) U).2;obtain⟨m1,m2,m3,m4⟩:=i5 j C D O T U;obtain⟨a1,a2,a3⟩:=Oper.apart_spec ap;obtain⟨z,hz⟩:=Option.isSome_iff_exists.1 i1;have hEz:(de P N Φ ops E o some).getD E=z:=by rw[hz];rfl
       have gQ:de P N Φ ops z C some=some rO:=by rw[<-hEz];exact gQ
       have YJ:∀ t,(E.t t).fD=true->o.dst≠some t->z.t t=E.t t:=by
        intro t ht Z;unfold de at hz;split at hz
        ·exact ajn dI c1 i6 hz ht Z
        ·obtain⟨g1,_⟩:=r6 hz;injection g1 with g1;rw[<-g1];cases zu:o.dst with
         |none=>rfl
         |some d=>exact cc _ _ _ (by rintro rfl;exact Z zu)
        ·cases hz
       have ajx:∀ g c t,C.guard=some (g,c)->(ops[g]?).bind (·.dst)=some t->(E.t t).fD=true\/E.t t = .skip:=by
        intro g c t hg ht;unfold fL at m2;rw[hg]at m2;simp only[ht]at m2;split at m2
        next b hb=>left;rw[hb];rfl
        next hb=>exact .inr hb
        ·cases m2
       have zv:∀ g c t,C.guard=some (g,c)->(ops[g]?).bind (·.dst)=some t->o.dst≠some t:=by
        intro g c t hg ht Z;refine a1 t Z (List.mem_append_right _ ?_);rw[hg];simp only[ht];simp
       have RJ:fL z ops C=some true:=by
        rw[zn (σ:=E) λg c t hg ht=>?_]
        ·exact m2
        ·rcases ajx g c t hg ht with h | h
         ·exact YJ t h (zv g c t hg ht)
         ·exfalso;unfold fL at m2;rw[hg]at m2;simp only[ht,h]at m2;cases m2
       have ajy:∀ y∈C.op.operands,aI z y=aI E y:=by
        intro y I;cases y with
        | tmp t=>
         refine YJ t (m3 _ I).1 λZ=>?_
         exact a1 t Z (List.mem_append_left _ (List.mem_filterMap.2 ⟨.tmp t,by simpa using I,rfl⟩))
        |_=>rfl
       obtain⟨e,x,u,Z,he,hx,hu,zq,oy⟩:=KG m1 RJ gQ;have Bj:=hpe j C e D O (i4 j T) U Z;have rQ:=a3 e Z;have r7:∀ y∈o.op.operands,(aI E y).nr p=true/\y ≠ .tmp e:=by
        intro y I;refine⟨bN.1 i2 y (by simpa using I),?_⟩;rintro rfl;exact rQ (List.mem_append_left _ (List.mem_filterMap.2 ⟨.tmp e,by simpa using I,rfl⟩))
       have zu:o.dst≠some e:=λh=>a2 e h Z
       have ajz:fL (cq e x u E) ops o=fL E ops o:=by
        have hw:∃ b,fL E ops o=some b:=by
         unfold de at hz;cases hw:fL E ops o with
         |none=>rw[hw]at hz;cases hz
         |some b=>exact⟨b,rfl⟩
        obtain⟨b,hw⟩:=hw
        refine zn λg c t' CI YK=>?_
        rw[qS,aW ?_]
        ·exact A.A5 (p:=p) (pb:=p) (Q9 hw g c t' CI YK) Bj Bj
        ·rintro rfl;refine rQ (List.mem_append_right _ ?_);rw[CI];simp only[YK];simp
       have qR:de P N Φ ops (cq e x u E) o some=some (cq e x u z):=by
        unfold de at hz ⊢;rw[ajz];split at hz
        next hw=>exact ajm dI hx hu he Bj wV c1 i6 zu r7 (λn hn=>bN.1 i3 n hn) hz
        next hw=>obtain⟨g1,g2⟩:=r6 hz;injection g1 with g1;refine((g2 (cq e x u E)).at_ _).trans ?_;rw[<-g1,ai1 zu rfl]
        ·cases hz
       have RK:∀y∈o.op.operands,aI (cq e x u E) y=aI E y:=λy I=>wU (r7 y I).1 Bj (r7 y I).2
       have hL:∀ k,(L' ||| 2 ^ j).testBit k=false->L'.testBit k=false/\k≠j:=by
        intro k hk;rw[zo,nh]at hk;refine⟨hk.1,?_⟩;rintro rfl;simp at hk
       refine⟨cq e x u E,oy E m2 (λy I=>(ajy y I).symm),?_,⟨by rw[qR];rfl,?_,?_,?_⟩,λk hk=>i4 k (hL k hk).1,λk RI hk YH YI hkW=>?_⟩
       ·rw[zq,qR];rfl
       ·unfold QN;rw[bN];intro y I;rw[RK y (by simpa using I)];exact(r7 y (by simpa using I)).1
       ·have hrj:ow Φ (cq e x u E) o=ow Φ E o:=by
         unfold ow;split
         ·rename_i f' args jv zw;split
          ·refine Gr _ _ λy I=>RK y ?_
           rw[zw];simp only[Op.operands,Call.operands];simp only[Array.mem_append]
           first
            |exact .inr (by simpa using I)
            |exact .inl (by simpa using I)
          ·rfl
         ·rfl
        rw[hrj,bN];intro n hn;have h3:=bN.1 i3 n hn;have ck:n≠e:=by
         rintro rfl;have qP:p n=false:=by
          unfold ow at hn;split at hn
          ·rename_i f' args jv zw;split at hn
           ·refine Gw _ _ (λy I=>(r7 y ?_).1) n hn
            rw[zw];simp only[Op.operands,Call.operands];simp only[Array.mem_append]
            first
             |exact .inr (by simpa using I)
             |exact .inl (by simpa using I)
           ·cases hn
          ·cases hn
         rw[Bj]at qP;cases qP
        unfold wP at h3 ⊢;rw[oz,aW ck];cases hm:E.m n with
        |none=>rfl
        | some y=>
         cases y with
         |sl=>rfl
         |mp=>rfl
         |gh=>rfl
         | ay cs=>
          rw[hm]at h3;simp only[Option.map_some,aP.Gl,qw.zg h3 Bj];exact h3
       ·unfold wO at i6 ⊢;split
        next ty t y zw=>rw[zw]at i6;have e1:(cq e x u E).t t=E.t t:=RK (.tmp t) (by rw[zw];simp[Op.operands]);rw[e1];exact i6
        ·rfl
       ·obtain⟨n1,n2,n3,n4⟩:=i5 k RI hk YH (hL k YI).1 hkW;have ajA:∀ t,p t=false->t≠e:=by rintro t ht rfl;rw[Bj]at ht;cases ht
        have YL:∀ t,(E.t t).fD=true->p t=false->(cq e x u E).t t=E.t t:=by
         intro t ht htp;rw[qS,aW (ajA t htp)];exact A.KS ht e
        refine⟨n1,?_,λy I=>?_,n4⟩
        ·rw[zn (σ:=E) λg c t hg ht=>?_]
         ·exact n2
         ·unfold fL at n2;rw[hg]at n2;simp only[ht]at n2;split at n2
          next b hb=>exact YL t (by rw[hb];rfl) (n4 g c t hg ht)
          next hb=>cases n2
          ·cases n2
        ·refine⟨?_,(n3 y I).2⟩;cases y with
         | tmp t=>
          show ((cq e x u E).t t).fD=true;rw[YL t (n3 _ I).1 ((n3 _ I).2 t rfl)];exact(n3 _ I).1
         |const v=>exact(n3 _ I).1
         |global g=>exact(n3 _ I).1
         |func f=>exact(n3 _ I).1
     ·cases h
    ·split at h
     ·rename_i i hf;have hc:=List.find?_some hf;have hm:=List.mem_of_find?_eq_some hf;have hi:=Bi.1 hm;split at h
      next o ho=>obtain⟨τ,h1,h2⟩:=Q8 dI h;exact ajv dI ho hi hc h2 (Gx dI f _ τ k (KT h1))
      ·cases h
     ·cases h
def Dm{b:Bool}(h:fL σ ops o=some b)(hR:Rl w0 N af ρ σ a w):Region.wanted o (yielded ops a.tmps)=b:=by
 unfold fL at h;split at h
 next I=>injection h with h;subst h;simp[Region.wanted,I]
 ·rename_i j want I;split at h
  ·rename_i t O;have D:=hR.tmp t;rw[gN]at D;split at h
   ·rename_i c T;rw[T]at D;have E:=D.2.yA;injection h with h;subst h;cases C:a.tmps[t]? with
    |none=>rw[C]at E;cases E
    | some v=>
     rw[C]at E;subst E;simp only[Region.wanted,I,yielded,O,Option.bind_some,C];simp_all
   ·rename_i T;rw[T]at D;injection h with h;subst h;cases C:a.tmps[t]? with
    |none=>simp[Region.wanted,I,yielded,O,C]
    | some v=>
     rw[C]at D;have E:=D;subst E;simp only[Region.wanted,I,yielded,O,Option.bind_some,C,undef];simp_all
   ·cases h
  ·cases h
structure tR (ops:Array Oper) (YM:Array Bool) (L:Nat):Prop where
 size:YM.size=ops.size
 bit:∀j,j<ops.size->YM[j]?=some (L.testBit j)
 out:∀j,ops.size<=j->L.testBit j=false
def tR.YN{C:Array Bool}{L:Nat}(h:tR ops C L)(j:Nat):C.getD j false=L.testBit j:=by
 rw[gN];by_cases D:j<ops.size
 ·rw[h.bit j D];rfl
 ·rw[h.out j (by omega),Array.getElem?_eq_none (by rw[h.size];omega)];rfl
def tR.ready{T:Array Bool}{L:Nat}(h:tR ops T L)(j:Nat):j∈Region.ready .any ops T ↔ lG ops L j=true:=by
 rw[mem_ready,Gu];constructor
 ·rintro⟨D,o,C,E⟩;have I:=(hU.1 C).1;rw[gN,h.bit j I]at D;exact⟨D,o,C,λe O hb=>by rw[<-h.YN];exact E e O hb⟩
 ·rintro⟨D,o,C,E⟩;have I:=(hU.1 C).1;exact⟨by rw[gN,h.bit j I];exact D,o,C,λe O hb=>by rw[h.YN];exact E e O hb⟩
def tR.set{D:Array Bool}{L i:Nat}(h:tR ops D L)(hi:i<ops.size):tR ops (D.setIfInBounds i true) (L ||| 2 ^ i):=by
 refine⟨by simp[h.size],λj C=>?_,λj C=>?_⟩
 ·rw[zo];by_cases E:i=j
  ·subst E;rw[Array.getElem?_setIfInBounds_self_of_lt (by rw[h.size];exact hi)];simp
  ·rw[Array.getElem?_setIfInBounds_ne E,h.bit j C];simp_all
 ·rw[zo,h.out j C]
  grind
def tR.start:tR ops (Array.replicate ops.size false) 0:=
 ⟨by simp,λj C=>by simp[C],λj _=>Nat.zero_testBit j⟩
def ajB(Y:fC P Φ){k:S -> aj X}{i:Nat}(hi:ops[i]?=some o)(h:de P N Φ ops σ o k=some r):∃ E,k E=some r /\ ∀ a w (K:Act -> World -> Prop) (Q:Exit -> Act -> World -> Prop),R w0 N σ a w -> (∀ T w',R w0 N E T w' -> K T w') -> wpOp P ops Q i K a w:=by
 unfold de at h;split at h
 ·rename_i I;obtain⟨E,Z,r9⟩:=QX Y h
  refine⟨E,Z,λa w K Q hR D=>?_⟩
  obtain⟨af,ρ,C⟩:=hR;unfold wpOp;rw[hi];simp[Dm I C];exact .inl (r9 a w K Q ⟨af,ρ,C⟩ D)
 ·rename_i I;unfold gG at h;split at h
  ·rename_i O
   refine⟨σ,h,λa w K Q hR D=>?_⟩
   obtain⟨af,ρ,C⟩:=hR;unfold wpOp;rw[hi];simp[Dm I C,O];exact D _ _ ⟨af,ρ,C⟩
  ·rename_i d O;cases U:Nat.blt d N with
   |false=>simp_all
   | true=>
    rw[U,aq]at h
    refine⟨_,h,λa w K Q hR D=>?_⟩
    obtain⟨af,ρ,C⟩:=hR;unfold wpOp;rw[hi];simp only[Dm I C,O];exact D _ _ ⟨af,ρ,C.set rfl (by have:=cr U;omega)⟩
 ·cases h
def YO(U:fC P Φ){K:S -> Prop}{Q:Exit -> Act -> World -> Prop}(I:∀ O,K O -> ∀ a w,R w0 N O a w -> Q .normal a w):
  ∀(f L:Nat) (σ:S) (E:Array Bool),Any P N Φ ops K f L σ -> tR ops E L -> ∀a w,R w0 N σ a w -> wpAny P .any ops Q f E a w
 | 0,L,σ,E,h,D,a,w,hR=>by
  refine⟨List.eq_nil_iff_forall_not_mem.2 λj C=>?_,I σ h.2 a w hR⟩
  rw[D.ready,h.1]at C;cases C
 | f+1,L,σ,E,h,D,a,w,hR=>by
  refine⟨λhr=>I σ (h.1 λj=>?_) a w hR,λj C=>?_⟩
  ·cases C:lG ops L j with
   |false=>rfl
   | true=>
    have:=(D.ready j).2 C;simp_all
  ·have Y:=(D.ready j).1 C;obtain⟨o,O,Z,hd,hA⟩:=h.2 j Y;obtain⟨rO,T,hw⟩:=ajB U Z hd;injection T with T;subst T;exact hw a w _ Q hR λa' w' dc=>YO U I f _ _ _ hA (D.set (YB Y)) a' w' dc
def R.drawn(hR:R w0 N σ a w):R w0 N σ a { w with drawn:=w.drawn+1 }:=by
 obtain⟨af,ρ,h⟩:=hR;exact⟨af,ρ,h.grow ⟨rfl,rfl,rfl,dz _,λ_ _=>rfl⟩ (λ_ _=>rfl) (λb k hb hl=>absurd (h.cL b k hl).2.1 (Nat.not_lt.2 hb))⟩
theorem ajC[Inhabited Wd](C:fC P Φ){id:Nat}{k:S->aj X}(E:P.follows .mixedOrders=true)(h:qM P N Φ ops ops.size 0 σ k=some r){Q:Exit->Act->World->Prop}(I:∀ D,k D=some r->∀ a w,R w0 N D a w->Q .normal a w)(hR:R w0 N σ a w):
  (Code.region id ops true).wp P Q a w:=
 wp_region_any E (YO C I _ _ _ _ (Gx C _ _ _ _ h) tR.start a _ hR.drawn)
/-! Values. -/
end
end Go.Proofs.YtgjfmljpdnnihaaGreat
