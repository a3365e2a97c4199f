/-
  Running the program over pure contents, and that it follows (part 4). Nothing here is a claim.
-/
import Derived.Test.YtnilicojgkhpnaaGreatV3
set_option linter.unusedSimpArgs false
namespace Go.Proofs.YtnilicojgkhpnaaGreat
set_option linter.defProp false
open Go.RowKit
set_option linter.unusedVariables false
def fk(σ:S):ah Tmp->A->S
 |none,_=>σ
 |some d,v=>σ.set d v
section
variable {P:Program} {w w':World} {w0:Wd} {B N:Nat} {aj ax:bw} {ρ ρ':Nat->Loc} {σ:S} {a:Act} {X:Type} {d:Nat} {r:X} {o:Oper} {Φ:dJ} {p pb:Nat->Bool} {e:Nat} {x:aU} {u:A} {ops:Array Oper}
def qI{C:ah Tmp}{x:A}{k:S -> ah X}(h:gd N σ C x k=some r):k (fk σ C x)=some r /\ ∀ (σ2:S),kr (λX k=>gd (X:=X) N σ2 C x k) (fk σ2 C x):=by
 unfold gd at h;split at h
 ·exact⟨h,λ_ X k=>rfl⟩
 ·rename_i d;cases D:Nat.blt d N with
  |false=>simp_all
  |true=>rw[D]at h;exact⟨h,λ_ X k=>by simp[gd,D];rfl⟩
def GY{f:Nat}{c:gI}(C:eR P Φ)(h:Φ f=some (.p c)):gu P f c:=(C f _ h).2
def qOK{f:Nat}{c:gI}(C:eR P Φ)(h:Φ f=some (.q c)):gu P f c:=(C f _ h).2
def ao9{f:Nat}{C:ah Tmp}{c:rS}{xs:aa A}(D:eR P Φ)(h:Φ f=some (.i c)):cv λX k=>GG (X:=X) N σ C c xs k:=λX Y k g=>
 ((D f _ h).2.1 N σ xs X Y _ g).trans (congrArg (c.run Y N σ xs) (funext λE=>funext λy=>vS X Y k g))
def ab7(C:eR P Φ):cv λX k=>di (X:=X) P N Φ σ o k:=λX Y k g=>by
 unfold di
 refine cN ((U8.comp λv=>vS) X Y k g) ?_
 unfold gC fS oZ yg xK vT xE
 repeat' first
  |rfl
  |exact MS _ _ _ _
  |exact abC _ _ _ _
  |exact aos _ _ _ _
  |exact abF (GY C (by assumption)) Dk _ _ _ _
  |exact UT _ _ _ _
  |exact aox _ _ _ _
  |exact ao9 C (by assumption) _ _ _ _
  |exact anZ (λ_=>UT) _ _ _ _
  |exact abF (qOK C (by assumption)) abE _ _ _ _
  |exact aoE _ _ _ _
  |exact aoq _ _ _ _
  |exact aoV _ _ _ _
  |exact aod _ _ _ _
  |exact aoK _ _ _ _
  |exact(aoL.comp λv=>vS) X Y k g
  |exact aoM _ _ _ _
  |exact vS _ _ _ _
  |exact(amT.comp λv=>vS) X Y k g
  |refine cN ?_ ?_
  |split
def gK.bp{σ C:S}(h:gK p pb σ C){t r j:Nat}(D:σ.t t = .aG r j)(E:pb r=false):C.t t = .aG r j:=by
 rw[<-D];exact h.t (by rw[D];simpa [A.nK,A.fr,tY]using E)
def iA(p:Nat->Bool):A->Prop
 |.aG r _=>p r=true
 |.ptr _=>False
 |_=>True
def gK.st{D:Nat->Bool}{σ C:S}(h:gK p pb σ C){t:Nat}(E:iA D (σ.t t)):iA D (C.t t):=by
 rcases h.nw t with e|e
 ·rw[e];exact E
 ·revert e;cases C.t t<;>simp[A.vX,iA]
def gK.Vd{σ C:S}(h:gK p pb σ C){x:Operand}(D:(aH σ x).nK p pb=true):aH C x=aH σ x:=by
 cases x with
 |tmp t=>exact h.t D
 |const v=>rfl
 |global g=>rfl
 |func f=>rfl
def gK.val{σ U:S}(h:gK p pb σ U){E:Op}{v:A}(D:kr (λX k=>kD (X:=X) P σ E k) v)(T:∀ y∈E.operands,(aH σ y).nK p pb=true)(Z:v.nK p pb=true)(O:∀ t y r j,E = .load t y->aH σ y = .aG r j->p r=false):kr (λX k=>kD (X:=X) P U E k) v:=by
 intro X k
 refine(abZ E (λy L=>⟨h.Vd (T y L),λq e X k=>Na h.sl q k (ab6 (T y L) e)⟩) (λt y e k=>?_) k).trans (D X k)
 subst e;have D:kr (λX k=>mh (X:=X) P σ t (aH σ y) k) v:=D;have L:=T y (by simp[Op.operands]);have O:=λr j=>O t y r j rfl
 generalize aH σ y=u at D L O;by_cases Y:∃r j,u = .aG r j
 ·obtain⟨r,j,rfl⟩:=Y;have C:mh P σ t (.aG r j) some=some v:=D A some;rw[D.at_ k];simp only[mh]at C ⊢;split at C
  ·cases C
  ·split at C
   next cs fB=>obtain⟨f,e1,e2⟩:=h.az r (O r j rfl) cs fB;obtain⟨z,⟨⟩,e4⟩:=MR.lA C;rw[e1];simp only[];rw[<-List.map_drop,<-List.map_take,List.map_congr_left λl hl=>e2 l (ao7 C Z l hl),List.map_id'];exact e4.at_ k
   ·cases C
 ·exact Sm.load (λq e X k=>Na h.sl q k (ab6 L e)) (λr j e=>absurd ⟨r,j,e⟩ Y) k
def Ve:∀ (xs:aa V) (c:Nat) (σ:S),(∀ n,c <= n -> p n=true/\pb n=true) -> gK p pb σ (kz c σ xs)
 |[],c,σ,h=>.refl σ
 | x :: xs,c,σ,h=>by
  simp[kz];cases D:x.aC with
  |true=>exact Ve xs _ σ (λn C=>h n (by omega))
  |false=>exact .trans (.root c (.sl x) (h c (Nat.le_refl _)).1 (h c (Nat.le_refl _)).2 (.refl σ)) (Ve xs (c+1) _ (λn C=>h n (by omega)))
def Vf:∀ (ps:aa Pt) (c:Nat) (σ:S),(∀ n,c<=n->p n=true/\pb n=true)->gK p pb σ (nE c σ ps)
 |[],c,σ,h=>.refl σ
 |q::ps,c,σ,h=>(Ve q.2 c σ h).trans (Vf ps _ _ (λn C=>h n (by omega)))
def ym{σ2:S}{ops:Array Oper}(h:∀ g b t,o.guard=some (g,b) -> (ops[g]?).bind (·.dst)=some t -> σ2.t t=σ.t t):eT σ2 ops o=eT σ ops o:=by
 unfold eT
 grind
def pF(p pb:Nat->Bool)(x:A):Prop:=∀r,x = .lf (.own [r])->p r=true/\pb r=true
def gK.tg{C D:Nat->Bool}{σ E:S}(h:gK p pb σ E){t:Nat}(L:pF C D (σ.t t)):pF C D (E.t t):=by
 rcases h.nw t with e|e
 ·rw[e];exact L
 ·intro r O;rw[O]at e;cases e
structure qJ (P:Program) (N:Nat) (Φ:dJ) (o:Oper) (p pb:Nat->Bool) (ot τ:S) where
 G:S->S
 u:A
 eq:τ=fk (G ot) o.dst u
 run:∀σ2:S,(∀x∈o.op.operands,aH σ2 x=aH ot x)->σ2.m=ot.m->di P N Φ σ2 o some=some (fk (G σ2) o.dst u)
 grow:∀σ,gK p pb σ (G σ)
 set:∀(σ:S) d v,(A.nK p pb v)=true->G (σ.set d v)=(G σ).set d v
 bp:isApp o=false->∀(σ:S) t r j,σ.t t = .aG r j->eJ o r=false->(G σ).t t = .aG r j
theorem qJ.new{D:S}{d:Nat}(E:o.dst=some d)(C:p d=true/\pb d=true)(T:eJ o d=true)(x:aU)(u:A){L:S}(e:L=((D.drop d).root d x).set d u)
  (U:∀σ2:S,(∀x∈o.op.operands,aH σ2 x=aH D x)->di P N Φ σ2 o some=some (((σ2.drop d).root d x).set d u)):Nonempty (qJ P N Φ o p pb D L):=
 ⟨{ G:=λσ=>(σ.drop d).root d x,u:=u,eq:=by rw[E];exact e,run:=λσ2 h _=>by rw[U σ2 h,E];rfl,grow:=λσ=>.root d x C.1 C.2 (.refl σ),
    set:=λσ e v Y=>by rw[S.drop_set d (A.Dl Y C.1 C.2)];rfl
    bp:=λ_ σ t r j Z O=>by
     show A.drop d (σ.t t)=_;rw[Z];exact A.oU (by simp only[A.fr,vn];rw[nc (by rintro rfl;rw[T]at O;cases O)];rfl) }⟩
def ab8{d:Nat}{C:eY}{D:S}(h:mz σ d C some=some D):∃ (ps:aa Pt) (u:A),∀ σ,mz σ d C some=some ((nE (1000000000100000+1000*d) σ ps).set d u):=by
 unfold mz at h ⊢;split at h
 ·rename_i q;split at h
  next y E=>exact⟨[q],y,λσ=>rfl⟩
  ·cases h
 ·exact⟨_,_,λσ=>rfl⟩
theorem ab9{f d:Nat}{c:gI}{T:S}{ev:S->(X:Type)->(aa Pt->ah X)->ah X}(U:o.dst=some d)(E:∀ n,1000000000100000+1000*d<=n->eJ o n=true)(Z:∀ n,eJ o n=true->p n=true/\pb n=true)(hc:gu P f c)(C:cv (ev σ))
  (UU:∀σ2:S,(∀x∈o.op.operands,aH σ2 x=aH σ x)->σ2.m=σ.m->∀(X:Type) (k:aa Pt->ah X),ev σ2 X k=ev σ X k) (cV:∀σ2,di P N Φ σ2 o some=qw N σ2 d c (ev σ2 S) some) (h:qw N σ d c (ev σ S) some=some T):Nonempty (qJ P N Φ o p pb σ T):=by
 obtain⟨res,qq,D,L,h3⟩:=MU hc C h;injection L with L;subst L;obtain⟨ps,u,Y⟩:=ab8 D;have O:∀n,1000000000100000+1000*d<=n->p n=true/\pb n=true:=λn C=>Z n (E n C)
 rw[Y]at D;injection D with D;exact⟨{ G:=λσ=>nE (1000000000100000+1000*d) σ ps,u:=u,eq:=by rw[U];exact D.symm,run:=λσ2 qK hm=>by rw[cV,U];exact(h3 σ2 _ _ (UU σ2 qK hm) (Y σ2)).at_ _,grow:=λσ=>Vf ps _ σ O,set:=λσ e v hv=>abH v ps _ σ λn C=>A.Dl hv (O n C).1 (O n C).2,bp:=λ_ σ t r j ht hr=>(Vf (p:=eJ o) (pb:=eJ o) ps _ σ (λn C=>⟨E n C,E n C⟩)).bp ht hr }⟩
theorem apa[Inhabited Wd](dB:eR P Φ){τ:S}(E:M5 Φ o.op=true)(hp:∀ n,eJ o n=true->p n=true/\pb n=true)(h:di P N Φ σ o some=some τ):Nonempty (qJ P N Φ o p pb σ τ):=by
 have h0:=h;unfold di at h;cases hv:eS o.op with
 | true=>
  rw[hv,cond_true]at h;obtain⟨v,L,D,_⟩:=U9 (w0:=default) (N:=N) h;obtain⟨T,h3⟩:=qI L;injection T with T
  refine⟨{ G:=λσ=>σ,u:=v,eq:=T.symm,run:=λσ2 C hm=>?_,grow:=.refl,set:=λ_ _ _ _=>rfl,bp:=λ_ _ _ _ _ h _=>h }⟩
  unfold di;rw[hv,cond_true,ab0 o.op hm C];refine(D.at_ _).trans ?_;exact(h3 σ2).at_ _
 | false=>
  rw[hv,cond_false]at h;have Z:∀σ2,di P N Φ σ2 o some=gC P N Φ σ2 o some:=λσ2=>by unfold di;rw[hv,cond_false]
  unfold gC at h Z;unfold M5 at E;rw[hv,Bool.false_or]at E;split at h
  ·rename_i e C;obtain⟨d,D,h⟩:=iQ h;obtain⟨x,y,L,_,T⟩:=aoc h;injection L with L;have U:eJ o d=true:=by unfold eJ;rw[D,C];exact Nat.beq_refl d
   refine qJ.new D (hp d U) U x y L.symm λσ2 _=>?_
   rw[Z,C];simp only[fS,D];exact(T σ2).at_ _
  ·rename_i e x C;obtain⟨d,D,h⟩:=iQ h;obtain⟨y,u,L,T⟩:=aoh h;injection L with L;have U:eJ o d=true:=by unfold eJ;rw[D,C];exact Nat.beq_refl d
   refine qJ.new D (hp d U) U _ _ L.symm λσ2 O=>?_
   rw[Z,C];simp only[fS,D];rw[O x (by rw[C];simp[Op.operands])];exact(T σ2).at_ _
  ·rename_i t len parts C;obtain⟨d,D,h⟩:=iQ h;have U:eJ o d=true:=by unfold eJ;rw[D,C];exact Nat.beq_refl d
   cases hn:ou t with
   | true=>
    rw[hn,cond_true]at h;obtain⟨y,u,L,T⟩:=aok h;injection L with L
    refine qJ.new D (hp d U) U _ _ L.symm λσ2 O=>?_
    rw[Z,C];simp only[fS,D,hn,cond_true]
    refine(T σ2 λq hq=>O _ ?_).at_ _
    rw[C];simp only[Op.operands];exact List.mem_toArray.2 (List.mem_map_of_mem (f:=(·.2)) hq)
   | false=>
    rw[hn,cond_false]at h;obtain⟨y,L,T⟩:=abz h;injection L with L
    refine qJ.new D (hp d U) U _ _ L.symm λσ2 O=>?_
    rw[Z,C];simp only[fS,D,hn,cond_false]
    refine(T σ2 λq hq=>O _ ?_).at_ _
    rw[C];simp only[Op.operands];exact List.mem_toArray.2 (List.mem_map_of_mem (f:=(·.2)) hq)
  next t x y C=>rw[C]at E;cases E
  ·rename_i t l c C;obtain⟨d,D,h⟩:=iQ h;obtain⟨y,L,T⟩:=aby h;injection L with L;have U:eJ o d=true:=by unfold eJ;rw[D,C];exact Nat.beq_refl d
   refine qJ.new D (hp d U) U _ _ L.symm λσ2 O=>?_
   rw[Z,C];simp only[fS,D];rw[O l (by rw[C];simp[Op.operands]),O c (by rw[C];simp[Op.operands])];exact(T σ2).at_ _
  ·rename_i f args jB C;have acd:∀ σ2:S,(∀ x∈o.op.operands,aH σ2 x=aH σ x)->∀ x∈args.toList,aH σ2 x=aH σ x:=λσ2 O x hx=>O x (by
    rw[C];simp only[Op.operands,Call.operands,Array.mem_append]
    first
     |exact .inr (by simpa using hx)
     |exact .inl (by simpa using hx))
   have nm:∀d,o.dst=some d->∀n,1000000000100000+1000*d<=n->eJ o n=true:=λd D n hn=>by unfold eJ;rw[D,C];exact Nat.ble_eq_true_of_le hn
   split at h
   next c Y=>obtain⟨d,D,h⟩:=iQ h;exact ab9 D (nm d D) hp (GY dB Y) (ev:=λσ X k=>qt σ args.toList k) Dk (λσ2 O hm X k=>ao0 hm _ _ (acd σ2 O)) (λσ2=>by rw[Z,C];simp only[Y,fS,D];rfl) h
   iterate 5 (rename_i c Y;rw[C]at E;simp[Y]at E)
   next c Y=>obtain⟨d,D,h⟩:=iQ h;exact ab9 D (nm d D) hp (qOK dB Y) (ev:=λσ X k=>Ao σ args.toList k) abE (λσ2 O hm X k=>ao2 hm _ _ (acd σ2 O)) (λσ2=>by rw[Z,C];simp only[Y,fS,D];rfl) h
   next c Y=>rw[C]at E;simp[Y]at E
   ·cases h
  next x y t t' C=>rw[C]at E;cases E
  next t C=>rw[C]at E;cases E
  next t x i C=>rw[C]at E;cases E
  next t x i v C=>rw[C]at E;cases E
  next t args jB C=>rw[C]at E;cases E
  next f abY C=>rw[C]at E;cases E
  next x t C=>rw[C]at E;cases E
  ·cases h
def ace(C:eR P Φ){ops:Array Oper}:cv λX k=>cY (X:=X) P N Φ ops σ o k:=λX Y k g=>by
 unfold cY;split
 ·exact ab7 C _ _ _ _
 ·exact vS _ _ _ _
 ·rfl
theorem Vg[Inhabited Wd](D:eR P Φ){ops:Array Oper}{k:S->ah X}(h:cY P N Φ ops σ o k=some r):∃ C,k C=some r/\cY P N Φ ops σ o some=some C:=
 let ⟨C,E,L⟩:=(ace D).lA h
 ⟨C,E,L S some⟩
def Vh{ops:Array Oper}{b:Bool}(h:eT σ ops o=some b):∀ g c t,o.guard=some (g,c) -> (ops[g]?).bind (·.dst)=some t -> (σ.t t).nK p pb=true:=by
 intro g c t D E;unfold eT at h;rw[D]at h;simp[E]at h;split at h
 next C=>rw[C];rfl
 next C=>rw[C];rfl
 ·cases h
def Dr{ops:Array Oper}{d:Nat}(h:d ∉ o.looksAt ops)(v:A){x:Operand}(C:x∈o.op.operands):aH (σ.set d v) x=aH σ x:=by
 cases x with
 | tmp t=>
  have:t≠d:=by
   rintro rfl;exact h (List.mem_append_left _ (List.mem_filterMap.2 ⟨.tmp t,by simpa using C,rfl⟩))
  exact cw _ _ _ this
 |_=>rfl
def Vi{ops:Array Oper}{d:Nat}(h:d ∉ o.looksAt ops)(v:A):∀ g b t,o.guard=some (g,b) -> (ops[g]?).bind (·.dst)=some t -> (σ.set d v).t t=σ.t t:=by
 intro g b t C D;have:t≠d:=by
  rintro rfl;refine h (List.mem_append_right _ ?_);simp_all
 exact cw _ _ _ this
def kG(P:Program)(ops:Array Oper)(C:Oper)(p pb:Nat->Bool)(v:A)(σ:S):Prop:=
 (eT σ ops C=some true/\eS C.op=true/\kr (λX k=>kD (X:=X) P σ C.op k) v/\(∀y∈C.op.operands,(aH σ y).nK p pb=true)/\v.nK p pb=true/\∀t y r j,C.op = .load t y->aH σ y = .aG r j->p r=false)\/(eT σ ops C=some false/\v = .skip)
def kG.grow{ops:Array Oper}{U:Oper}{v:A}(h:kG P ops U p pb v σ){Y:S}(C:gK p pb σ Y):kG P ops U p pb v Y:=by
 rcases h with ⟨D,L,h3,E,Z,h6⟩|⟨D,L⟩
 ·refine .inl ⟨?_,L,C.val h3 E Z h6,λy hy=>?_,Z,λt y r j e h=>?_⟩
  ·rw[ym λg b t O T=>C.t (Vh D g b t O T)];exact D
  ·rw[C.Vd (E y hy)];exact E y hy
  ·exact h6 t y r j e (by rw[<-C.Vd (E y (by rw[e];simp[Op.operands]))];exact h)
 ·refine .inr ⟨?_,L⟩;rw[ym λg b t O T=>C.t (Vh D g b t O T)];exact D
def kG.set{ops:Array Oper}{D:Oper}{v u:A}(h:kG P ops D p pb v σ){d:Nat}(C:d ∉ D.looksAt ops):kG P ops D p pb v (σ.set d u):=by
 rcases h with ⟨E,L,T,U,Y,Z⟩|⟨E,L⟩
 ·refine .inl ⟨?_,L,λX k=>?_,λy O=>?_,Y,λt y r j e h=>?_⟩
  ·rw[ym (Vi C u)];exact E
  ·exact(ab0 (σ:=σ) (σ2:=σ.set d u) D.op rfl (λx hx=>Dr C u hx) k).trans (T.at_ k)
  ·rw[Dr C u O];exact U y O
  ·exact Z t y r j e (by rw[<-Dr C u (by rw[e];simp[Op.operands])];exact h)
 ·refine .inr ⟨?_,L⟩;rw[ym (Vi C u)];exact E
def kG.put{ops:Array Oper}{C:Oper}{v u:A}(h:kG P ops C p pb v σ){D:ah Tmp}(E:∀ d,D=some d->d ∉ C.looksAt ops):kG P ops C p pb v (fk σ D u):=by
 cases D with
 |none=>exact h
 |some d=>exact h.set (E d rfl)
def kG.nr{ops:Array Oper}{C:Oper}{v:A}(h:kG P ops C p pb v σ):v.nK p pb=true:=by
 rcases h with ⟨_,_,_,_,D,_⟩|⟨_,E⟩
 ·exact D
 ·rw[E];rfl
def acf{x y:ah Tmp}(v u:A)(h:∀ d,x=some d->y≠some d):fk (fk σ x v) y u=fk (fk σ y u) x v:=by
 cases x with
 |none=>rfl
 | some d=>cases y with
  |none=>rfl
  |some e=>exact S.set_set (λC=>h d rfl (congrArg some C)) v u
def apb(x:ah Tmp)(v:A):(fk σ x v).m=σ.m:=by cases x<;>rfl
def Vj{ops:Array Oper}{C:ah Tmp}(h:∀ d,C=some d->d ∉ o.looksAt ops)(v:A){x:Operand}(D:x∈o.op.operands):aH (fk σ C v) x=aH σ x:=by
 cases C with
 |none=>rfl
 |some d=>exact Dr (h d rfl) v D
def apc{ops:Array Oper}{C:ah Tmp}(h:∀ d,C=some d->d ∉ o.looksAt ops)(v:A):eT (fk σ C v) ops o=eT σ ops o:=by
 cases C with
 |none=>rfl
 |some d=>exact ym (Vi (h d rfl) v)
/-! Calls that write blocks alone. -/
def S.apd{ns:aa Nat}{nr:aa (Nat×aU)}(v:A)(h:v.dZ ns []=v):(σ.set d v).dZ ns [] nr=(σ.dZ ns [] nr).set d v:=by
 refine S.ext' (λk=>?_) λ_=>rfl
 show (bO σ.t d v k).dZ ns []=bO (λk=>(σ.t k).dZ ns []) d v k;by_cases C:k=d
 ·subst C;rw[bR,bR];exact h
 ·rw[cw _ _ _ C,cw _ _ _ C]
def Vk{n:Nat}{x:aU}:∀ {l:aa (Nat×aU)},l.lookup n=some x -> (n,x)∈l
 |[],h=>by cases h
 | q :: l,h=>by
  rw[List.lookup_cons]at h;cases C:n==q.1 with
  |true =>grind
  |false=>rw[C]at h;exact .tail _ (Vk h)
def Calm(Φ:dJ)(ok:Nat->Nat->Bool)(pG kE p pb:Nat->Bool)(σ:S)(o:Oper):Prop:=
 M5 Φ o.op=true\/False\/
 (∃ty t y,o.op = .store ty (.tmp t) y/\o.dst=none/\pG t=true/\iA p (σ.t t))\/
 ∃x y t C,o.op = .call ⟨.builtin .append,⟨[.tmp x,y]⟩,⟨[t,C]⟩⟩/\kE x=true/\(ou t=false/\Nat.beq t C=true/\AL o.dst t (.tmp x)=false)/\pF p pb (σ.t x)
theorem ape{Z:S}{ty:TypeId}{t:Tmp}{y:Operand}(L:o.op = .store ty (.tmp t) y)(Y:o.dst=none)(C:iA p (σ.t t))(h:di P N Φ σ o some=some Z):Nonempty (qJ P N Φ o p pb σ Z):=by
 have Gw:∀ (x:A) (z:A),(∀ k,x ≠ .ptr k) -> vU x z=false:=by
  intro x z E;unfold vU;split
  ·grind
  ·rfl
 have cV:∀ σ2:S,(∀ k,σ2.t t ≠ .ptr k) -> di P N Φ σ2 o some=od P σ2 ty (σ2.t t) (aH σ2 y) some:=by
  intro σ2 Nb;unfold di;rw[show eS o.op=false by rw[L];rfl,cond_false];simp only[gC,L,Y];rw[show vU (aH σ2 (.tmp t)) (aH σ2 y)=false from Gw _ _ Nb,cond_false];rfl
 rw[cV σ (λk O=>by rw[O]at C;exact C)]at h;cases E:σ.t t with
 | aG D j=>
  rw[E]at h C;have hp:p D=true:=C;have key:∃ x,∀ σ2:S,σ2.m=σ.m -> ∀ v,v=aH σ y -> od P σ2 ty (.aG D j) v some=some (σ2.root D x):=by
   unfold od at h;split at h
   ·rename_i n xs hn lC;split at h
    ·rename_i hlen;simp only at h;split at h
     ·rename_i cs fB;split at h
      ·rename_i hj;cases hl:xs.all Lf.live with
       |false=>grind
       | true=>
        refine⟨.az (splice cs j xs),λσ2 T v hv=>?_⟩
        subst hv;simp only[od,hn,lC,if_pos hlen,T,fB,if_pos hj,hl,cond_true];simp only[S.root,T]
      ·cases h
     ·cases h
    ·cases h
   ·cases h
  obtain⟨x,jO⟩:=key;have U:=jO σ rfl _ rfl;rw[h]at U;injection U with U
  refine⟨{ G:=λσ=>σ.root D x,u:=.undef,eq:=by rw[Y];exact U,run:=λσ2 qK T=>?_,grow:=λσ=>.rt D x hp (.refl σ),set:=λσ d v hv=>rfl,bp:=λ_ σ t r j ht _=>ht }⟩
  have e1:σ2.t t = .aG D j:=(qK (.tmp t) (by rw[L];simp[Op.operands])).trans E;rw[cV σ2 (λk O=>by rw[e1]at O;cases O),e1,jO σ2 T _ (qK y (by rw[L];simp[Op.operands])),Y];rfl
 |ptr k=>rw[E]at C;exact C.elim
 | _=>
  rw[E]at h;exfalso;revert h;unfold od;split
  ·grind
  ·grind
def cr(e:Nat)(x:aU)(u:A)(σ:S):S:=((σ.drop e).root e x).set e u
def kH(e:Nat)(u:A):Prop:=u = .aG e 0\/u = .lf (.own [e])
structure iR (x:aU):Prop where
 cc:∀K:lu,x.cc K=x
def iR.drop{x:aU}(h:iR x)(n:Nat):x.drop n=x:=h.cc _
def iR.dZ{x:aU}(h:iR x)(ns cn:aa Nat):x.dZ ns cn=x:=h.cc _
def iR.zero(C:aa Value):iR (.az (C.map mm)):=⟨λK=>congrArg aU.az (oV.oU (List.all_eq_true.2 λc D=>by
 obtain⟨v,_,rfl⟩:=List.mem_map.1 D;unfold mm;split<;>rfl))⟩
def acg(h:ua o=true):∃ t,∃ e:Nat,o.op = .alloc t/\o.guard=none/\o.dst=some e/\e<20000:=by
 unfold ua at h;rw[Bool.and_eq_true,Bool.and_eq_true]at h;obtain⟨⟨C,E⟩,D⟩:=h;split at C
 ·rename_i t L;split at D
  ·simp_all
  ·cases D
 ·cases C
def apf{ops:Array Oper}{t:TypeId}{e:Nat}(D:o.op = .alloc t)(O:o.guard=none)(T:o.dst=some e){E:S}(h:cY P N Φ ops σ o some=some E):∃ x,iR x/\E=cr e x (.aG e 0) σ/\∀ σ2,cY P N Φ ops σ2 o some=some (cr e x (.aG e 0) σ2):=by
 have L:∀ σ2,cY P N Φ ops σ2 o some=oZ P N σ2 e t some:=by
  intro σ2;unfold cY eT;rw[O];simp only;unfold di;rw[show eS o.op=false by rw[D];rfl,cond_false];simp only[gC,D,fS,T]
 rw[L]at h;unfold oZ at h;split at h
 ·rename_i z U;unfold gj at h;cases C:Nat.blt e N with
  |false=>rw[C]at h;cases h
  | true=>
   rw[C,cond_true]at h;injection h with h
   refine⟨_,.zero _,h.symm,λσ2=>(L σ2).trans ?_⟩
   unfold oZ gj;rw[U,C];rfl
 ·cases h
def Nc{σ2:S}:∀ (ps:aa PK) (xs:aa Operand),(∀ x∈xs,aH σ2 x=aH σ x) -> mF σ2 ps xs=mF σ ps xs
 |[],[],_=>rfl
 |[],_::_,_=>rfl
 |.v _ _::_,[],_=>rfl
 |.p _ _ _::_,[],_=>rfl
 |.s _ _::_,[],_=>rfl
 |.v _ _::ps,x::xs,h=>by simp[mF];exact Nc ps xs (λy C=>h y (.tail _ C))
 |.s _ _::ps,x::xs,h=>by simp only[mF];exact Nc ps xs (λy C=>h y (.tail _ C))
 | .p _ _ _ :: ps,x :: xs,h=>by
  simp only[mF];rw[h x (.head _),Nc ps xs (λy C=>h y (.tail _ C))]
def Calm.jL{ok:Nat->Nat->Bool}{pG kE:Nat->Bool}{σ2:S}(h:Calm Φ ok pG kE p pb σ o)(Z:∀ t r j,σ.t t = .aG r j->ok t r=true->σ2.t t = .aG r j)(L:∀ t,pG t=true->iA p (σ.t t)->iA p (σ2.t t))(O:∀ t,kE t=true->pF p pb (σ.t t)->pF p pb (σ2.t t)):Calm Φ ok pG kE p pb σ2 o:=by
 rcases h with h|h|⟨ty,t,y,E,C,D,T⟩|⟨x,y,t,U,E,C,Y,D⟩
 ·exact .inl h
 ·exact h.elim
 ·exact .inr (.inr (.inl ⟨ty,t,y,E,C,D,L t D T⟩))
 ·exact .inr (.inr (.inr ⟨x,y,t,U,E,C,Y,O x C D⟩))
def Nd{ops:Array Oper}(U:mG o=true)(Y:eT σ ops o=some true){τ:S}(h:cY P N Φ ops σ o some=some τ):∃ (e:Nat) (x:aU) (u:A),o.dst=some e/\e<20000/\iR x/\kH e u/\τ=cr e x u σ/\
  ∀σ2,eT σ2 ops o=some true->(∀y∈o.op.operands,aH σ2 y=aH σ y)->cY P N Φ ops σ2 o some=some (cr e x u σ2):=by
 have Z:eS o.op=false->∀ σ2,eT σ2 ops o=some true->cY P N Φ ops σ2 o some=gC P N Φ σ2 o some:=by
  intro hv σ2 L;unfold cY;rw[L];simp only;unfold di;rw[hv,cond_false]
 have bsl:∀y:V,iR (.sl y):=λy=>⟨λ_=>rfl⟩
 unfold mG at U;rw[Bool.and_eq_true]at U;obtain⟨Vl,Ds⟩:=U;split at Ds
 ·rename_i e D;have cU:e<20000:=Nat.le_of_ble_eq_true Ds;split at Vl
  ·rename_i t C;have E:=Z (by rw[C];rfl);rw[E σ Y]at h;simp only[gC,C,fS,D]at h;unfold oZ at h;split at h
   ·rename_i z hz;unfold gj at h;cases hN:Nat.blt e N with
    |false=>rw[hN]at h;cases h
    | true=>
     rw[hN,cond_true]at h;injection h with h
     refine⟨e,.az (z.cells.toList.map mm),.aG e 0,D,cU,.zero _,.inl rfl,h.symm,λσ2 L _=>(E σ2 L).trans ?_⟩
     simp only[gC,C,fS,D];unfold oZ gj;rw[hz,hN];rfl
   ·cases h
  ·rename_i t len parts C;have E:=Z (by rw[C];rfl);rw[E σ Y]at h;have hn:ou t=false:=by simpa using Vl
   simp only[gC,C,fS,D,hn,cond_false]at h;obtain⟨y,O,h2⟩:=abz h;injection O with O
   refine⟨e,.sl y,.lf (.own [e]),D,cU,bsl y,.inr rfl,O.symm,λσ2 L T=>(E σ2 L).trans ?_⟩
   simp only[gC,C,fS,D,hn,cond_false]
   refine(h2 σ2 λq hq=>T _ ?_).at_ _
   rw[C];simp only[Op.operands];exact List.mem_toArray.2 (List.mem_map_of_mem (f:=(·.2)) hq)
  ·rename_i t l c C;have E:=Z (by rw[C];rfl);rw[E σ Y]at h;simp only[gC,C,fS,D]at h;obtain⟨y,O,h2⟩:=aby h;injection O with O
   refine⟨e,.sl y,.lf (.own [e]),D,cU,bsl y,.inr rfl,O.symm,λσ2 L T=>(E σ2 L).trans ?_⟩
   simp only[gC,C,fS,D];rw[T l (by rw[C];simp[Op.operands]),T c (by rw[C];simp[Op.operands])];exact(h2 σ2).at_ _
  ·cases Vl
 ·cases Ds
def Nf{d:Nat}{t:TypeId}{y z:A}{Y:S}(h:rA P N σ d t y z some=some Y):∃ (r:Nat) (v:V),Y=((σ.drop r).root r (.sl v)).set d (.lf (.own [r]))/\(r=d\/y = .lf (.own [r]))/\
  ∀σ2:S,(∀(k:V->ah S),qp σ2 z k=qp σ z k)->(∀r v,y = .lf (.own [r])->σ.m r=some (.sl v)->σ2.m r=some (.sl v))->rA P N σ2 d t y z some=some (((σ2.drop r).root r (.sl v)).set d (.lf (.own [r]))):=by
 unfold rA at h;split at h
 ·rename_i e O Z;cases L:(Nat.beq (full O) 0&&(zeroOf P e).any (λz=>Nat.beq z.cells.size (aA O)))with
  |false=>rw[L]at h;cases h
  | true=>
   rw[L,cond_true]at h;obtain⟨yv,C,hd⟩:=UG.lA h;clear h;split at C
   ·cases C
   ·rename_i l2 ji;split at C
    ·cases D:bD l2.length with
     |false=>rw[D]at C;cases C
     | true=>
      rw[D,cond_true]at C;cases T:Nat.blt d N with
      |false=>unfold gj at C;rw[T]at C;cases C
      | true=>
       have E:=C;unfold gj at E;rw[T,cond_true]at E;injection E with E
       refine⟨d,.sl O 2 false l2,E.symm,.inl rfl,λσ2 U Ds=>?_⟩
       simp only[rA,Z,L,cond_true];refine(U _).trans ((hd.at_ _).trans ?_);simp only[ji,D,cond_true];unfold gj;rw[T,cond_true]
    ·rename_i rr;split at C
     ·rename_i t' o q l hm;split at C
      ·rename_i lD;cases D:(Nat.blt d N&&(Nat.blt rr N || Nat.ble 60000 rr)&&bD (l.length+l2.length))with
       |false=>rw[D]at C;cases C
       | true=>
        rw[D,cond_true]at C;injection C with C
        refine⟨rr,_,C.symm,.inr rfl,λσ2 U Ds=>?_⟩
        simp only[rA,Z,L,cond_true];refine(U _).trans ((hd.at_ _).trans ?_);simp only[ji,Ds rr _ rfl hm,dif_pos lD,D,cond_true]
      ·cases C
     ·cases C
    ·cases C
 ·cases h
def Vm(h:isApp o=true):∃ x y t C,o.op = .call ⟨.builtin .append,⟨[x,y]⟩,⟨[t,C]⟩⟩/\ou t=false/\Nat.beq t C=true/\AL o.dst t x=false:=by
 unfold isApp at h
 grind
def GZ{x y:Operand}{t D:TypeId}(E:o.op = .call ⟨.builtin .append,⟨[x,y]⟩,⟨[t,D]⟩⟩)(L:ou t=false)(O:Nat.beq t D=true)(C:AL o.dst t x=false)(σ:S):di P N Φ σ o some=fS o λd=>rA P N σ d t (aH σ x) (aH σ y) some:=by
 unfold di;rw[show eS o.op=false by rw[E];rfl];simp[gC,E,L,O,cond_true];unfold fS;cases T:o.dst with
 |none=>rfl
 | some d=>
  rw[T]at C;have C:M4 t d x=false:=C;simp_all
theorem apg{U:S}{x:Tmp}{y:Operand}{t Y:TypeId}(C:o.op = .call ⟨.builtin .append,⟨[.tmp x,y]⟩,⟨[t,Y]⟩⟩)(E:ou t=false)(L:Nat.beq t Y=true)(O:AL o.dst t (.tmp x)=false)(hp:∀ n,eJ o n=true->p n=true/\pb n=true)(iO:pF p pb (σ.t x))(h:di P N Φ σ o some=some U):Nonempty (qJ P N Φ o p pb σ U):=by
 rw[GZ C E L O]at h;obtain⟨d,T,h⟩:=iQ h;obtain⟨r,v,gv,hr,rU⟩:=Nf h;have D:p r=true/\pb r=true:=by
  rcases hr with hr|hr
  ·rw[hr];exact hp d (by unfold eJ;rw[T,C];exact Nat.beq_refl d)
  ·exact iO r hr
 refine⟨{ G:=λσ=>(σ.drop r).root r (.sl v),u:=.lf (.own [r]),eq:=by rw[T];exact gv,run:=λσ2 Z hm=>?_,grow:=λσ=>.root r _ D.1 D.2 (.refl σ),set:=λσ e v' hv=>(by rw[S.drop_set r (A.Dl hv D.1 D.2)];rfl),bp:=λha=>(by rw[isApp,C]at ha;simp[E,L,O]at ha) }⟩
 rw[GZ C E L O];unfold fS;rw[T];simp only;rw[Z (.tmp x) (by rw[C];simp[Op.operands,Call.operands]),Z y (by rw[C];simp[Op.operands,Call.operands]),rU σ2 (λk=>aoZ hm _ k) (λr' v' _ h'=>by rw[hm];exact h')];rfl
theorem aph[Inhabited Wd](dB:eR P Φ){ok:Nat->Nat->Bool}{pG kE kF:Nat->Bool}(hX:∀ x,kF x=true->iA p (σ.t x)){ops:Array Oper}{oi D:Oper}{v:A}{τ:S}(hF:kG P ops oi p pb v σ)(ha:oi.apart ops D=true)(ht:Calm Φ ok pG kE p pb σ D)(hp:∀ n,eJ D n=true->p n=true/\pb n=true)
  (h:cY P N Φ ops (fk σ oi.dst v) D some=some τ):∃ T,cY P N Φ ops σ D some=some T/\τ=fk T oi.dst v/\kG P ops oi p pb v T/\(isApp D=false->∀ t r j,σ.t t = .aG r j->D.dst≠some t->eJ D r=false->T.t t = .aG r j)/\
   (∀t,iA p (σ.t t)->(D.dst≠some t\/(ua D=true/\p t=true)\/∃s x f,D.op = .fieldAddr s (.tmp x) f/\kF x=true)->iA p (T.t t))/\
   ∀t,pF p pb (σ.t t)->(D.dst≠some t\/(mG D=true/\p t=true/\pb t=true)\/(isApp D=true\/yl Φ D=true))->pF p pb (T.t t):=by
 obtain⟨a1,a2,a3⟩:=Oper.apart_spec ha;have Dt:∀ (σ:S) (u:A) t,D.dst≠some t->(fk σ D.dst u).t t=σ.t t:=by
  intro σ u t ht;cases O:D.dst with
  |none=>rfl
  |some d=>exact cw _ _ _ (by rintro rfl;exact ht O)
 have Du:∀ T,cY P N Φ ops σ D some=some T->∀ t,ua D=true->D.dst=some t->p t=true->iA p (T.t t):=by
  intro T C t Du O UW;obtain⟨ty,e,L,Y,h3,_⟩:=acg Du;rw[h3]at O;injection O with O;subst O;obtain⟨x,_,e1,_⟩:=apf L Y h3 C;rw[e1];show iA p (bO _ e (.aG e 0) e);rw[bR];exact UW
 have fin:∀ T,cY P N Φ ops σ D some=some T->(∀ t,D.dst≠some t->iA p (σ.t t)->iA p (T.t t))->∀ t,iA p (σ.t t)->(D.dst≠some t\/(ua D=true/\p t=true)\/∃ s x f,D.op = .fieldAddr s (.tmp x) f/\kF x=true)->iA p (T.t t):=by
  intro T C hk t ht Vn;rcases Vn with Z|⟨L,Y⟩|⟨s,x,f,L,Y⟩
  ·exact hk t Z ht
  ·by_cases O:D.dst=some t
   ·exact Du T C t L O Y
   ·exact hk t O ht
  ·by_cases O:D.dst=some t
   ·unfold cY at C;split at C
    ·unfold di at C;rw[show eS D.op=true by rw[L];rfl,cond_true]at C;rw[L]at C;simp only[kD]at C;have hx:=hX x Y;have hx:iA p (aH σ (.tmp x)):=hx;generalize aH σ (.tmp x)=z at hx C;have key:∀ v,gd N σ D.dst v some=some T->iA p v->iA p (T.t t):=by
      intro v hv hA;obtain⟨E,_⟩:=qI hv;injection E with E;rw[<-E,O];show iA p (bO σ.t t v t);rw[bR];exact hA
     unfold CV at C;split at C
     ·cases C
     ·split at C
      ·split at C
       ·exact key _ C hx
       ·exact key _ C trivial
       ·exact hx.elim
       ·cases C
      ·cases C
    ·obtain⟨E,_⟩:=qI C;injection E with E;rw[<-E,O];show iA p (bO σ.t t .skip t);rw[bR];trivial
    ·cases C
   ·exact hk t O ht
 have api:=ht;have ach:∀ T,cY P N Φ ops σ D some=some T->(∀ t,D.dst≠some t->pF p pb (σ.t t)->pF p pb (T.t t))->∀ t,pF p pb (σ.t t)->(D.dst≠some t\/(mG D=true/\p t=true/\pb t=true)\/(isApp D=true\/yl Φ D=true))->pF p pb (T.t t):=by
  intro T C hk t ht Vn;rcases Vn with Z|⟨L,Y⟩|apj|AR
  ·exact hk t Z ht
  ·by_cases O:D.dst=some t
   ·cases hw:eT σ ops D with
    |none=>unfold cY at C;rw[hw]at C;cases C
    | some b=>
     cases b with
     | true=>
      obtain⟨e,x,u,E,g2,g3,g4,g5,_⟩:=Nd L hw C;rw[O]at E;injection E with E;subst E;rw[g5];intro r hr;have hr:bO _ t u t = .lf (.own [r]):=hr;rw[bR]at hr;rcases g4 with g4|g4
      ·rw[g4]at hr;cases hr
      ·rw[g4]at hr;injection hr with hr;injection hr with hr;injection hr with hr;subst hr;exact Y
     | false=>
      unfold cY at C;rw[hw]at C;obtain⟨E,_⟩:=qI C;injection E with E;rw[<-E,O];intro r hr;have hr:bO σ.t t .skip t = .lf (.own [r]):=hr;rw[bR]at hr;cases hr
   ·exact hk t O ht
  ·by_cases O:D.dst=some t
   ·obtain⟨x,y,t1,t2,E,g2,g3,g4⟩:=Vm apj;have hT:pF p pb (aH σ x):=by
     rcases api with q|q|⟨ty,tt,yy,q1,_⟩|⟨x',y',t1',t2',q1,q2,q3,q4⟩
     ·rw[E]at q;cases q
     ·exact q.elim
     ·rw[E]at q1;cases q1
     ·rw[E]at q1;injection q1 with q1;injection q1 with _ q1 _;injection q1 with q1;injection q1 with q1 _;subst q1;exact q4
    cases hw:eT σ ops D with
    |none=>unfold cY at C;rw[hw]at C;cases C
    | some b=>
     cases b with
     | true=>
      unfold cY at C;rw[hw]at C;have C:di P N Φ σ D some=some T:=C;rw[GZ E g2 g3 g4]at C;obtain⟨d,rV,C⟩:=iQ C;rw[O]at rV;injection rV with rV;subst rV;obtain⟨r,v,gv,hr,_⟩:=Nf C;rw[gv];intro r' ez;have ez:bO ((σ.drop r).root r (.sl v)).t t (.lf (.own [r])) t = .lf (.own [r']):=ez;rw[bR]at ez;injection ez with ez;injection ez with ez;injection ez with ez;subst ez;rcases hr with hr|hr
      ·rw[hr];exact hp t (by unfold eJ;rw[O,E];exact Nat.beq_refl t)
      ·exact hT r hr
     | false=>
      unfold cY at C;rw[hw]at C;obtain⟨E,_⟩:=qI C;injection E with E;rw[<-E,O];intro r hr;have hr:bO σ.t t .skip t = .lf (.own [r]):=hr;rw[bR]at hr;cases hr
   ·exact hk t O ht
  ·by_cases O:D.dst=some t
   ·cases hw:eT σ ops D with
    |none=>unfold cY at C;rw[hw]at C;cases C
    | some b=>
     cases b with
     | true=>
      unfold cY at C;rw[hw]at C;have C:di P N Φ σ D some=some T:=C;unfold yl at AR;split at AR
      ·rename_i f args jB ho;split at AR
       ·rename_i c hc;unfold di at C;rw[show eS D.op=false by rw[ho];rfl,cond_false]at C;simp only[gC,ho,hc]at C;obtain⟨d,rV,C⟩:=iQ C;rw[O]at rV;injection rV with rV;subst rV;obtain⟨res,qq,L,Y,_⟩:=MU (GY dB hc) Dk C;injection Y with Y;subst Y;have nJ:∀ n,1000000000100000+1000*t<=n->p n=true/\pb n=true:=λn hn=>hp n (by unfold eJ;rw[O,ho];exact Nat.ble_eq_true_of_le hn)
        intro r hr;unfold mz at L;cases res with
        | one q=>
         simp only at L;split at L
         ·rename_i y U;injection L with L;rw[<-L]at hr;have hr:bO _ t y t=A.lf (Lf.own [r]):=hr;rw[bR]at hr;subst hr;obtain⟨b,vs⟩:=q;cases b with
          |true=>cases U
          | false=>
           match vs,U with
           | [v],U=>
            have U:some (A.lf (bif v.aC then Lf.v v else Lf.own [1000000000100000+1000*t]))=some (A.lf (Lf.own [r])):=U;injection U with U;injection U with U;cases hf:v.aC with
            |true=>rw[hf]at U;cases U
            | false=>
             rw[hf]at U;injection U with U;injection U with U;subst U;exact nJ _ (Nat.le_refl _)
         ·cases L
        | dW ps=>
         injection L with L;rw[<-L]at hr;have hr:bO _ t _ t=A.lf (Lf.own [r]):=hr;rw[bR]at hr;cases hr
       ·cases AR
      ·cases AR
     | false=>
      unfold cY at C;rw[hw]at C;obtain⟨E,_⟩:=qI C;injection E with E;rw[<-E,O];intro r hr;have hr:bO σ.t t .skip t = .lf (.own [r]):=hr;rw[bR]at hr;cases hr
   ·exact hk t O ht
 unfold cY at h;rw[apc a1]at h;split at h
 ·rename_i hw;have apk:Nonempty (qJ P N Φ D p pb (fk σ oi.dst v) τ):=by
   rcases ht with ht|ht|⟨ty,t,y,L,Y,h3,h4⟩|⟨x,y,t1,t2,L,Y,hn,h3⟩
   ·exact apa dB ht hp h
   ·exact ht.elim
   ·refine ape L Y ?_ h;have e1:aH (fk σ oi.dst v) (.tmp t)=aH σ (.tmp t):=Vj a1 v (by rw[L];simp[Op.operands]);have e1:(fk σ oi.dst v).t t=σ.t t:=e1;rw[e1];exact h4
   ·refine apg L hn.1 hn.2.1 hn.2.2 hp ?_ h;have e1:aH (fk σ oi.dst v) (.tmp x)=aH σ (.tmp x):=Vj a1 v (by rw[L];simp[Op.operands,Call.operands]);have e1:(fk σ oi.dst v).t x=σ.t x:=e1;rw[e1];exact h3
  obtain⟨G,u,e,hr,hg,hs,hbp⟩:=apk;have pH:cY P N Φ ops σ D some=some (fk (G σ) D.dst u):=by
   unfold cY;rw[hw];exact hr σ (λx hx=>(Vj a1 v hx).symm) (apb _ _).symm
  refine⟨fk (G σ) D.dst u,pH,?_,(hF.grow (hg σ)).put a3,λtZ t r j ht Z nJ=>?_,fin _ pH λt Z ht=>?_,ach _ pH λt Z ht=>?_⟩
  ·refine e.trans ?_;have:∀ dst,G (fk σ dst v)=fk (G σ) dst v:=by
    intro dst;cases dst with
    |none=>rfl
    |some d=>exact hs σ d v hF.nr
   rw[this];exact acf _ _ a2
  ·rw[Dt _ _ t Z];exact hbp tZ σ t r j ht nJ
  ·rw[Dt _ _ t Z];exact(hg σ).st ht
  ·rw[Dt _ _ t Z];exact(hg σ).tg ht
 ·rename_i hw;obtain⟨L,Y⟩:=qI h;injection L with L;have pH:cY P N Φ ops σ D some=some (fk σ D.dst .skip):=by
   unfold cY;rw[hw];exact(Y σ).at_ _
  exact⟨fk σ D.dst .skip,pH,by rw[<-L];exact acf _ _ a2,hF.put a3,λ_ t r j ht Z _=>(by rw[Dt _ _ t Z];exact ht),fin _ pH λt Z ht=>(by rw[Dt _ _ t Z];exact ht),ach _ pH λt Z ht=>(by rw[Dt _ _ t Z];exact ht)⟩
 ·cases h
def Any(P:Program)(N:Nat)(Φ:dJ)(ops:Array Oper)(K:S->Prop):Nat->Nat->S->Prop
 |0,L,σ=>(∀j,jT ops L j=false)/\K σ
 |f+1,L,σ=>((∀j,jT ops L j=false)->K σ)/\∀j,jT ops L j=true->∃o C,ops[j]?=some o/\cY P N Φ ops σ o some=some C/\Any P N Φ ops K f (L |||2 ^ j) C
def yo(L i j:Nat):(L ||| 2 ^ i).testBit j=(L.testBit j || decide (i=j)):=by
 rw[Nat.testBit_or,Nat.testBit_two_pow]
def G0{ops:Array Oper}{L j:Nat}:jT ops L j=true ↔ L.testBit j=false /\ ∃ o,ops[j]?=some o /\ ∀ e∈o.after,Region.binds .any e=true -> L.testBit e.on=true:=by
 unfold jT
 grind
def Vo{ops:Array Oper}{L i j:Nat}(h:jT ops L j=true)(C:j≠i):jT ops (L ||| 2 ^ i) j=true:=by
 rw[G0]at h ⊢
 grind
def kG.step{ops:Array Oper}{C:Oper}{v:A}(L:kG P ops C p pb v σ)(O:∀ σ:S,gd N σ C.dst v some=some (fk σ C.dst v)):cY P N Φ ops σ C some=some (fk σ C.dst v):=by
 unfold cY;rcases L with ⟨D,E,T,_,_,_⟩|⟨D,E⟩
 ·rw[D];unfold di;rw[E,cond_true];exact(T.at_ _).trans (O σ)
 ·simp_all
def Vp{K:S -> Prop}{ops:Array Oper}{i W:Nat}{U:Oper}(hi:ops[i]?=some U)(hW:∀ j C,ops[j]?=some C -> W.testBit j=true -> ∃ e∈C.after,Region.binds .any e=true/\(e.on=i \/ W.testBit e.on=true))(E:S -> S)(I:Nat -> S -> Prop)
  (r1:∀L σ,I L σ -> cY P N Φ ops σ U some=some (E σ))
  (r2:∀L σ j C Y,I L σ -> ops[j]?=some C -> j≠i -> L.testBit j=false -> W.testBit j=false -> cY P N Φ ops (E σ) C some=some Y -> ∃O,cY P N Φ ops σ C some=some O/\Y=E O/\I (L |||2 ^ j) O):
  ∀(f L:Nat) (σ:S),(∀j,W.testBit j=true -> L.testBit j=false) -> jT ops L i=true -> I L σ -> Any P N Φ ops K f (L |||2 ^ i) (E σ) -> Any P N Φ ops K (f+1) L σ:=by
 intro f
 induction f with
 | zero=>
  intro L σ uc T Z H
  refine⟨λh=>absurd (h i) (by rw[T];simp),λj hj=>?_⟩
  by_cases D:j=i
  ·subst D;exact⟨U,_,hi,r1 L σ Z,H⟩
  ·have:=Vo hj D;rw[H.1]at this;cases this
 | succ f ih=>
  intro L σ uc T Z H
  refine⟨λh=>absurd (h i) (by rw[T];simp),λj hj=>?_⟩
  by_cases D:j=i
  ·subst D;exact⟨U,_,hi,r1 L σ Z,H⟩
  ·obtain⟨C,Y,vY,gv,H'⟩:=H.2 j (Vo hj D);obtain⟨Dv,oj',Ng,rU⟩:=G0.1 hj;rw[vY]at Ng;injection Ng with Ng;subst Ng;have yp:W.testBit j=false:=by
    cases yp:W.testBit j with
    |false=>rfl
    | true=>
     obtain⟨e,he,hb,kB⟩:=hW j C vY yp;have h1:=rU e he hb;rcases kB with kB|kB
     ·rw[kB,(G0.1 T).1]at h1;cases h1
     ·rw[uc _ kB]at h1;cases h1
   obtain⟨O,hs,yu,hI'⟩:=r2 L σ j C Y Z vY D Dv yp gv
   refine⟨C,O,vY,hs,ih (L |||2 ^ j) O (λk hk=>?_) (Vo T (Ne.symm D)) hI' ?_⟩
   ·grind
   ·rw[<- yu]
    grind
theorem apl[Inhabited Wd](dB:eR P Φ){ok:Nat -> Nat -> Bool}{pG kE kF:Nat -> Bool}{K:S -> Prop}{ops:Array Oper}{i W:Nat}{O:Oper}{v:A}(hi:ops[i]?=some O)(hN:∀ σ:S,gd N σ O.dst v some=some (fk σ O.dst v))
  (hW:∀j C,ops[j]?=some C -> W.testBit j=true -> ∃e∈C.after,Region.binds .any e=true/\(e.on=i \/ W.testBit e.on=true)) (f L:Nat) (σ:S)
  (eB:∀t r,ok t r=true -> ∀j C,ops[j]?=some C -> j≠i -> L.testBit j=false -> W.testBit j=false -> C.dst≠some t/\eJ C r=false/\isApp C=false)
  (Nh:∀x,kF x=true -> ∀j C,ops[j]?=some C -> j≠i -> L.testBit j=false -> W.testBit j=false -> C.dst≠some x) (hX:∀x,kF x=true -> iA p (σ.t x))
  (Ni:∀t,pG t=true -> ∀j C,ops[j]?=some C -> j≠i -> L.testBit j=false -> W.testBit j=false -> C.dst≠some t \/ (ua C=true/\p t=true) \/ ∃s x f,C.op = .fieldAddr s (.tmp x) f/\kF x=true)
  (Nj:∀t,kE t=true -> ∀j C,ops[j]?=some C -> j≠i -> L.testBit j=false -> W.testBit j=false -> C.dst≠some t \/ (mG C=true/\p t=true/\pb t=true) \/ (isApp C=true \/ yl Φ C=true))
  (AS:∀j C,ops[j]?=some C -> j≠i -> L.testBit j=false -> W.testBit j=false -> O.apart ops C=true/\Calm Φ ok pG kE p pb σ C /\ ∀n,eJ C n=true -> p n=true/\pb n=true)
  (uc:∀j,W.testBit j=true -> L.testBit j=false) (hr:jT ops L i=true) (hF:kG P ops O p pb v σ) (H:Any P N Φ ops K f (L |||2 ^ i) (fk σ O.dst v)):Any P N Φ ops K (f+1) L σ:=by
 refine Vp hi hW (λσ=>fk σ O.dst v)
  (λL σ=>kG P ops O p pb v σ/\(∀ t r,ok t r=true -> ∀ j C,ops[j]?=some C -> j≠i -> L.testBit j=false -> W.testBit j=false -> C.dst≠some t/\eJ C r=false/\isApp C=false) /\
   ((∀x,kF x=true -> ∀j C,ops[j]?=some C -> j≠i -> L.testBit j=false -> W.testBit j=false -> C.dst≠some x) /\ ∀x,kF x=true -> iA p (σ.t x)) /\
   (∀t,pG t=true -> ∀j C,ops[j]?=some C -> j≠i -> L.testBit j=false -> W.testBit j=false -> C.dst≠some t \/ (ua C=true/\p t=true) \/ ∃s x f,C.op = .fieldAddr s (.tmp x) f/\kF x=true) /\
   (∀t,kE t=true -> ∀j C,ops[j]?=some C -> j≠i -> L.testBit j=false -> W.testBit j=false -> C.dst≠some t \/ (mG C=true/\p t=true/\pb t=true) \/ (isApp C=true \/ yl Φ C=true)) /\
   ∀j C,ops[j]?=some C -> j≠i -> L.testBit j=false -> W.testBit j=false -> O.apart ops C=true/\Calm Φ ok pG kE p pb σ C /\ ∀n,eJ C n=true -> p n=true/\pb n=true)
  (λL σ h=>h.1.step hN) (λL σ j C τ h vY G1 Dv yp gv=>?_) f L σ uc hr ⟨hF,eB,⟨Nh,hX⟩,Ni,Nj,AS⟩ H
 obtain⟨hF,eB,⟨Nh,hX⟩,Ni,Nj,AS⟩:=h;obtain⟨c1,c2,c3⟩:=AS j C vY G1 Dv yp;obtain⟨cy,hs,yu,hF',UQ,iO,hta⟩:=aph (kF:=kF) dB hX hF c1 c2 c3 gv;have hL:∀ k,(L ||| 2 ^ j).testBit k=false -> L.testBit k=false:=by
  intro k D;rw[yo,Bool.or_eq_false_iff]at D;exact D.1
 refine⟨cy,hs,yu,hF',λt r E k T D U Y Z=>eB t r E k T D U (hL k Y) Z,⟨λx hx k T D U Y Z=>Nh x hx k T D U (hL k Y) Z,λx hx=>iO x (hX x hx) (.inl (Nh x hx j C vY G1 Dv yp))⟩,λt E k T D U Y Z=>Ni t E k T D U (hL k Y) Z,λt E k T D U Y Z=>Nj t E k T D U (hL k Y) Z,λk T D U Y Z=>?_⟩
 obtain⟨d1,d2,d3⟩:=AS k T D U (hL k Y) Z
 refine⟨d1,d2.jL (λt r j' E h=>?_) (λt h E=>iO t E (Ni t h j C vY G1 Dv yp)) (λt h E=>hta t E (Nj t h j C vY G1 Dv yp)),d3⟩
 grind
def A.Vq(y:A)(a b:Nat):(y.drop a).drop b=(y.drop b).drop a:=A.mZ y _ _
def aU.Vq(y:aU)(a b:Nat):(y.drop a).drop b=(y.drop b).drop a:=aU.mZ y _ _
def kH.drop(h:kH e u){n:Nat}(C:e≠n):u.drop n=u:=by
 rcases h with rfl|rfl
 ·simp only[A.drop,nc C,cond_false,A.cc,vn]
 ·have:cB n [e]=false:=by simp[cB,C]
  simp only[A.drop,Lf.drop,this,cond_false,A.cc,vn,Lf.cc]
def kH.dZ(h:kH e u){ns cn:aa Nat}(D:cX e ns=false)(C:cX e cn=false):u.dZ ns cn=u:=by
 rcases h with rfl|rfl
 ·simp only[A.dZ,C,cond_false,A.cc,Db]
 ·have E:fC [e] ns=false:=D;have L:fC [e] cn=false:=C;simp only[A.dZ,Lf.dZ,E,L,A.cc,Db,Lf.cc];rfl
def pI(k:Nat):(cr e x u σ).t k=if k=e then u else (σ.t k).drop e:=by
 by_cases C:k=e
 ·subst C;rw[if_pos rfl];exact bR _ _ _
 ·rw[if_neg C];exact cw _ _ _ C
def nL(n:Nat):(cr e x u σ).m n=if n=e then some x else (σ.m n).map (aU.drop e):=by
 show bO (λr=>bif Nat.beq r e then none else (σ.m r).map (aU.drop e)) e (some x) n=_;by_cases C:n=e
 ·subst C;rw[if_pos rfl,bR]
 ·rw[if_neg C,cw _ _ _ C,nc C];rfl
def Vr(c:Nat)(y:aU)(k:Nat):((σ.drop c).root c y).t k=(σ.t k).drop c:=rfl
def aci(c:Nat)(y:aU)(n:Nat):((σ.drop c).root c y).m n=if n=c then some y else (σ.m n).map (aU.drop c):=by
 show bO (λr=>bif Nat.beq r c then none else (σ.m r).map (aU.drop c)) c (some y) n=_;by_cases C:n=c
 ·subst C;rw[if_pos rfl,bR]
 ·rw[if_neg C,cw _ _ _ C,nc C];rfl
def acj{c:Nat}(z:V)(L:iR x)(O:kH e u)(T:e≠c):((cr e x u σ).drop c).root c (.sl z)=cr e x u ((σ.drop c).root c (.sl z)):=by
 refine S.ext' (λk=>?_) λn=>?_
 ·rw[Vr,pI,pI,Vr];by_cases C:k=e
  ·rw[if_pos C,if_pos C];exact O.drop T
  ·rw[if_neg C,if_neg C];exact A.mZ _ _ _
 ·rw[aci,nL,nL,aci];by_cases D:n=c
  ·rw[if_pos D,if_neg (by omega),if_pos D];rfl
  ·rw[if_neg D];by_cases E:n=e
   ·rw[if_pos E,if_pos E];simp only[Option.map_some,L.drop]
   ·rw[if_neg E,if_neg E,if_neg D,Option.map_map,Option.map_map];congr 1;funext y;exact aU.mZ y _ _
def Nk(C:iR x)(D:kH e u):∀ (xs:aa V) (c:Nat) (σ:S),e<c -> kz c (cr e x u σ) xs=cr e x u (kz c σ xs)
 |[],c,σ,_=>rfl
 | y :: xs,c,σ,h=>by
  simp[kz];cases E:y.aC with
  |true=>exact Nk C D xs _ σ (by omega)
  | false=>
   rw[acj y C D (by omega)];exact Nk C D xs _ _ (by omega)
def ack(C:iR x)(D:kH e u):∀ (ps:aa Pt) (c:Nat) (σ:S),e<c -> nE c (cr e x u σ) ps=cr e x u (nE c σ ps)
 |[],c,σ,_=>rfl
 | q :: ps,c,σ,h=>by
  simp[nE];rw[Nk C D _ _ _ h];exact ack C D ps _ _ (by omega)
def Nl{v:A}(D:d≠e)(E:v.drop e=v):(cr e x u σ).set d v=cr e x u (σ.set d v):=by
 refine S.ext' (λk=>?_) λn=>?_
 ·show bO (cr e x u σ).t d v k=_;rw[pI];show _=if k=e then u else (bO σ.t d v k).drop e;by_cases C:k=d
  ·subst C;rw[bR,if_neg D,bR,E]
  ·rw[cw _ _ _ C,cw _ _ _ C,pI]
 ·rfl
def apm{v:A}{C:ah Tmp}(D:C≠some e)(E:v.drop e=v):fk (cr e x u σ) C v=cr e x u (fk σ C v):=by
 cases C with
 |none=>rfl
 |some d=>exact Nl (by rintro rfl;exact D rfl) E
def apn{ns cn:aa Nat}{nr:aa (Nat×aU)}(U:iR x)(Y:kH e u)(L:cX e ns=false)(O:cX e cn=false)(T:∀ q∈nr,q.1≠e/\q.2.drop e=q.2):(cr e x u σ).dZ ns cn nr=cr e x u (σ.dZ ns cn nr):=by
 have D:nr.lookup e=none:=by
  cases D:nr.lookup e with
  |none=>rfl
  |some y=>exact absurd rfl (T _ (Vk D)).1
 refine S.ext' (λk=>?_) λn=>?_
 ·show ((cr e x u σ).t k).dZ ns cn=_;rw[pI,pI];by_cases C:k=e
  ·rw[if_pos C,if_pos C];exact Y.dZ L O
  ·rw[if_neg C,if_neg C];exact A.mZ _ _ _
 ·rw[nL];show (match nr.lookup n with | some x=>some x | none=>bif cX n ns || cX n cn then none else ((cr e x u σ).m n).map (aU.dZ ns cn))=if n=e then some x else (match nr.lookup n with | some x=>some x | none=>bif cX n ns || cX n cn then none else (σ.m n).map (aU.dZ ns cn)).map (aU.drop e);by_cases E:n=e
  ·subst E;rw[if_pos rfl,D,L,O];simp only[Bool.or_false,cond_false,nL,if_true,Option.map_some,U.dZ]
  ·rw[if_neg E];cases Z:nr.lookup n with
   |some y=>simp only[Option.map_some];rw[(T _ (Vk Z)).2]
   | none=>
    simp only;cases (cX n ns ||cX n cn)with
    |true=>rfl
    | false=>
     simp only[cond_false];rw[nL,if_neg E,Option.map_map,Option.map_map];congr 1;funext y;exact aU.mZ y _ _
/-! What a call reads. -/
def acm{q:aa Nat}{k:V->ah X}(h:cB e q=false):gU (cr e x u σ).m q k=gU σ.m q k:=ao5 q k h
def vZ{y:Operand}(h:(aH σ y).nr p=true)(C:p e=true)(D:y ≠ .tmp e):aH (cr e x u σ) y=aH σ y:=by
 cases y with
 | tmp t=>
  show (cr e x u σ).t t=σ.t t;rw[pI,if_neg (by rintro rfl;exact D rfl)];exact A.yf h C
 |_=>rfl
def Vs{l:Lf}{k:V->ah X}(h:l.nr p=true)(C:p e=true):nj (cr e x u σ) l k=nj σ l k:=by
 cases l with
 |own q=>exact acm (abG h C)
 |_=>rfl
def acn{q:aa Nat}{s i j:Nat}{k:V->ah X}(h:mE p q=true)(C:p e=true):tJ (cr e x u σ) q s i j k=tJ σ q s i j k:=by
 unfold tJ;exact acm (abG h C)
def apo{y:A}{k:V->ah X}(h:y.nr p=true)(C:p e=true):qp (cr e x u σ) y k=qp σ y k:=by
 cases y with
 |lf l=>exact Vs h C
 |view q s i j=>exact acn h C
 |_=>rfl
def Vt(C:p e=true):∀ (xs:aa Lf) (k:aa V -> ah X),xs.all (Lf.nr p)=true -> pg (cr e x u σ) xs k=pg σ xs k
 |[],k,_=>rfl
 | y :: xs,k,h=>by
  rw[List.all_cons,Bool.and_eq_true]at h;simp[pg,Vs h.1 C];congr 1;funext z;exact Vt C xs _ h.2
def apq{y:A}{k:Pt->ah X}(h:y.nr p=true)(C:p e=true):mq (cr e x u σ) y k=mq σ y k:=by
 cases y with
 |lf l=>simp only[mq];exact Vt C _ _ (by rw[List.all_cons,show l.nr p=true from h];rfl)
 |agg cs=>simp only[mq];exact Vt C _ _ h
 |view q s i j=>simp only[mq];exact acn h C
 |gS cs=>cases cs<;>rfl
 |_=>rfl
def aco(C:p e=true):∀ (xs:aa Operand) (k:aa Pt->ah X),(∀ y∈xs,(aH σ y).nr p=true/\y ≠ .tmp e)->qt (cr e x u σ) xs k=qt σ xs k
 |[],k,_=>rfl
 | y :: xs,k,h=>by
  obtain⟨D,E⟩:=h y (.head _);unfold qt tT;rw[vZ D C E,apq D C];congr 1;funext z;exact aco C xs _ (λy L=>h y (.tail _ L))
def Vu{ns:aa Nat}(C:p e=true):∀ (xs:aa Lf) (k:aa V -> ah X),xs.all (Lf.nr p)=true -> vO (cr e x u σ) ns xs k=vO σ ns xs k
 |[],k,_=>rfl
 | y :: xs,k,h=>by
  rw[List.all_cons,Bool.and_eq_true]at h;simp[vO,Vs h.1 C];congr 2;funext z;exact Vu C xs _ h.2
def acp{d:Nat}:∀ (xs:aa Lf),oX (xs.map (Lf.drop d))=oX xs
 |[]=>rfl
 | x :: xs=>by
  have C:(x.drop d).pl=x.pl:=by
   cases x with
   | own k=>
    show (bif cB d k then _ else Lf.own k).pl=_;cases cB d k<;>rfl
   |_=>rfl
  simp[List.map_cons,oX,C,acp]
def apr{ns:aa Nat}{y:A}{k:Pt->ah X}(h:y.nr p=true)(C:p e=true):tV (cr e x u σ) ns y k=tV σ ns y k:=by
 cases y with
 |lf l=>simp only[tV];exact Vu C _ _ (by rw[List.all_cons,show l.nr p=true from h];rfl)
 |agg cs=>simp only[tV];exact Vu C _ _ h
 |ld f cs=>cases cs<;>rfl
 | fn f cap=>
  match cap,h with
  |[],_=>rfl
  |_::_::_,_=>rfl
  | [(D,j)],h=>
   have E:p D=false:=by simpa [A.nr,A.fr,tY]using h
   have L:D≠e:=by rintro rfl;rw[C]at E;cases E
   simp only[tV,nL,if_neg L];cases σ.m D with
   |none=>rfl
   | some z=>
    cases z with
    |az cs=>simp only[Option.map_some,aU.GW,<-List.map_drop,acp]
    |_=>rfl
 |_=>rfl
def aps{l:Lf}(h:l.nr p=true)(C:p e=true):ya (cr e x u σ).m l=ya σ.m l:=by
 cases l with
 | own k=>
  match k with
  |[]=>rfl
  | [q]=>
   have D:q≠e:=by
    have h:(!p q)=true:=by simpa [Lf.nr,Lf.fr,mE,hG]using h
    rintro rfl;rw[C]at h;cases h
   simp only[ya];rw[nL,if_neg D];cases σ.m q with
   |none=>rfl
   |some y=>cases y<;>rfl
  |_::_::_=>rfl
 |v x=>rfl
 |dead=>rfl
def acq(D:p e=true):∀ (C:aa Lf),C.all (Lf.nr p)=true -> rO (cr e x u σ).m C=rO σ.m C
 |[],_=>rfl
 | l :: C,h=>by
  rw[List.all_cons,Bool.and_eq_true]at h;simp[rO,aps h.1 D,acq D C h.2]
def acr{m:Nat->ah aU}:∀ {cs:aa Lf} {E:aa (V×ah Nat)},rO m cs=some E->cs.all (Lf.nr p)=true->∀ v∈E,∀ q,v.2=some q->p q=false
 |[],E,h,_=>by injection h with h;subst h;simp
 | c :: cs,E,h,L=>by
  rw[List.all_cons,Bool.and_eq_true]at L;unfold rO at h;split at h
  ·rename_i v Y C T;injection h with h;subst h;intro u hu q D;rcases List.mem_cons.1 hu with rfl | hu
   ·unfold ya at C;split at C
    ·injection C with C;rw[<-C]at D;cases D
    ·rename_i Z;split at C
     ·rename_i y _;cases O:y.aC with
      |true=>rw[O]at C;injection C with C;rw[<-C]at D;cases D
      | false=>
       rw[O,cond_false]at C;injection C with C;rw[<-C]at D;injection D with D;subst D;have U:=L.1
       simpa [Lf.nr,Lf.fr,mE,hG]using U
     ·cases C
    ·cases C
   ·exact acr T L.2 u hu q D
  ·cases h
def Nm(p:Nat->Bool):Mu->Prop
 |.az r cs C=>p r=false/\cs.all (Lf.nr p)=true/\∀v∈C,∀q,v.2=some q->p q=false
 |.sl q _=>p q=false
def Vv(L:p e=true):∀ (ps:aa PK) (xs:aa Operand) (O:aa Mu),(∀ y∈xs,(aH σ y).nr p=true/\y ≠ .tmp e)->(∀ n∈mF σ ps xs,vW σ p n=true)->lF σ ps xs=some O->lF (cr e x u σ) ps xs=some O/\∀ C∈O,Nm p C
 |[],[],O,_,_,h=>⟨h,by injection h with h;subst h;simp⟩
 |[],_::_,O,_,_,h=>by cases h
 |_::_,[],O,_,_,h=>by cases h
 | q :: ps,y :: xs,O,hy,hl,h=>by
  obtain⟨E,h2⟩:=hy y (.head _);have tR:∀ n∈mF σ ps xs,vW σ p n=true:=by
   intro n Z;refine hl n ?_;cases q with
   |v=>exact Z
   |s=>exact Z
   | p t g off=>
    simp only[mF];split
    ·exact .tail _ Z
    ·exact Z
  unfold lF at h;have D:∀ z,Aw σ q (aH σ y)=some z->Aw (cr e x u σ) q (aH (cr e x u σ) y)=some z/\∀ C,z=some C->Nm p C:=by
   intro z hz;rw[vZ E L h2];have T:=Az hz;cases q with
   | v=>
    cases z with
    |some C=>exact T.elim
    |none=>exact⟨hz,by simp⟩
   | p t g off=>
    cases z with
    |none=>exact T.elim
    | some C=>
     cases C with
     |sl=>exact T.elim
     | az Y cs vs=>
      obtain⟨U,hm,hg,hlen⟩:=T;have ez:p Y=false:=by
       rw[U]at E;have E:(!p Y)=true:=E
       simpa using E
      have cJ:Y≠e:=by rintro rfl;rw[L]at ez;cases ez
      have fB:cs.all (Lf.nr p)=true:=by
       have:=hl Y (by simp only[mF,U];exact .head _);unfold vW at this;rw[hm]at this;exact this
      have tL:(cr e x u σ).m Y=some (.az cs):=by
       rw[nL,if_neg cJ,hm];simp only[Option.map_some,aU.GW,oV.yf fB L]
      refine⟨?_,λC D=>?_⟩
      ·rw[U];simp only[Aw,Nat.beq_refl,cond_true,tL,acq L cs fB,hg];have:Nat.blt cs.length 999=true:=Nat.ble_eq_true_of_le hlen;rw[this];rfl
      ·injection D with D;subst D;exact⟨ez,fB,acr hg fB⟩
   | s t g=>
    cases z with
    |none=>exact T.elim
    | some C=>
     cases C with
     |az=>exact T.elim
     | sl q y0=>
      obtain⟨U,hm,hf⟩:=T;have hq:p q=false:=by
       rw[U]at E;have E:(!p q)=true:=by simpa [A.nr,A.fr,tY,Lf.nr,Lf.fr,mE,hG]using E
       simpa using E
      have cJ:q≠e:=by rintro rfl;rw[L]at hq;cases hq
      refine⟨?_,λC D=>?_⟩
      ·rw[U];simp only[Aw];rw[nL,if_neg cJ,hm];simp only[Option.map_some,aU.drop,hf,cond_false,aU.cc]
      ·injection D with D;subst D;exact hq
  split at h
  ·rename_i C qA k1 k2;injection h with h;subst h;obtain⟨g1,g2⟩:=D _ k1;obtain⟨f1,f2⟩:=Vv L ps xs qA (λy h=>hy y (.tail _ h)) tR k2
   refine⟨by simp only[lF,g1,f1],λm hm=>?_⟩
   rcases List.mem_cons.1 hm with rfl|hm
   ·exact g2 _ rfl
   ·exact f2 m hm
  next qA k1 k2=>injection h with h;subst h;obtain⟨g1,g2⟩:=D _ k1;obtain⟨f1,f2⟩:=Vv L ps xs qA (λy h=>hy y (.tail _ h)) tR k2;exact⟨by simp only[lF,g1,f1],f2⟩
  ·cases h
def Nn(D:p e=true)(ns:aa Nat):∀ (ps:aa PK) (xs:aa Operand) (C:aa Mu) (k:kA ps->ah X),(∀ y∈xs,(aH σ y).nr p=true/\y ≠ .tmp e)->mC (cr e x u σ) ns ps xs C k=mC σ ns ps xs C k
 |[],[],[],k,_=>rfl
 | .v b t :: ps,y :: xs,C,k,h=>by
  obtain⟨L,O⟩:=h y (.head _);simp only[mC];rw[vZ L D O,apr L D];congr 1;funext z;congr 1;split
  ·exact Nn D ns ps xs C _ (λy E=>h y (.tail _ E))
  ·rfl
 | .p t g off :: ps,y :: xs,.az T cs U :: C,k,h=>by
  simp only[mC];split
  ·exact Nn D ns ps xs C _ (λy E=>h y (.tail _ E))
  ·rfl
 | .s t g :: ps,y :: xs,.sl q Y :: C,k,h=>by
  simp only[mC];split
  ·exact Nn D ns ps xs C _ (λy E=>h y (.tail _ E))
  ·rfl
 |[],[],_::_,k,_=>rfl
 |[],_::_,_,k,_=>rfl
 |.v _ _::_,[],_,k,_=>rfl
 |.p _ _ _::_,[],_,k,_=>rfl
 |.s _ _::_,[],_,k,_=>rfl
 |.p _ _ _::_,_::_,[],k,_=>rfl
 |.s _ _::_,_::_,[],k,_=>rfl
 |.p _ _ _::_,_::_,.sl _ _::_,k,_=>rfl
 |.s _ _::_,_::_,.az _ _ _::_,k,_=>rfl
def Vw{i:Nat}:∀ (C:aa (V×ah Nat)) (j:Nat),(∀ v∈C,∀ q,v.2=some q -> p q=false) -> ∀ u∈Gn i j C,p u.1=false
 |[],_,_,u,hu=>by cases hu
 |(y,none)::C,j,h,u,hu=>Vw C (j+1) (λv D=>h v (.tail _ D)) u hu
 | (y,some q) :: C,j,h,u,hu=>by
  rcases List.mem_cons.1 hu with rfl|hu
  ·simp_all
  ·exact Vw C (j+1) (λv D=>h v (.tail _ D)) u hu
def Vx:∀ (C:aa Mu) (i:Nat),(∀ E∈C,Nm p E) -> ∀ u∈mB i C,p u.1=false
 |[],_,_,u,hu=>by cases hu
 | .az U cs L :: C,i,h,u,hu=>by
  obtain⟨O,Y,T⟩:=h _ (.head _);rcases List.mem_cons.1 hu with rfl|hu
  ·exact O
  ·rcases List.mem_append.1 hu with hu | hu
   ·exact Vw L 0 T u hu
   ·exact Vx C _ (λm D=>h m (.tail _ D)) u hu
 | .sl q y :: C,i,h,u,hu=>by
  rcases List.mem_cons.1 hu with rfl|hu
  ·exact h _ (.head _)
  ·exact Vx C (i+1) (λm D=>h m (.tail _ D)) u hu
def Vy{c0:Nat}(E:∀ n,c0 <= n -> p n=false):∀ (C:aa (V×ah Nat)) (n:Nat),(∀ v∈C,∀ q,v.2=some q -> p q=false) -> ∀ u∈nI c0 n C,p u=false
 |[],_,_,u,hu=>by cases hu
 | (y,none) :: C,n,h,u,hu=>by
  rcases List.mem_cons.1 hu with rfl|hu
  ·simp_all
  ·exact Vy E C (n+1) (λv D=>h v (.tail _ D)) u hu
 | (y,some q) :: C,n,h,u,hu=>by
  rcases List.mem_cons.1 hu with rfl|hu
  ·simp_all
  ·exact Vy E C (n+1) (λv D=>h v (.tail _ D)) u hu
def Vz:∀ (C:aa Nat) (xs:aa V),∀ u∈AA C xs,u∈C
 |[],[],u,hu=>by cases hu
 | n :: C,y :: xs,u,hu=>by
  simp[AA]at hu;cases D:y.aC with
  |true=>rw[D]at hu;exact .tail _ (Vz C xs u hu)
  | false=>
   rw[D]at hu;rcases List.mem_cons.1 hu with rfl|hu
   ·simp_all
   ·exact .tail _ (Vz C xs u hu)
def acs{ns cn:aa Nat}:∀ (C:aa Nat) (D:aa Lf) (xs:aa V),(∀ n∈C,p n=false)->D.all (Lf.nr p)=true->(om ns cn C D xs).all (Lf.nr p)=true
 |[],_,_,_,_=>by simp[om]
 |_::_,[],_,_,_=>by simp[om]
 |_::_,_::_,[],_,_=>by simp[om]
 | n :: C,l :: D,y :: xs,L,E=>by
  rw[List.all_cons,Bool.and_eq_true]at E;simp only[om,List.all_cons,Bool.and_eq_true]
  refine⟨?_,acs C D xs (λn O=>L n (.tail _ O)) E.2⟩
  cases y.plain with
  |true=>rfl
  | false=>
   simp only[cond_false];cases y.aC with
   | true=>
    simp only[cond_true];cases l with
    | own k=>
     have T:Lf.dZ ns cn (.own k)=(bif fC k cn ||(fC k ns && !(Nat.beq k.length 1))then .dead else .own k):=rfl;rw[T];cases (fC k cn ||(fC k ns && !(Nat.beq k.length 1)))with
     |true=>rfl
     |false=>exact E.1
    |v x=>rfl
    |dead=>rfl
   | false=>
    show (!p n)=true;rw[L n (.head _)];rfl
def VA:∀ (C:aa Nat) (xs:aa V),∀ u∈yc C xs,u.1∈C /\ ∃ y,u.2 = .sl y
 |[],[],u,hu=>by cases hu
 |[],_::_,u,hu=>by cases hu
 | n :: C,y :: xs,u,hu=>by
  simp[yc]at hu;cases L:y.aC with
  |true=>rw[L]at hu;obtain⟨D,E⟩:=VA C xs u hu;exact⟨.tail _ D,E⟩
  | false=>
   rw[L]at hu;rcases List.mem_cons.1 hu with rfl|hu
   ·simp_all
   ·obtain⟨D,E⟩:=VA C xs u hu;exact⟨.tail _ D,E⟩
def VB{c0:Nat}{ns cn:aa Nat}(E:p e=true)(T:∀ n,c0<=n->p n=false):∀ (D:aa Mu) (outs:aa In) (C:Nat),(∀ mu∈D,Nm p mu)->(∀ u∈oh c0 C D outs,p u=false)/\∀ u∈mD ns cn c0 C D outs,u.1≠e/\u.2.drop e=u.2
 |[],outs,C,_=>⟨(λu hu=>by simp[oh]at hu),(λu hu=>by simp[mD]at hu)⟩
 |.az _ _ _::_,[],C,_=>⟨(λu hu=>by cases hu),(λu hu=>by cases hu)⟩
 |.sl _ _::_,[],C,_=>⟨(λu hu=>by cases hu),(λu hu=>by cases hu)⟩
 |.az _ _ _::_,.sl _::_,C,_=>⟨(λu hu=>by cases hu),(λu hu=>by cases hu)⟩
 |.sl _ _::_,.az _::_,C,_=>⟨(λu hu=>by cases hu),(λu hu=>by cases hu)⟩
 | .az r' cs vs :: D,.az xs :: outs,C,h=>by
  obtain⟨L,h2,h3⟩:=h _ (.head _);obtain⟨U,O⟩:=VB (ns:=ns) (cn:=cn) E T D outs (C+1+vs.length) (λm Y=>h m (.tail _ Y));have cJ:∀n,p n=false->n≠e:=by rintro n hn rfl;rw[E]at hn;cases hn
  have Z:=Vy T vs (C+1) h3
  refine⟨λu hu=>?_,λu hu=>?_⟩
  ·simp only[oh]at hu;rcases List.mem_append.1 hu with hu | hu
   ·exact Z u (Vz _ _ u hu)
   ·exact U u hu
  ·simp only[mD]at hu;rcases List.mem_cons.1 hu with rfl | hu
   ·refine⟨cJ _ L,?_⟩;rw[aU.GW,oV.yf (acs _ _ _ Z h2) E]
   ·rcases List.mem_append.1 hu with hu | hu
    ·obtain⟨g1,y,g2⟩:=VA _ _ u hu;exact⟨cJ _ (Z _ g1),by rw[g2];rfl⟩
    ·exact O u hu
 | .sl q y :: D,.sl y' :: outs,C,h=>by
  have L:p q=false:=h _ (.head _);obtain⟨U,O⟩:=VB (ns:=ns) (cn:=cn) E T D outs (C+1) (λm Y=>h m (.tail _ Y))
  refine⟨λu hu=>U u (by simpa [oh]using hu),λu hu=>?_⟩
  simp only[mD]at hu;cases hy:y'.iL with
  |false=>rw[hy]at hu;exact O u hu
  |true=>
  rw[hy]at hu;rcases List.mem_cons.1 hu with rfl|hu
  ·exact⟨(by rintro rfl;rw[E]at L;cases L),rfl⟩
  ·exact O u hu
def VC:∀ (xs:aa V) (c:Nat),e<c->(mw c xs).map (Lf.drop e)=mw c xs
 |[],_,_=>rfl
 | y :: xs,c,h=>by
  simp only[mw,List.map_cons];rw[VC xs (c+1) (by omega)];cases y.aC with
  |true=>rfl
  | false=>
   have:cB e [c]=false:=by simp[cB];omega
   simp only[cond_false,Lf.drop,this,Lf.cc]
def apt{b:Bool}{xs:aa Lf}{y:A}(h:xz (b,xs)=some y)(C:xs.map (Lf.drop e)=xs):y.drop e=y:=by
 unfold xz at h;split at h
 next D=>injection h with h;subst h;obtain⟨_,rfl⟩:=D;exact congrArg A.agg C
 next z D=>injection h with h;subst h;obtain⟨_,rfl⟩:=D;simp at C;exact congrArg A.lf C
 ·cases h
def acu:∀ (ps:aa Pt) (c:Nat),e<c->(qv c ps).map (λq=>(q.1,q.2.map (Lf.drop e)))=qv c ps
 |[],_,_=>rfl
 | q :: ps,c,h=>by
  simp only[qv,List.map_cons];rw[VC _ _ h,acu ps _ (by omega)]
def apu(ps:aa Pt)(c:Nat)(h:e<c):A.drop e (.dW (qv c ps)) = .dW (qv c ps):=congrArg A.dW (acu ps c h)
def acv(C:iR x)(D:kH e u)(U:e<20000)(E:d≠e){L:eY}{O:S}(h:mz σ d L some=some O):mz (cr e x u σ) d L some=some (cr e x u O):=by
 unfold mz at h ⊢;split at h
 ·split at h
  next y T=>injection h with h;subst h;rw[Nk C D _ _ _ (by omega),Nl E (apt T (VC _ _ (by omega)))]
  ·cases h
 ·injection h with h;subst h;rw[ack C D _ _ _ (by omega),Nl E (apu _ _ (by omega))]
def apv(O:iR x)(T:kH e u)(U:e<20000){C:ah Tmp}(Y:C≠some e){E:eY}{D:S}(h:tW N σ C E some=some D):tW N (cr e x u σ) C E some=some (cr e x u D):=by
 cases C with
 | none=>
  have h:some σ=some D:=h;injection h with h;rw[<-h];rfl
 | some d=>
  unfold tW at h ⊢;cases L:Nat.blt d N with
  |false=>simp only[L,cond_false]at h;cases h
  | true=>
   simp only[L,cond_true]at h ⊢;exact acv O T U (by rintro rfl;exact Y rfl) h
def apw(dB:eR P Φ)(hx:iR x)(Y:kH e u)(he:e<20000)(T:p e=true)(AT:∀ n,20000<=n->p n=false)(C:lH Φ o=true)(hd:o.dst≠some e)(qK:∀ y∈o.op.operands,(aH σ y).nr p=true/\y ≠ .tmp e)(hl:∀ n∈qG Φ σ o,vW σ p n=true){τ:S}
  (h:di P N Φ σ o some=some τ):di P N Φ (cr e x u σ) o some=some (cr e x u τ):=by
 have ud:∃ f args jB,o.op = .call { callee:=.value (.func f),args:=args,argTypes:=jB }:=by
  unfold lH at C;split at C
  ·exact⟨_,_,_,by assumption⟩
  ·cases C
 obtain⟨f,args,jB,D⟩:=ud;have jQ:∀ y∈args.toList,(aH σ y).nr p=true/\y ≠ .tmp e:=by
  intro y hy;refine qK y ?_;rw[D];simp only[Op.operands,Call.operands];simp only[Array.mem_append]
  first
   |exact .inr (by simpa using hy)
   |exact .inl (by simpa using hy)
 have cV:∀ σ2,di P N Φ σ2 o some=gC P N Φ σ2 o some:=by
  intro σ2;unfold di;rw[show eS o.op=false by rw[D];rfl,cond_false]
 rw[cV]at h ⊢;cases L:Φ f with
 |none=>simp only[gC,D,L]at h;cases h
 | some c=>
  cases c with
  |n F=>rw[lH,D]at C;simp[L]at C
  |v c=>rw[lH,D]at C;simp[L]at C
  |i c=>rw[lH,D]at C;simp[L]at C
  |d c=>rw[lH,D]at C;simp[L]at C
  |q c=>rw[lH,D]at C;simp[L]at C
  |c c=>rw[lH,D]at C;simp[L]at C
  | p c=>
   simp only[gC,D,L]at h ⊢;obtain⟨d,Z,h⟩:=iQ h;have hde:d≠e:=by rintro rfl;exact hd Z
   obtain⟨res,qq,h1,E,h3⟩:=MU (GY dB L) Dk h;injection E with E;subst E;simp only[fS,Z];exact(h3 (cr e x u σ) (cr e x u qq) (λX k=>qt (cr e x u σ) args.toList k) (λX k=>aco T _ k jQ) (acv hx Y he hde h1)).at_ _
  | m c=>
   simp only[gC,D,L]at h ⊢;have Gy:∀ n∈mF σ c.ps args.toList,vW σ p n=true:=by
    intro n U;refine hl n ?_;simp only[qG,D,L];exact U
   unfold qB at h;split at h
   ·rename_i O ye;obtain⟨g1,g2⟩:=Vv (x:=x) (u:=u) T c.ps args.toList O jQ Gy ye;cases kB:(once (mB 0 O)&&Nat.ble O.length 40)with
    |false=>rw[kB]at h;cases h
    | true=>
     rw[kB,cond_true]at h;obtain⟨z,E,acw⟩:=(US _ _ _).lA h;simp only[qB,g1,kB,cond_true];rw[Nn T _ _ _ _ _ jQ];refine(acw S _).trans ?_;split at E
     ·rename_i y hy;unfold MK at E ⊢;generalize nA:oh (gJ o.dst) (eA c.ro y.1).len O (jC (ep c.ps) y.2)=cn at E;generalize eB:Gu N O (jC (ep c.ps) y.2) cn=ok at E;cases ok with
      |false=>cases E
      | true=>
       rw[cond_true]at E;have vL:∀ n,gJ o.dst<=n->p n=false:=by
        intro n U;refine AT n ?_;cases Z:o.dst with
        |none=>rw[Z]at U;simp only[gJ]at U;omega
        |some d=>rw[Z]at U;simp only[gJ]at U;omega
       obtain⟨k1,k2⟩:=VB (ns:=(mB 0 O).map (·.1)) (cn:=cn) T vL O (jC (ep c.ps) y.2) (eA c.ro y.1).len g2;rw[nA]at k1;rw[cond_true,apn hx Y ?_ ?_ k2]
       ·exact apv hx Y he hd E
       ·cases hm:cX e ((mB 0 O).map (·.1))with
        |false=>rfl
        | true=>
         obtain⟨u,Y,e1⟩:=List.mem_map.1 (vN.1 hm);have:=Vx O 0 g2 u Y;rw[e1,T]at this;cases this
       ·cases hm:cX e cn with
        |false=>rfl
        |true=>have:=k1 e (vN.1 hm);rw[T]at this;cases this
     ·cases E
   ·cases h
def A.acy{y:A}(h:y.eS=true)(K:lu):y.cc K=y:=by
 refine A.oU ?_;cases y with
 |lf l=>cases l<;>first|rfl|cases h
 | agg cs=>
  refine List.all_eq_true.2 λl C=>?_
  have:=List.all_eq_true.1 h l C;cases l<;>first|rfl|cases this
 |_=>cases h
def A.Np{y:A}(h:y.eS=true)(n:Nat):y.drop n=y:=A.acy h _
def A.apx{y:A}(h:y.eS=true)(ns cn:aa Nat):y.dZ ns cn=y:=A.acy h _
def VD:∀ (xs:aa V) (c:Nat) (σ:S) {t:Nat},(σ.t t).eS=true -> (kz c σ xs).t t=σ.t t
 |[],c,σ,t,h=>rfl
 | y :: xs,c,σ,t,h=>by
  simp[kz];cases y.aC with
  |true=>exact VD xs _ σ h
  | false=>
   simp;have C:(((σ.drop c).root c (.sl y)).t t)=σ.t t:=by rw[Vr];exact A.Np h c
   rw[VD xs _ _ (by rw[C];exact h),C]
def acz:∀ (ps:aa Pt) (c:Nat) (σ:S) {t:Nat},(σ.t t).eS=true -> (nE c σ ps).t t=σ.t t
 |[],c,σ,t,h=>rfl
 | q :: ps,c,σ,t,h=>by
  simp[nE];have C:=VD q.2 c σ h;rw[acz ps _ _ (by rw[C];exact h),C]
def acA{D:eY}{C:S}(h:mz σ d D some=some C){t:Nat}(E:(σ.t t).eS=true)(L:t≠d):C.t t=σ.t t:=by
 obtain⟨ps,u,O⟩:=ab8 h;rw[O]at h;injection h with h;rw[<-h];exact(cw _ _ _ L).trans (acz _ _ _ E)
def apy{C:ah Tmp}{L:eY}{D:S}(h:tW N σ C L some=some D){t:Nat}(O:(σ.t t).eS=true)(T:C≠some t):D.t t=σ.t t:=by
 cases C with
 | none=>
  have h:some σ=some D:=h;injection h with h;rw[<-h]
 | some d=>
  unfold tW at h;cases E:Nat.blt d N with
  |false=>simp only[E,cond_false]at h;cases h
  | true=>
   simp only[E,cond_true]at h;exact acA h O (by rintro rfl;exact T rfl)
def apz(dB:eR P Φ)(C:lH Φ o=true){U:S}(h:di P N Φ σ o some=some U){t:Nat}(T:(σ.t t).eS=true)(Y:o.dst≠some t):U.t t=σ.t t:=by
 have ud:∃ f args Z,o.op = .call { callee:=.value (.func f),args:=args,argTypes:=Z }:=by
  unfold lH at C;split at C
  ·exact⟨_,_,_,by assumption⟩
  ·cases C
 obtain⟨f,args,Z,E⟩:=ud;have cV:di P N Φ σ o some=gC P N Φ σ o some:=by
  unfold di;rw[show eS o.op=false by rw[E];rfl,cond_false]
 rw[cV]at h;cases L:Φ f with
 |none=>simp only[gC,E,L]at h;cases h
 | some c=>
  cases c with
  |n F=>rw[lH,E]at C;simp[L]at C
  |v c=>rw[lH,E]at C;simp[L]at C
  |i c=>rw[lH,E]at C;simp[L]at C
  |d c=>rw[lH,E]at C;simp[L]at C
  |q c=>rw[lH,E]at C;simp[L]at C
  |c c=>rw[lH,E]at C;simp[L]at C
  | p c=>
   simp only[gC,E,L]at h;obtain⟨d,rV,h⟩:=iQ h;obtain⟨res,qq,h1,D,h3⟩:=MU (GY dB L) Dk h;injection D with D;subst D;exact acA h1 T (by rintro rfl;exact Y rV)
  | m c=>
   simp only[gC,E,L]at h;unfold qB at h;split at h
   ·rename_i O ye;cases kB:(once (mB 0 O)&&Nat.ble O.length 40)with
    |false=>rw[kB]at h;cases h
    | true=>
     rw[kB,cond_true]at h;obtain⟨z,D,acw⟩:=(US _ _ _).lA h;split at D
     ·rename_i y hy;unfold MK at D;generalize Gu N O (jC (ep c.ps) y.2) (oh (gJ o.dst) (eA c.ro y.1).len O (jC (ep c.ps) y.2))=ok at D;cases ok with
      |false=>cases D
      | true=>
       rw[cond_true]at D;have e1:∀ns cn nr,(σ.dZ ns cn nr).t t=σ.t t:=λns cn nr=>A.apx T ns cn
       have:=apy (t:=t) D (by rw[e1];exact T) Y;rw[this,e1]
     ·cases D
   ·cases h
def apA{E:Nat}{L:aU}{O:A}(T:iR x)(U:kH e u)(Y:iR L)(Z:kH E O)(h:e≠E):cr E L O (cr e x u σ)=cr e x u (cr E L O σ):=by
 refine S.ext' (λk=>?_) λn=>?_
 ·simp only[pI];by_cases C:k=E
  ·subst C;rw[if_pos rfl,if_neg (Ne.symm h),if_pos rfl,Z.drop (Ne.symm h)]
  ·rw[if_neg C];by_cases D:k=e
   ·subst D;rw[if_pos rfl,if_pos rfl,U.drop h]
   ·rw[if_neg D,if_neg D,if_neg C,A.Vq]
 ·simp only[nL];by_cases C:n=E
  ·subst C;rw[if_pos rfl,if_neg (Ne.symm h),if_pos rfl,Option.map_some,Y.drop]
  ·rw[if_neg C];by_cases D:n=e
   ·subst D;rw[if_pos rfl,if_pos rfl,Option.map_some,T.drop]
   ·rw[if_neg D,if_neg D,if_neg C];cases σ.m n with
    |none=>rfl
    |some y=>simp only[Option.map_some,aU.Vq]
def apB(O:iR x)(T:kH e u)(U:p e=true)(Y:mG o=true)(Z:o.dst≠some e)(C:∀ y∈o.op.operands,(aH σ y).nr p=true/\y ≠ .tmp e){D:S}
  (h:di P N Φ σ o some=some D):di P N Φ (cr e x u σ) o some=some (cr e x u D):=by
 obtain⟨e',x',u',hd',Gm,jO,tM,gv,rU⟩:=Nd (o:={ o with guard:=none }) (ops:=#[]) Y rfl h;have cJ:e≠e':=by rintro rfl;exact Z hd'
 have E:=rU (cr e x u σ) rfl λy L=>vZ (C y L).1 U (C y L).2
 rw[apA O T jO tM cJ,<- gv]at E;exact E
def apC(D:mG o=true){C:S}(h:di P N Φ σ o some=some C){t:Nat}(E:(σ.t t).eS=true)(L:o.dst≠some t):C.t t=σ.t t:=by
 obtain⟨O,Z,u',T,Gm,jO,tM,U,rU⟩:=Nd (o:={ o with guard:=none }) (ops:=#[]) D rfl h;have Y:t≠O:=by rintro rfl;exact L T
 rw[U,pI,if_neg Y,A.Np E]
def apD(hx:iR x)(hu:kH e u)(C:p e=true)(hm:isApp o=true)(hd:o.dst≠some e)(T:∀ y∈o.op.operands,(aH σ y).nr p=true/\y ≠ .tmp e){U:S}
  (h:di P N Φ σ o some=some U):di P N Φ (cr e x u σ) o some=some (cr e x u U):=by
 obtain⟨a,b,t,t',L,hn,lD,hk⟩:=Vm hm;have E:=T a (by rw[L];simp[Op.operands,Call.operands]);have O:=T b (by rw[L];simp[Op.operands,Call.operands]);rw[GZ L hn lD hk]at h ⊢;obtain⟨d,Y,h⟩:=iQ h;obtain⟨r,v,gv,hr,rU⟩:=Nf h;have Z:d≠e:=by rintro rfl;exact hd Y
 have hre:r≠e:=by
  rcases hr with h1|h1
  ·rw[h1];exact Z
  ·rintro rfl;have D:=E.1;rw[h1]at D;simp[A.nr,A.fr,tY,Lf.nr,Lf.fr,mE,hG,C]at D
 unfold fS;rw[Y];simp only;rw[vZ E.1 C E.2,vZ O.1 C O.2,rU (cr e x u σ) (λk=>apo O.1 C) (λr' v' ez tL=>?_)]
 ·rw[acj v hx hu (Ne.symm hre),Nl Z ?_,gv];have:cB e [r]=false:=by simp[cB,hre]
  simp only[A.drop,Lf.drop,this,cond_false,A.cc,vn,Lf.cc]
 ·have cJ:r'≠e:=by
   rintro rfl;have D:=E.1;rw[ez]at D;simp[A.nr,A.fr,tY,Lf.nr,Lf.fr,mE,hG,C]at D
  rw[nL,if_neg cJ,tL];rfl
def apE(D:isApp o=true){C:S}(h:di P N Φ σ o some=some C){t:Nat}(E:(σ.t t).eS=true)(L:o.dst≠some t):C.t t=σ.t t:=by
 obtain⟨a,b,t1,t2,O,T,U,Y⟩:=Vm D;rw[GZ O T U Y]at h;obtain⟨d,Z,h⟩:=iQ h;obtain⟨r,v,gv,hr,rU⟩:=Nf h;have cJ:t≠d:=by rintro rfl;exact L Z
 rw[gv];show bO ((σ.drop r).root r _).t d _ t=_;rw[cw _ _ _ cJ];exact A.Np E r
def acB(C:∃ ty t y,o.op = .store ty (.tmp t) y/\o.dst=none /\ ∃ r j,σ.t t = .aG r j){L:S}(h:di P N Φ σ o some=some L):∃ t y r j cs xs,o.op.operands = #[.tmp t,y]/\σ.t t = .aG r j/\(aH σ y).xx=some xs/\σ.m r=some (.az cs)/\L=σ.root r (.az (splice cs j xs)) /\
  ∀(σ2:S) (D:aa Lf),σ2.t t = .aG r j -> aH σ2 y=aH σ y -> σ2.m r=some (.az D) -> D.length=cs.length -> di P N Φ σ2 o some=some (σ2.root r (.az (splice D j xs))):=by
 obtain⟨ty,t,y,C,Z,r,j,O⟩:=C;have T:∀ σ2:S,σ2.t t = .aG r j -> di P N Φ σ2 o some=od P σ2 ty (.aG r j) (aH σ2 y) some:=by
  intro σ2 E;unfold di;rw[show eS o.op=false by rw[C];rfl,cond_false];simp[gC,C,Z];have e1:aH σ2 (.tmp t) = .aG r j:=E;rw[e1,show vU _ _=false from rfl,cond_false]
 rw[T σ O]at h;unfold od at h;split at h
 ·rename_i n xs hn U;split at h
  ·rename_i hlen;simp only at h;split at h
   ·rename_i cs fB;split at h
    ·rename_i hj;cases Y:xs.all Lf.live with
     |false=>simp_all
     | true=>
      rw[Y,cond_true]at h;injection h with h
      refine⟨t,y,r,j,cs,xs,by rw[C];rfl,O,U,fB,h.symm,λσ2 D h1 E h3 h4=>?_⟩
      rw[T σ2 h1,E];simp only[od,hn,U,if_pos hlen,h3];rw[if_pos (by rw[h4];exact hj),Y];rfl
    ·cases h
   ·cases h
  ·cases h
 ·cases h
def acC(C:GS o=true)(E:vV σ o=true):∃ ty t y,o.op = .store ty (.tmp t) y/\o.dst=none /\ ∃ r j,σ.t t = .aG r j:=by
 unfold GS at C;rw[Bool.and_eq_true]at C;obtain⟨D,L⟩:=C;split at D
 ·rename_i ty t y O;refine⟨ty,t,y,O,Option.isNone_iff_eq_none.1 L,?_⟩;unfold vV at E
  grind
 ·cases D
def apF{y:A}{xs:aa Lf}(h:y.xx=some xs)(C:y.nr p=true):xs.all (Lf.nr p)=true:=by
 cases y with
 |lf l=>injection h with h;subst h;rw[List.all_cons,show l.nr p=true from C];rfl
 |agg cs=>injection h with h;subst h;exact C
 |_=>cases h
def apG(hx:iR x)(hu:kH e u)(C:p e=true)(hm:GS o=true)(hs:vV σ o=true)(O:∀ y∈o.op.operands,(aH σ y).nr p=true/\y ≠ .tmp e){T:S}
  (h:di P N Φ σ o some=some T):di P N Φ (cr e x u σ) o some=some (cr e x u T):=by
 obtain⟨t,y,r,j,cs,xs,U,Y,g3,g4,g5,g6⟩:=acB (acC hm hs) h;have D:=O (.tmp t) (by rw[U];simp);have E:=O y (by rw[U];simp);have e1:(cr e x u σ).t t = .aG r j:=(vZ D.1 C D.2).trans Y;have Z:r≠e:=by
  have h2:(aH σ (.tmp t)).nr p=true:=D.1;have h3:aH σ (.tmp t) = .aG r j:=Y;rw[h3]at h2;exact ao6 h2 C
 have e3:(cr e x u σ).m r=some (.az (cs.map (Lf.drop e))):=by
  rw[nL,if_neg Z,g4];rfl
 have lC:=oV.yf (apF g3 E.1) C;rw[g6 (cr e x u σ) _ e1 (vZ E.1 C E.2) e3 (by rw[List.length_map]),g5];congr 1
 refine S.ext' (λk=>?_) λn=>?_
 ·show (cr e x u σ).t k=(cr e x u (σ.root r (.az (splice cs j xs)))).t k;rw[pI,pI];rfl
 ·show bO (cr e x u σ).m r (some (.az (splice (cs.map (Lf.drop e)) j xs))) n=(cr e x u (σ.root r (.az (splice cs j xs)))).m n;rw[nL];by_cases L:n=r
  ·subst L;rw[bR,if_neg Z];show _=(bO σ.m n (some (aU.az (splice cs j xs))) n).map (aU.drop e);rw[bR];simp only[Option.map_some,aU.GW,splice,List.map_append,List.map_take,List.map_drop,lC]
  ·rw[cw _ _ _ L,nL];have:(σ.root r (.az (splice cs j xs))).m n=σ.m n:=cw _ _ _ L;rw[this]
def apH(D:GS o=true)(E:vV σ o=true){C:S}(h:di P N Φ σ o some=some C)(t:Nat):C.t t=σ.t t:=by
 obtain⟨_,_,r,j,cs,xs,_,_,_,_,L,_⟩:=acB (acC D E) h;rw[L];rfl
def apI(Y:eR P Φ)(C:iR x)(D:kH e u)(Z:e<20000)(E:p e=true)(AT:∀ n,20000<=n->p n=false)(O:GU Φ o=true)(iO:vV σ o=true)(T:o.dst≠some e)(L:∀ y∈o.op.operands,(aH σ y).nr p=true/\y ≠ .tmp e)(hl:∀ n∈qG Φ σ o,vW σ p n=true){U:S}
  (h:di P N Φ σ o some=some U):di P N Φ (cr e x u σ) o some=some (cr e x u U):=by
 unfold GU at O;rw[Bool.or_eq_true,Bool.or_eq_true,Bool.or_eq_true]at O;rcases O with ((hc|hc)|hc)|hc
 ·exact apw Y C D Z E AT hc T L hl h
 ·exact apB C D E hc T L h
 ·exact apD C D E hc T L h
 ·exact apG C D E hc iO L h
def apJ(O:eR P Φ)(C:GU Φ o=true)(T:vV σ o=true){L:S}(h:di P N Φ σ o some=some L){t:Nat}(D:(σ.t t).eS=true)(E:o.dst≠some t):L.t t=σ.t t:=by
 unfold GU at C;rw[Bool.or_eq_true,Bool.or_eq_true,Bool.or_eq_true]at C;rcases C with ((hc|hc)|hc)|hc
 ·exact apz O hc h D E
 ·exact apC hc h D E
 ·exact apE hc h D E
 ·exact apH hc T h t
def acD{i W j:Nat}{D:Oper}(E:ops[j]?=some D)(h:GP ops i W j=true):∃ e∈D.after,Region.binds .any e=true/\(e.on=i\/W.testBit e.on=true):=by
 unfold GP at h;rw[E]at h;obtain⟨e,L,C⟩:=List.any_eq_true.1 h;rw[Bool.and_eq_true,Bool.or_eq_true]at C
 refine⟨e,by simpa using L,C.1,C.2.imp (λh=>Nat.eq_of_beq_eq_true h) id⟩
def VE{g:Oper -> Bool}{C:Oper}{i L W:Nat}:∀ (n j:Nat),GQ g ops C i L W n j=true -> ∀ k,j <= k -> k<j+n -> k=i \/ L.testBit k=true \/ (W.testBit k=true/\GP ops i W k=true) \/ (W.testBit k=false /\ ∀ ok,ops[k]?=some ok -> g ok=true/\C.apart ops ok=true)
 |0,j,_,k,D,E=>by omega
 | n+1,j,h,k,D,E=>by
  unfold GQ at h;rw[Bool.and_eq_true,Bool.or_eq_true,Bool.or_eq_true]at h;by_cases O:k=j
  ·subst O;rcases h.1 with (h | h) | h
   ·exact .inl (Nat.eq_of_beq_eq_true h)
   ·exact .inr (.inl h)
   ·grind
  ·exact VE n (j+1) h.2 k (by omega) (by omega)
def ox{g:Oper -> Bool}{i L W:Nat}:∀ (n j:Nat) (k:Nat),j <= k -> k<j+n -> k≠i -> L.testBit k=false -> W.testBit k=false -> ∀ ok,ops[k]?=some ok -> g ok=true -> iz g ops i L W n j=true
 |0,j,k,C,D,_,_,_,_,_,_=>by omega
 | n+1,j,k,C,D,hi,E,O,ok,T,U=>by
  unfold iz;rw[Bool.or_eq_true];by_cases Y:k=j
  ·subst Y;refine .inl ?_;have Z:Nat.beq k i=false:=by
    cases Z:Nat.beq k i with
    |false=>rfl
    |true=>simp_all
   simp_all
  ·exact .inr (ox n _ k (by omega) (by omega) hi E O ok T U)
def acE{g:Oper -> Bool}{i L W:Nat}:∀ (n j:Nat),iz g ops i L W n j=true -> ∃ k ok,ops[k]?=some ok/\k≠i/\L.testBit k=false/\W.testBit k=false/\g ok=true
 |0,j,h=>by cases h
 | n+1,j,h=>by
  unfold iz at h;rw[Bool.or_eq_true]at h;rcases h with h|h
  ·rw[Bool.and_eq_true,Bool.not_eq_true',Bool.or_eq_false_iff,Bool.or_eq_false_iff]at h;obtain⟨⟨⟨D,E⟩,O⟩,C⟩:=h;split at C
   next ok T=>exact⟨j,ok,T,(by rintro rfl;rw[Nat.beq_refl]at D;cases D),E,O,C⟩
   ·cases C
  ·exact acE n _ h
theorem apK[Inhabited Wd]{L i:Nat}{k:S -> ah X}(E:eS o.op=true \/ eT σ ops o=some false)(O:U4 σ (yj Φ ops i L (waits ops i ops.size 0 0) σ) (AP σ ops i L (waits ops i ops.size 0 0)) o=true)(h:GR P N Φ ops L i σ o k=some r):
  ∃v,k (fk σ o.dst v)=some r/\kG P ops o (yj Φ ops i L (waits ops i ops.size 0 0) σ) (AP σ ops i L (waits ops i ops.size 0 0)) v σ /\ ∀σ:S,gd N σ o.dst v some=some (fk σ o.dst v):=by
 unfold GR at h;unfold U4 at O;rw[Bool.and_eq_true]at O;split at h
 ·rename_i C;obtain⟨v,D,hd,_⟩:=U9 (w0:=default) (N:=N) h;cases T:v.nK _ _ with
  |false=>rw[T]at D;cases D
  | true=>
   rw[T,cond_true]at D;obtain⟨U,Y⟩:=qI D;have E:=E.resolve_right (by rw[C];simp)
   refine⟨v,U,.inl ⟨C,E,hd,λy Z=>List.all_eq_true.1 O.1 y (by simpa using Z),T,λt y r j e Z=>?_⟩,λσ=>(Y σ).at_ _⟩
   simp_all
 next C=>obtain⟨U,Y⟩:=qI h;exact⟨.skip,U,.inr ⟨C,rfl⟩,λσ=>(Y σ).at_ _⟩
 ·cases h
def G2{i L W n:Nat}(h:AO Φ ops i L W σ n=true):yj Φ ops i L W σ n=true:=by unfold yj;rw[h];rfl
def apL{i L W:Nat}(h:FI Φ ops i L W σ o=true):∃ ty t y,o.op = .store ty (.tmp t) y/\o.dst=none/\M8 Φ ops i L W σ t=true/\(∀ k,σ.t t ≠ .ptr k) /\ ∀ r j,σ.t t = .aG r j -> AN σ o=[r]:=by
 unfold FI at h;split at h
 ·rename_i ty t y C;rw[Bool.and_eq_true,Bool.and_eq_true]at h
  refine⟨ty,t,y,C,by simpa using h.1.1,h.1.2,λk E=>?_,λr j D=>by simp[AN,C,D]⟩
  simp_all
 ·cases h
def apM{i L W:Nat}(h:U2 Φ ops i L W o=true):∃ x y t C,o.op = .call ⟨.builtin .append,⟨[.tmp x,y]⟩,⟨[t,C]⟩⟩/\kE Φ ops i L W x=true/\(ou t=false/\Nat.beq t C=true/\AL o.dst t (.tmp x)=false):=by
 unfold U2 at h
 grind
def G3{p:Nat -> Bool}:∀ (ps:aa PK) (xs:aa Operand),(∀ x∈xs,(aH σ x).nr p=true) -> ∀ n∈mF σ ps xs,p n=false
 |[],[],_,n,hn=>by cases hn
 |.v _ _::ps,x::xs,h,n,hn=>G3 ps xs (λy C=>h y (.tail _ C)) n hn
 |.s _ _::ps,x::xs,h,n,hn=>G3 ps xs (λy C=>h y (.tail _ C)) n hn
 | .p _ _ _ :: ps,x :: xs,h,n,hn=>by
  simp[mF]at hn;split at hn
  ·rename_i L j E;rcases List.mem_cons.1 hn with rfl | hn
   ·have D:=h x (.head _);rw[E]at D;have D:(!p n)=true:=D
    simpa using D
   ·exact G3 ps xs (λy C=>h y (.tail _ C)) n hn
  ·exact G3 ps xs (λy C=>h y (.tail _ C)) n hn
def Nq{D:ah Tmp}{g:Bool}{k:S -> ah X}(h:qF σ D g k=some r):k σ=some r:=by
 unfold qF at h;cases g with
 |false=>exact h
 | true=>
  rw[cond_true]at h;split at h
  ·rename_i d;split at h
   ·rename_i b E;have:∀ c,b=c -> σ.set d (.lf (.v (.bool c)))=σ:=by
     rintro c rfl
     refine S.ext' (λk=>?_) λ_=>rfl
     show bO _ _ _ _=_;by_cases C:k=d
     ·subst C;rw[bR,E]
     ·rw[cw _ _ _ C]
    grind
   ·exact h
  ·exact h
def acF{L j:Nat}(h:jT ops L j=true):j<ops.size:=by
 obtain⟨_,o,C,_⟩:=G0.1 h
 grind
def AU{L j:Nat}:j∈(List.range ops.size).filter (jT ops L) ↔ jT ops L j=true:=by
 rw[List.mem_filter,List.mem_range];exact⟨λh=>h.2,λh=>⟨acF h,h⟩⟩
structure acG (ops:Array Oper) (p:Nat->Bool) (σ:S) (o:Oper):Prop where
 is:mG o=true
 want:eT σ ops o=some true
 aF5:∀y∈o.op.operands,(aH σ y).eS=true/\∀t,y = .tmp t->p t=false
 guard:∀g c t,o.guard=some (g,c)->(ops[g]?).bind (·.dst)=some t->p t=false
def apN{x:A}{n:Nat}{z:V}(h:pz x n=some z)(X:Type)(k:A -> ah X):Ah x n k=k (.lf (.v z)):=by
 unfold pz at h;split at h
 ·split at h
  next xs _ _ C=>injection h with h;subst h;simp[Ah,C,Option.bind_some,xz]
  ·cases h
 ·cases h
def acH{x:A}{n:Nat}{z:V}{g:Lf -> Lf}{G:A -> A}(C:∀ xs,G (.dW xs) = .dW (xs.map λp=>(p.1,p.2.map g)))(D:∀ z,g (.v z) = .v z)(h:pz x n=some z):pz (G x) n=some z:=by
 unfold pz at h;split at h
 ·split at h
  next xs _ _ E=>injection h with h;subst h;rw[C];simp[pz,List.getElem?_map,E,Option.map_some,List.map_cons,List.map_nil,D]
  ·cases h
 ·cases h
def VF{v:A}(C:∀ q,v.drop q=v){rr d:Nat}{key:Nat -> aa Nat}:∀ (f j:Nat) (xs:aa Lf) (σ:S),gi rr key f j xs (σ.set d v)=(gi rr key f j xs σ).map λp=>(p.1,p.2.set d v)
 |_,_,[],σ=>by simp[gi]
 |0,j,x::xs,σ=>by cases x<;>simp[gi]
 | f+1,j,.v x :: xs,σ=>by
  simp only[gi,VF C f];cases gi rr key f (j+1) xs σ<;>rfl
 | f+1,j,.own [q] :: xs,σ=>by
  simp only[gi];show (match σ.m q with
   |some (.sl z)=>_
   |_=>none)=_
  cases D:σ.m q with
  |none=>rfl
  | some y=>
   cases y with
   | sl z=>
    cases Nat.beq q rr with
    |true=>rfl
    | false=>
     simp only[cond_false];rw[S.drop_set q (C q),VF C f];cases gi rr key f (j+1) (xs.map (Lf.drop q)) (σ.drop q)<;>rfl
   |_=>rfl
 |f+1,j,.own []::xs,σ=>rfl
 |f+1,j,.own (_::_::_)::xs,σ=>rfl
 |f+1,j,.dead::xs,σ=>rfl
def VG{rr:Nat}{key:Nat -> aa Nat}{x n:Nat}{z:V}:∀ (f j:Nat) (xs:aa Lf) (σ C:S) (D:aa V),gi rr key f j xs σ=some (D,C) -> pz (σ.t x) n=some z -> pz (C.t x) n=some z
 | _,_,[],σ,C,D,h,E=>by
  simp only[gi]at h;simp_all
 |0,j,y::xs,σ,C,D,h,E=>by cases y<;>simp[gi]at h
 | f+1,j,.v y :: xs,σ,C,D,h,E=>by
  simp only[gi]at h;cases L:gi rr key f (j+1) xs σ with
  |none=>simp_all
  | some p=>
   rw[L]at h;injection h with h;injection h with _ h;subst h;exact VG f (j+1) xs σ p.2 p.1 L E
 | f+1,j,.own [q] :: xs,σ,C,D,h,E=>by
  simp only[gi]at h;split at h
  ·cases O:Nat.beq q rr with
   |true=>simp_all
   | false=>
    rw[O,cond_false]at h;cases L:gi rr key f (j+1) (xs.map (Lf.drop q)) (σ.drop q)with
    |none=>simp_all
    | some p=>
     rw[L]at h;injection h with h;injection h with _ h;subst h;refine VG f (j+1) _ (σ.drop q) p.2 p.1 L ?_;exact acH (G:=A.drop q) (g:=Lf.drop q) (λ_=>rfl) (λ_=>rfl) E
  ·cases h
def apO{d:Nat}{v:V}{t:TypeId}{x y:A}{L:S}(h:rQ P (σ.set d (.lf (.v v))) t x y some=some L):∃ D,rQ P σ t x y some=some D/\L=D.set d (.lf (.v v)) /\ ∀ (e n:Nat) (z:V),pz (σ.t e) n=some z -> pz (D.t e) n=some z:=by
 unfold rQ at h;split at h
 ·rename_i n xs j i s rr hn lC;split at h
  ·rename_i hlen;cases O:xs.all Lf.live with
   |false=>simp_all
   | true=>
    rw[O,cond_true]at h;split at h
    ·rename_i vs τ1 C;rw[VF (v:=.lf (.v v)) (λ_=>rfl)]at C;cases E:gi rr (λm=>(j+m) :: i :: s :: [rr]) xs.length 0 xs σ with
     |none=>simp_all
     | some p=>
      rw[E]at C;obtain⟨vs0,T⟩:=p;injection C with C;injection C with e1 e2;subst e1 e2;split at h
      ·rename_i U Y Z l gv;have apP:T.m rr=some (.sl (.sl U (Y+2) Z l)):=gv;split at h
       ·rename_i nh;split at h
        ·rename_i hi;split at h
         ·rename_i hj;split at h
          ·rename_i e he;injection h with h
           refine⟨T.dZ [rr] [] [(rr,.sl (.sl U (Y+2) Z (l.set i e)))],?_,?_,λex nx z hz=>?_⟩
           ·simp[rQ,hn,lC,if_pos hlen,O,cond_true,E,apP,if_pos nh,dif_pos hi,if_pos hj,he]
           ·rw[<- h];exact S.apd _ rfl
           ·exact acH (G:=A.dZ [rr] []) (λ_=>rfl) (λ_=>rfl) (VG _ _ _ _ _ _ E hz)
          ·cases h
         ·cases h
        ·cases h
       ·cases h
      ·cases h
    ·cases h
  ·cases h
 ·cases h
def acI{t:TypeId}{a b:Operand}(C:o.op = .store t a b)(D:o.dst=none)(E:vU (aH σ a) (aH σ b)=true):di P N Φ σ o some=rQ P σ t (aH σ a) (aH σ b) some:=by
 unfold di;rw[show eS o.op=false by rw[C];rfl,cond_false];simp[gC,C,D,E,cond_true]
theorem apQ[Inhabited Wd](dB:eR P Φ){K:S -> Prop}{f L i:Nat}{Y:Oper}{τ:S}(hi:ops[i]?=some Y)(hr:jT ops L i=true)(D:U6 ops L σ i=true)(gv:cY P N Φ ops σ Y some=some τ)(H:Any P N Φ ops K f (L ||| 2 ^ i) τ):Any P N Φ ops K (f+1) L σ:=by
 unfold U6 at D;rw[hi]at D;split at D
 ·rename_i oi' j0 e1 apR;injection e1 with e1;subst e1;split at D
  ·rename_i x n d oj ud yw AV hj0;split at D
   ·rename_i ty a b Z acJ acK;rw[Bool.and_eq_true,Bool.and_eq_true]at D;obtain⟨⟨c1,c2⟩,c3⟩:=D;obtain⟨z,hz⟩:=Option.isSome_iff_exists.1 c1;obtain⟨a1,a2,a3⟩:=Oper.apart_spec c3;have hpd:∀ j,j<ops.size -> j≠i -> L.testBit j=false -> j=j0:=by
     intro j E O T;have:j∈(List.range ops.size).filter (λj=>!(Nat.beq j i || L.testBit j)):=by
      rw[List.mem_filter];refine⟨List.mem_range.2 E,?_⟩;rw[T,Bool.or_false];cases hb:Nat.beq j i with
      |false=>rfl
      |true=>exact absurd (Nat.eq_of_beq_eq_true hb) O
     rw[apR]at this;exact List.mem_singleton.1 this
    have pH:∀ σ2:S,pz (σ2.t x) n=some z -> cY P N Φ ops σ2 Y some=gd N σ2 (some d) (.lf (.v z)) some:=by
     intro σ2 h2;unfold cY;simp only[eT,AV];unfold di;rw[show eS Y.op=true by rw[ud];rfl,cond_true,ud];simp only[kD];rw[show aH σ2 (.tmp x)=σ2.t x from rfl,apN h2,yw]
    have hN:∀ σ2:S,gd N σ2 (some d) (.lf (.v z)) some=some (σ2.set d (.lf (.v z))):=by
     intro σ2;rw[pH σ hz]at gv;obtain⟨_,g2⟩:=qI gv;exact(g2 σ2).at_ _
    have hE:τ=σ.set d (.lf (.v z)):=by
     grind
    rw[hE]at H
    refine Vp (W:=0) hi (λj oj _ E=>by rw[Nat.zero_testBit]at E;cases E) (λσ=>σ.set d (.lf (.v z)))
     (λL' C=>pz (C.t x) n=some z /\ ∀j,j<ops.size -> j≠i -> L'.testBit j=false -> j=j0/\vU (aH C a) (aH C b)=true)
     (λL' C hI=>(pH C hI.1).trans (hN C)) (λL' C j oj' qq hI U O T _ yu=>?_) f L σ (λj E=>by rw[Nat.zero_testBit]at E;cases E) hr
     ⟨hz,λj E O T=>⟨hpd j E O T,c2⟩⟩ H
    obtain⟨rfl,hg⟩:=hI.2 j (Array.getElem?_eq_some_iff.1 U).1 O T;rw[hj0]at U;injection U with U;subst U;have ha:aH (C.set d (.lf (.v z))) a=aH C a:=Dr (a1 d yw) _ (by rw[Z];simp[Op.operands]);have hb:aH (C.set d (.lf (.v z))) b=aH C b:=Dr (a1 d yw) _ (by rw[Z];simp[Op.operands]);have iO:cY P N Φ ops (C.set d (.lf (.v z))) oj some=rQ P (C.set d (.lf (.v z))) ty (aH C a) (aH C b) some:=by
     unfold cY;simp only[eT,acK];rw[acI Z acJ (by rw[ha,hb];exact hg),ha,hb]
    rw[iO]at yu;obtain⟨σ2,h1,h2,h3⟩:=apO yu
    refine⟨σ2,?_,h2,h3 _ _ _ hI.1,λk hk hki hkL=>?_⟩
    ·unfold cY;simp only[eT,acK];rw[acI Z acJ hg];exact h1
    ·grind
   ·cases D
  ·cases D
 ·cases D
theorem G4[Inhabited Wd](dB:eR P Φ):∀ (f L:Nat) (σ:S) (k:S->ah X),pE P N Φ ops f L σ k=some r->Any P N Φ ops (λτ=>k τ=some r) f L σ
 | 0,L,σ,k,h=>by
  unfold pE at h;split at h
  ·rename_i hr
   refine⟨λj=>?_,h⟩
   cases Z:jT ops L j with
   |false=>rfl
   |true=>have:=AU.2 Z;rw[hr]at this;cases this
  ·cases h
 | f+1,L,σ,k,h=>by
  unfold pE at h;split at h
  ·rename_i hr
   refine⟨λ_=>h,λj Z=>?_⟩
   have:=AU.2 Z;rw[hr]at this;cases this
  ·rename_i i hr;have hi:jT ops L i=true:=AU.1 (by rw[hr];exact .head _)
   refine⟨λh=>absurd (h i) (by rw[hi];simp),λj Z=>?_⟩
   have Z:=AU.2 Z;rw[hr]at Z;obtain rfl:=List.mem_singleton.1 Z;split at h
   next o ho=>obtain⟨τ,h1,h2⟩:=Vg dB h;exact⟨o,τ,ho,h2,G4 dB f _ τ k (Nq h1)⟩
   ·cases h
  ·rename_i rs hn hs;split at h
   ·rename_i i hf;have hc:=List.find?_some hf;have hm:=List.mem_of_find?_eq_some hf;have hi:=AU.1 hm;split at h
    ·rename_i o ho;unfold abV at hc;rw[ho,Bool.and_eq_true,Bool.and_eq_true,Bool.and_eq_true]at hc;obtain⟨⟨⟨c1,c2⟩,c3⟩,c4⟩:=hc;have c1:eS o.op=true\/eT σ ops o=some false:=by
      rw[Bool.or_eq_true]at c1
      refine c1.imp id λc1=>?_
      split at c1
      next b hb=>rw[hb];cases b<;>first|rfl|cases c1
      ·cases c1
     obtain⟨v,h1,hF,hN⟩:=apK c1 c4 h;have v5:=VE _ _ c3;have c2:=Nat.eq_of_beq_eq_true c2;have G5:∀ j,(waits ops i ops.size 0 0).testBit j=true->(L ||| 2 ^ i).testBit j=false:=by
      intro j Z;have:((L |||2 ^ i) &&& waits ops i ops.size 0 0).testBit j=false:=by rw[c2];exact Nat.zero_testBit j
      rw[Nat.testBit_and,Z,Bool.and_true]at this;exact this
     have uc:∀ j,(waits ops i ops.size 0 0).testBit j=true->L.testBit j=false:=by
      intro j Z;have:=G5 j Z;rw[yo,Bool.or_eq_false_iff]at this;exact this.1
     refine apl (W:=waits ops i ops.size 0 0) (ok:=λt r=>!iz (jD t) ops i L (waits ops i ops.size 0 0) ops.size 0 && !iz (λok=>eJ ok r) ops i L (waits ops i ops.size 0 0) ops.size 0 && !iz isApp ops i L (waits ops i ops.size 0 0) ops.size 0) (pG:=M8 Φ ops i L (waits ops i ops.size 0 0) σ) (kF:=kF Φ ops i L (waits ops i ops.size 0 0) σ) (kE:=kE Φ ops i L (waits ops i ops.size 0 0)) dB ho hN (λj C D Z=>?_) f L σ (λt r eB j C D T U Y=>?_) (λx hx j C D T U Y=>?_) (λx hx=>?_) (λt eB j C D T U Y=>?_) (λt eB j C D T U Y=>?_) (λj C D T U Y=>?_) uc hi hF (G4 dB f _ _ k (Nq h1))
     ·have cU:=(Array.getElem?_eq_some_iff.1 D).1;rcases v5 j (by omega) (by omega)with e | e | e | e
      ·subst e;have:=G5 j Z;rw[yo]at this;simp at this
      ·rw[uc j Z]at e;cases e
      ·exact acD D e.2
      ·rw[Z]at e;cases e.1
     ·have cU:=(Array.getElem?_eq_some_iff.1 D).1;rw[Bool.and_eq_true,Bool.and_eq_true,Bool.not_eq_true',Bool.not_eq_true',Bool.not_eq_true']at eB
      refine⟨λhd=>?_,?_,?_⟩
      ·have:=ox (g:=jD t) ops.size 0 j (by omega) (by omega) T U Y C D (by unfold jD;rw[hd];exact Nat.beq_refl t);rw[eB.1.1]at this;cases this
      ·cases hn:eJ C r with
       |false=>rfl
       | true=>
        have:=ox (g:=λok=>eJ ok r) ops.size 0 j (by omega) (by omega) T U Y C D hn;rw[eB.1.2]at this;cases this
      ·cases hn:isApp C with
       |false=>rfl
       | true=>
        have:=ox (g:=isApp) ops.size 0 j (by omega) (by omega) T U Y C D hn;rw[eB.2]at this;cases this
     ·have cU:=(Array.getElem?_eq_some_iff.1 D).1;unfold kF at hx;rw[Bool.and_eq_true]at hx;intro hd;have:=ox (g:=jD x) ops.size 0 j (by omega) (by omega) T U Y C D (by unfold jD;rw[hd];exact Nat.beq_refl x);rw[this]at hx;cases hx.1
     ·unfold kF at hx;rw[Bool.and_eq_true]at hx;have hx:=hx.2;cases hz:σ.t x with
      |aG r j=>rw[hz]at hx;exact hx
      |gS cs=>trivial
      |_=>rw[hz]at hx;cases hx
     ·have cU:=(Array.getElem?_eq_some_iff.1 D).1;by_cases hd:C.dst=some t
      ·refine .inr ?_;have VH:jD t C=true:=by unfold jD;rw[hd];exact Nat.beq_refl t
       cases Du:ua C with
       | false=>
        cases G6:M7 Φ ops i L (waits ops i ops.size 0 0) σ C with
        | false=>
         have:=ox (g:=λok=>jD t ok && !(ua ok ||M7 Φ ops i L (waits ops i ops.size 0 0) σ ok)) ops.size 0 j (by omega) (by omega) T U Y C D (by rw[VH,Du,G6];rfl);unfold M8 at eB;rw[this]at eB;cases eB
        | true=>
         unfold M7 at G6;split at G6
         next s x f yx=>exact .inr ⟨s,x,f,yx,G6⟩
         ·cases G6
       | true=>
        refine .inl ⟨rfl,?_⟩;refine G2 ?_;unfold AO;rw[Bool.or_eq_true]
        refine .inl (ox (g:=λo=>eJ o t) _ 0 j (by omega) (by omega) T U Y C D ?_)
        obtain⟨ty,e,h1,_,h3,_⟩:=acg Du;unfold eJ;rw[hd,h1];exact Nat.beq_refl t
      ·exact .inl hd
     ·have cU:=(Array.getElem?_eq_some_iff.1 D).1;by_cases hd:C.dst=some t
      ·refine .inr ?_;have VH:jD t C=true:=by unfold jD;rw[hd];exact Nat.beq_refl t
       cases tU:mG C with
       | false=>
        cases hma:isApp C with
        |true=>exact .inr (.inl rfl)
        | false=>
         cases AR:yl Φ C with
         |true=>exact .inr (.inr rfl)
         | false=>
          have:=ox (g:=λok=>jD t ok && !(mG ok ||isApp ok ||yl Φ ok)) ops.size 0 j (by omega) (by omega) T U Y C D (by rw[VH,tU,hma,AR];rfl);unfold kE at eB;rw[this]at eB;cases eB
       | true=>
        refine .inl ?_;have nJ:eJ C t=true:=by
         unfold mG at tU;rw[Bool.and_eq_true]at tU;have h1:=tU.1;unfold eJ;rw[hd];split at h1
         next Ap=>simp only[Ap];exact Nat.beq_refl t
         next Ap=>simp only[Ap];exact Nat.beq_refl t
         next Ap=>simp only[Ap];exact Nat.beq_refl t
         ·cases h1
        have h9:=ox (g:=λo=>eJ o t) ops.size 0 j (by omega) (by omega) T U Y C D nJ;refine⟨rfl,?_,?_⟩
        ·refine G2 ?_;unfold AO;rw[Bool.or_eq_true];exact .inl h9
        ·unfold AP;rw[Bool.or_eq_true];exact .inl h9
      ·exact .inl hd
     ·have cU:=(Array.getElem?_eq_some_iff.1 D).1;rcases v5 j (by omega) (by omega)with e | e | e | e
      ·exact absurd e T
      ·rw[U]at e;cases e
      ·rw[Y]at e;cases e.1
      ·obtain⟨e1,e2⟩:=e.2 C D
       refine⟨e2,?_,λn hn=>?_⟩
       ·rw[Bool.or_eq_true,Bool.or_eq_true,Bool.or_eq_true]at e1;rcases e1 with ((e1 | e1) | e1) | e1
        ·exact .inl e1
        ·cases e1
        ·obtain⟨ty,t,y,g1,g2,g3,g4,g5⟩:=apL e1;refine .inr (.inr (.inl ⟨ty,t,y,g1,g2,g3,?_⟩));cases hx:σ.t t with
         | aG r' j'=>
          show yj Φ ops i L (waits ops i ops.size 0 0) σ r'=true;refine G2 ?_;unfold AO;rw[Bool.or_eq_true]
          refine .inr (ox (g:=λo=>cX r' (qG Φ σ o) ||cX r' (AN σ o)) _ 0 j (by omega) (by omega) T U Y C D ?_)
          rw[g5 r' j' hx,Bool.or_eq_true];exact .inr (vN.2 (.head _))
         |ptr k=>exact absurd hx (g4 k)
         |_=>trivial
        ·obtain⟨x,y,t1,t2,g1,g2,g3⟩:=apM e1
         refine .inr (.inr (.inr ⟨x,y,t1,t2,g1,g2,g3,λr' ez=>⟨?_,?_⟩⟩))
         ·refine G2 ?_;unfold AO;rw[Bool.or_eq_true]
          refine .inr (ox (g:=λo=>cX r' (qG Φ σ o) ||cX r' (AN σ o)) _ 0 j (by omega) (by omega) T U Y C D ?_)
          have:AN σ C=[r']:=by simp only[AN,g1,ez]
          rw[this,Bool.or_eq_true];exact .inr (vN.2 (.head _))
         ·unfold AP;rw[Bool.or_eq_true]
          refine .inr (ox (g:=λo=>cX r' (M6 σ o)) _ 0 j (by omega) (by omega) T U Y C D ?_)
          have:M6 σ C=[r']:=by simp only[M6,g1,ez]
          rw[this];exact vN.2 (.head _)
       ·have h9:=ox (g:=λo=>eJ o n) ops.size 0 j (by omega) (by omega) T U Y C D hn;refine⟨?_,?_⟩
        ·refine G2 ?_;unfold AO;rw[Bool.or_eq_true];exact .inl h9
        ·unfold AP;rw[Bool.or_eq_true];exact .inl h9
    ·cases h
   ·split at h
    ·rename_i i hf;have hc:=List.find?_some hf;have hm:=List.mem_of_find?_eq_some hf;have hi:=AU.1 hm;split at h
     ·rename_i o ho;unfold abW at hc;rw[ho,Bool.and_eq_true,Bool.and_eq_true,Bool.and_eq_true,Bool.and_eq_true,Bool.and_eq_true]at hc;obtain⟨⟨⟨⟨⟨c1,c2⟩,c3⟩,c4⟩,c5⟩,c6⟩:=hc;have v5:=VE _ _ c3;have c2:=Nat.eq_of_beq_eq_true c2;have G5:∀ j,(waits ops i ops.size 0 0).testBit j=true->(L ||| 2 ^ i).testBit j=false:=by
       intro j Z;have:((L |||2 ^ i) &&& waits ops i ops.size 0 0).testBit j=false:=by rw[c2];exact Nat.zero_testBit j
       rw[Nat.testBit_and,Z,Bool.and_true]at this;exact this
      have uc:∀ j,(waits ops i ops.size 0 0).testBit j=true->L.testBit j=false:=by
       intro j Z;have:=G5 j Z;rw[yo,Bool.or_eq_false_iff]at this;exact this.1
      obtain⟨τ,h1,h2⟩:=Vg dB h;generalize hp:(λn=>iz (λo=>Dq o n) ops i L (waits ops i ops.size 0 0) ops.size 0)=p at c4 c5;have hpe:∀ j C e,ops[j]?=some C->j≠i->L.testBit j=false->(waits ops i ops.size 0 0).testBit j=false->C.dst=some e->p e=true:=by
       intro j C e D T U Y hd;have cU:=(Array.getElem?_eq_some_iff.1 D).1;rw[<-hp];exact ox (g:=λo=>Dq o e) _ 0 j (by omega) (by omega) T U Y C D (by unfold Dq jD;rw[hd];exact Nat.beq_refl e)
      have AS:∀ j C,ops[j]?=some C->j≠i->L.testBit j=false->(waits ops i ops.size 0 0).testBit j=false->U5 ops i L (waits ops i ops.size 0 0) σ C=true/\o.apart ops C=true:=by
       intro j C D T U Y;have cU:=(Array.getElem?_eq_some_iff.1 D).1;rcases v5 j (by omega) (by omega)with e|e|e|e
       ·exact absurd e T
       ·rw[U]at e;cases e
       ·rw[Y]at e;cases e.1
       ·exact e.2 C D
      have tU:∀ j C,ops[j]?=some C->j≠i->L.testBit j=false->(waits ops i ops.size 0 0).testBit j=false->acG ops p σ C:=by
       intro j C D T U Y;have hb:=(AS j C D T U Y).1;unfold U5 at hb;rw[Bool.and_eq_true,Bool.and_eq_true,Bool.and_eq_true]at hb;obtain⟨⟨⟨b1,b2⟩,b3⟩,b4⟩:=hb;have Nb:∀t,iz (jD t) ops i L (waits ops i ops.size 0 0) ops.size 0=false->p t=false:=λt ht=>by rw[<-hp];exact ht
       refine⟨b1,?_,λy O=>?_,λg c t hg ht=>?_⟩
       ·split at b2
        next b vD=>rw[vD,b2]
        ·cases b2
       ·have:=List.all_eq_true.1 b3 y (by simpa using O);rw[Bool.and_eq_true]at this
        refine⟨this.1,λt ht=>?_⟩
        have h2:=this.2;rw[ht]at h2;exact Nb t (by simpa using h2)
       ·rw[hg]at b4;simp only[ht]at b4;exact Nb t (by simpa using b4)
      have AT:∀ n,20000<=n->p n=false:=by
       intro n hn;cases AX:p n with
       |false=>rfl
       | true=>
        rw[<-hp]at AX;obtain⟨k',VI,hk1,hk2,hk3,hk4,Nr⟩:=acE _ _ AX;have hm:=(tU k' VI hk1 hk2 hk3 hk4).is;unfold mG at hm;rw[Bool.and_eq_true]at hm;have hm:=hm.2;unfold Dq jD at Nr;split at Nr
        next e he=>rw[he]at hm;have h1:e=n:=Nat.eq_of_beq_eq_true Nr;subst h1;exact absurd (Nat.le_of_ble_eq_true hm) (Nat.not_le_of_gt (Nat.lt_succ_of_le hn))
        ·cases Nr
      have hE:τ=(cY P N Φ ops σ o some).getD σ:=by rw[h2];rfl
      refine Vp (W:=waits ops i ops.size 0 0) ho (λj C D Z=>?_) (λσ=>(cY P N Φ ops σ o some).getD σ)
       (λL' E=>((cY P N Φ ops E o some).isSome=true/\U3 E p o=true/\(qG Φ E o).all (vW E p)=true/\vV E o=true)/\(∀ j,L'.testBit j=false->L.testBit j=false)/\
        ∀j C,ops[j]?=some C->j≠i->L'.testBit j=false->(waits ops i ops.size 0 0).testBit j=false->acG ops p E C)
       (λL' E hI=>?_) (λL' E j C qq hI D T U Y gv=>?_) f L σ uc hi ⟨⟨by rw[h2];rfl,c4,c5,c6⟩,λ_ h=>h,tU⟩ (by rw[<-hE];exact G4 dB f _ τ k (Nq h1))
      ·have cU:=(Array.getElem?_eq_some_iff.1 D).1;rcases v5 j (by omega) (by omega)with e | e | e | e
       ·subst e;have:=G5 j Z;rw[yo]at this;simp at this
       ·rw[uc j Z]at e;cases e
       ·exact acD D e.2
       ·rw[Z]at e;cases e.1
      ·obtain⟨z,hz⟩:=Option.isSome_iff_exists.1 hI.1.1;rw[hz];rfl
      ·obtain⟨⟨i1,i2,i3,i6⟩,i4,i5⟩:=hI;have ap:=(AS j C D T (i4 j U) Y).2;obtain⟨m1,m2,m3,m4⟩:=i5 j C D T U Y;obtain⟨a1,a2,a3⟩:=Oper.apart_spec ap;obtain⟨z,hz⟩:=Option.isSome_iff_exists.1 i1;have hEz:(cY P N Φ ops E o some).getD E=z:=by rw[hz];rfl
       have gv:cY P N Φ ops z C some=some qq:=by rw[<-hEz];exact gv
       have acL:∀ t,(E.t t).eS=true->o.dst≠some t->z.t t=E.t t:=by
        intro t ht hd;unfold cY at hz;split at hz
        ·exact apJ dB c1 i6 hz ht hd
        ·obtain⟨g1,_⟩:=qI hz;injection g1 with g1;rw[<-g1];cases yw:o.dst with
         |none=>rfl
         |some d=>exact cw _ _ _ (by rintro rfl;exact hd yw)
        ·cases hz
       have apS:∀ g c t,C.guard=some (g,c)->(ops[g]?).bind (·.dst)=some t->(E.t t).eS=true\/E.t t = .skip:=by
        intro g c t hg ht;unfold eT at m2;rw[hg]at m2;simp only[ht]at m2;split at m2
        next b hb=>left;rw[hb];rfl
        next hb=>exact .inr hb
        ·cases m2
       have AV:∀ g c t,C.guard=some (g,c)->(ops[g]?).bind (·.dst)=some t->o.dst≠some t:=by
        intro g c t hg ht hd;refine a1 t hd (List.mem_append_right _ ?_);rw[hg];simp only[ht];simp
       have hwz:eT z ops C=some true:=by
        rw[ym (σ:=E) λg c t hg ht=>?_]
        ·exact m2
        ·rcases apS g c t hg ht with h | h
         ·exact acL t h (AV g c t hg ht)
         ·exfalso;unfold eT at m2;rw[hg]at m2;simp only[ht,h]at m2;cases m2
       have apT:∀ y∈C.op.operands,aH z y=aH E y:=by
        intro y O;cases y with
        | tmp t=>
         refine acL t (m3 _ O).1 λhd=>?_
         exact a1 t hd (List.mem_append_left _ (List.mem_filterMap.2 ⟨.tmp t,by simpa using O,rfl⟩))
        |_=>rfl
       obtain⟨e,x,u,hd,he,hx,hu,yu,rU⟩:=Nd m1 hwz gv;have AY:=hpe j C e D T (i4 j U) Y hd;have o8:=a3 e hd;have qK:∀ y∈o.op.operands,(aH E y).nr p=true/\y ≠ .tmp e:=by
        intro y O;refine⟨List.all_eq_true.1 i2 y (by simpa using O),?_⟩;rintro rfl;exact o8 (List.mem_append_left _ (List.mem_filterMap.2 ⟨.tmp e,by simpa using O,rfl⟩))
       have yw:o.dst≠some e:=λh=>a2 e h hd
       have apU:eT (cr e x u E) ops o=eT E ops o:=by
        have hw:∃ b,eT E ops o=some b:=by
         unfold cY at hz;cases hw:eT E ops o with
         |none=>rw[hw]at hz;cases hz
         |some b=>exact⟨b,rfl⟩
        obtain⟨b,hw⟩:=hw
        refine ym λg c t' xu ht'=>?_
        rw[pI,if_neg ?_]
        ·exact A.Dl (p:=p) (pb:=p) (Vh hw g c t' xu ht') AY AY
        ·rintro rfl;refine o8 (List.mem_append_right _ ?_);rw[xu];simp only[ht'];simp
       have pH:cY P N Φ ops (cr e x u E) o some=some (cr e x u z):=by
        unfold cY at hz ⊢;rw[apU];split at hz
        next hw=>exact apI dB hx hu he AY AT c1 i6 yw qK (λn hn=>List.all_eq_true.1 i3 n hn) hz
        next hw=>obtain⟨g1,g2⟩:=qI hz;injection g1 with g1;refine((g2 (cr e x u E)).at_ _).trans ?_;rw[<-g1,apm yw rfl]
        ·cases hz
       have VJ:∀y∈o.op.operands,aH (cr e x u E) y=aH E y:=λy O=>vZ (qK y O).1 AY (qK y O).2
       have hL:∀ k,(L' ||| 2 ^ j).testBit k=false->L'.testBit k=false/\k≠j:=by
        intro k hk;rw[yo,Bool.or_eq_false_iff]at hk;refine⟨hk.1,?_⟩;rintro rfl;simp at hk
       refine⟨cr e x u E,rU E m2 (λy O=>(apT y O).symm),?_,⟨by rw[pH];rfl,?_,?_,?_⟩,λk hk=>i4 k (hL k hk).1,λk VI hk hki hkL hkW=>?_⟩
       ·rw[yu,pH];rfl
       ·unfold U3;rw[List.all_eq_true];intro y O;rw[VJ y (by simpa using O)];exact(qK y (by simpa using O)).1
       ·have hrj:qG Φ (cr e x u E) o=qG Φ E o:=by
         unfold qG;split
         ·rename_i f' args jB yx;split
          ·refine Nc _ _ λy O=>VJ y ?_
           rw[yx];simp only[Op.operands,Call.operands];simp only[Array.mem_append]
           first
            |exact .inr (by simpa using O)
            |exact .inl (by simpa using O)
          ·rfl
         ·rfl
        rw[hrj,List.all_eq_true];intro n hn;have h3:=List.all_eq_true.1 i3 n hn;have cJ:n≠e:=by
         rintro rfl;have AX:p n=false:=by
          unfold qG at hn;split at hn
          ·rename_i f' args jB yx;split at hn
           ·refine G3 _ _ (λy O=>(qK y ?_).1) n hn
            rw[yx];simp only[Op.operands,Call.operands];simp only[Array.mem_append]
            first
             |exact .inr (by simpa using O)
             |exact .inl (by simpa using O)
           ·cases hn
          ·cases hn
         rw[AY]at AX;cases AX
        unfold vW at h3 ⊢;rw[nL,if_neg cJ];cases hm:E.m n with
        |none=>rfl
        | some y=>
         cases y with
         |sl=>rfl
         |mp=>rfl
         |gh=>rfl
         | az cs=>
          rw[hm]at h3;simp only[Option.map_some,aU.GW,oV.yf h3 AY];exact h3
       ·unfold vV at i6 ⊢;split
        next ty t y yx=>rw[yx]at i6;have e1:(cr e x u E).t t=E.t t:=VJ (.tmp t) (by rw[yx];simp[Op.operands]);rw[e1];exact i6
        ·rfl
       ·obtain⟨n1,n2,n3,n4⟩:=i5 k VI hk hki (hL k hkL).1 hkW;have apV:∀ t,p t=false->t≠e:=by rintro t ht rfl;rw[AY]at ht;cases ht
        have acM:∀ t,(E.t t).eS=true->p t=false->(cr e x u E).t t=E.t t:=by
         intro t ht htp;rw[pI,if_neg (apV t htp)];exact A.Np ht e
        refine⟨n1,?_,λy O=>?_,n4⟩
        ·rw[ym (σ:=E) λg c t hg ht=>?_]
         ·exact n2
         ·unfold eT at n2;rw[hg]at n2;simp only[ht]at n2;split at n2
          next b hb=>exact acM t (by rw[hb];rfl) (n4 g c t hg ht)
          next hb=>cases n2
          ·cases n2
        ·refine⟨?_,(n3 y O).2⟩;cases y with
         | tmp t=>
          show ((cr e x u E).t t).eS=true;rw[acM t (n3 _ O).1 ((n3 _ O).2 t rfl)];exact(n3 _ O).1
         |const v=>exact(n3 _ O).1
         |global g=>exact(n3 _ O).1
         |func f=>exact(n3 _ O).1
     ·cases h
    ·split at h
     ·rename_i i hf;have hc:=List.find?_some hf;have hm:=List.mem_of_find?_eq_some hf;have hi:=AU.1 hm;split at h
      next o ho=>obtain⟨τ,h1,h2⟩:=Vg dB h;exact apQ dB ho hi hc h2 (G4 dB f _ τ k (Nq h1))
      ·cases h
     ·cases h
def Dw{b:Bool}(h:eT σ ops o=some b)(U:Rl w0 N aj ρ σ a w):Region.wanted o (yielded ops a.tmps)=b:=by
 unfold eT at h;split at h
 next L=>injection h with h;subst h;simp[Region.wanted,L]
 ·rename_i j want L;split at h
  ·rename_i t O;have D:=U.tmp t;rw[Array.getD_eq_getD_getElem?]at D;split at h
   ·rename_i c T;rw[T]at D;have E:=D.2.xw;injection h with h;subst h;cases C:a.tmps[t]? with
    |none=>rw[C]at E;cases E
    | some v=>
     rw[C]at E;subst E;simp only[Region.wanted,L,yielded,O,Option.bind_some,C];simp_all
   ·rename_i T;rw[T]at D;injection h with h;subst h;cases C:a.tmps[t]? with
    |none=>simp[Region.wanted,L,yielded,O,C]
    | some v=>
     rw[C]at D;have E:=D;subst E;simp only[Region.wanted,L,yielded,O,Option.bind_some,C,undef];simp_all
   ·cases h
  ·cases h
structure rW (ops:Array Oper) (acN:Array Bool) (L:Nat):Prop where
 size:acN.size=ops.size
 bit:∀j,j<ops.size->acN[j]?=some (L.testBit j)
 out:∀j,ops.size<=j->L.testBit j=false
def rW.acO{C:Array Bool}{L:Nat}(h:rW ops C L)(j:Nat):C.getD j false=L.testBit j:=by
 rw[Array.getD_eq_getD_getElem?];by_cases D:j<ops.size
 ·rw[h.bit j D];rfl
 ·rw[h.out j (by omega),Array.getElem?_eq_none (by rw[h.size];omega)];rfl
def rW.ready{Y:Array Bool}{L:Nat}(h:rW ops Y L)(j:Nat):j∈Region.ready .any ops Y ↔ jT ops L j=true:=by
 rw[mem_ready,G0];constructor
 ·rintro⟨D,o,C,E⟩;have O:=(Array.getElem?_eq_some_iff.1 C).1;rw[Array.getD_eq_getD_getElem?,h.bit j O]at D;exact⟨D,o,C,λe T U=>by rw[<-h.acO];exact E e T U⟩
 ·rintro⟨D,o,C,E⟩;have O:=(Array.getElem?_eq_some_iff.1 C).1;exact⟨by rw[Array.getD_eq_getD_getElem?,h.bit j O];exact D,o,C,λe T U=>by rw[h.acO];exact E e T U⟩
def rW.set{D:Array Bool}{L i:Nat}(h:rW ops D L)(hi:i<ops.size):rW ops (D.setIfInBounds i true) (L ||| 2 ^ i):=by
 refine⟨by simp[h.size],λj C=>?_,λj C=>?_⟩
 ·rw[yo];by_cases E:i=j
  ·subst E;rw[Array.getElem?_setIfInBounds_self_of_lt (by rw[h.size];exact hi)];simp
  ·rw[Array.getElem?_setIfInBounds_ne E,h.bit j C];simp_all
 ·rw[yo,h.out j C]
  grind
def rW.start:rW ops (Array.replicate ops.size false) 0:=
 ⟨by simp,λj C=>by simp[C],λj _=>Nat.zero_testBit j⟩
def apW(Z:eR P Φ){k:S -> ah X}{i:Nat}(hi:ops[i]?=some o)(h:cY P N Φ ops σ o k=some r):∃ L,k L=some r /\ ∀ a w (K:Act -> World -> Prop) (Q:Exit -> Act -> World -> Prop),R w0 N σ a w -> (∀ U w',R w0 N L U w' -> K U w') -> wpOp P ops Q i K a w:=by
 unfold cY at h;split at h
 ·rename_i O;obtain⟨L,h1,ud⟩:=Va Z h
  refine⟨L,h1,λa w K Q D E=>?_⟩
  obtain⟨aj,ρ,C⟩:=D;unfold wpOp;rw[hi];simp[Dw O C];exact .inl (ud a w K Q ⟨aj,ρ,C⟩ E)
 ·rename_i O;unfold gd at h;split at h
  ·rename_i T
   refine⟨σ,h,λa w K Q D E=>?_⟩
   obtain⟨aj,ρ,C⟩:=D;unfold wpOp;rw[hi];simp[Dw O C,T];exact E _ _ ⟨aj,ρ,C⟩
  ·rename_i d T;cases Y:Nat.blt d N with
   |false=>simp_all
   | true=>
    rw[Y,cond_true]at h
    refine⟨_,h,λa w K Q D E=>?_⟩
    obtain⟨aj,ρ,C⟩:=D;unfold wpOp;rw[hi];simp only[Dw O C,T];exact E _ _ ⟨aj,ρ,C.set rfl (by have:=Nat.le_of_ble_eq_true Y;omega)⟩
 ·cases h
def acP(Z:eR P Φ){K:S -> Prop}{Q:Exit -> Act -> World -> Prop}(T:∀ U,K U -> ∀ a w,R w0 N U a w -> Q .normal a w):
  ∀(f L:Nat) (σ:S) (E:Array Bool),Any P N Φ ops K f L σ -> rW ops E L -> ∀a w,R w0 N σ a w -> wpAny P .any ops Q f E a w
 | 0,L,σ,E,h,D,a,w,O=>by
  refine⟨List.eq_nil_iff_forall_not_mem.2 λj C=>?_,T σ h.2 a w O⟩
  rw[D.ready,h.1]at C;cases C
 | f+1,L,σ,E,h,D,a,w,O=>by
  refine⟨λhr=>T σ (h.1 λj=>?_) a w O,λj C=>?_⟩
  ·cases C:jT ops L j with
   |false=>rfl
   | true=>
    have:=(D.ready j).2 C;simp_all
  ·have mg:=(D.ready j).1 C;obtain⟨o,U,ho,hd,hA⟩:=h.2 j mg;obtain⟨qq,Y,hw⟩:=apW Z ho hd;injection Y with Y;subst Y;exact hw a w _ Q O λa' w' cW=>acP Z T f _ _ _ hA (D.set (acF mg)) a' w' cW
def R.drawn(C:R w0 N σ a w):R w0 N σ a { w with drawn:=w.drawn+1 }:=by
 obtain⟨aj,ρ,h⟩:=C;exact⟨aj,ρ,h.grow ⟨rfl,rfl,rfl,Nat.le_refl _,λ_ _=>rfl⟩ (λ_ _=>rfl) (λb k D E=>absurd (h.cL b k E).2.1 (Nat.not_lt.2 D))⟩
theorem apX[Inhabited Wd](C:eR P Φ){id:Nat}{k:S->ah X}(E:P.follows .mixedOrders=true)(h:pE P N Φ ops ops.size 0 σ k=some r){Q:Exit->Act->World->Prop}(L:∀ D,k D=some r->∀ a w,R w0 N D a w->Q .normal a w)(O:R w0 N σ a w):
  (Code.region id ops true).wp P Q a w:=
 wp_region_any E (acP C L _ _ _ _ (G4 C _ _ _ _ h) rW.start a _ O.drawn)
/-! Values. -/
end
end Go.Proofs.YtnilicojgkhpnaaGreat
