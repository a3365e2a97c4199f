/-
  Running the program over pure contents, and that it follows (part 4). Nothing here is a claim.
-/
import Derived.Test.YtgjfmljpdnnihaaGreatV3
set_option linter.unusedSimpArgs false
namespace Go.Proofs.YtgjfmljpdnnihaaGreat
set_option linter.defProp false
open Go.RowKit
set_option linter.unusedVariables false
def gj(σ:S):aj Tmp->A->S
 |none,_=>σ
 |some d,v=>σ.set d v
section
variable {P:Program} {w w':World} {w0:Wd} {B N:Nat} {ah aD:bE} {ρ ρ':Nat->Loc} {σ:S} {a:Act} {X:Type} {d:Nat} {r:X} {o:Oper} {Φ:ep} {p pb:Nat->Bool} {e:Nat} {x:aW} {u:A} {ops:Array Oper}
def sG{C:aj Tmp}{x:A}{k:S -> aj X}(h:gY N σ C x k=some r):k (gj σ C x)=some r /\ ∀ (σ2:S),mF (λX k=>gY (X:=X) N σ2 C x k) (gj σ2 C x):=by
 unfold gY at h;split at h
 ·exact⟨h,λ_ X k=>rfl⟩
 ·rename_i d;cases D:Nat.blt d N with
  |false=>simp_all
  |true=>rw[D]at h;exact⟨h,λ_ X k=>by simp[gY,D];rfl⟩
def Hx{f:Nat}{c:iR}(C:fL P Φ)(h:Φ f=some (.p c)):iu P f c:=(C f _ h).2
def qOK{f:Nat}{c:iR}(C:fL P Φ)(h:Φ f=some (.q c)):iu P f c:=(C f _ h).2
def aoh{f:Nat}{C:aj Tmp}{c:tQ}{xs:aa A}(D:fL P Φ)(h:Φ f=some (.i c)):cI λX k=>G9 (X:=X) N σ C c xs k:=λX Y k g=>
 ((D f _ h).2.1 N σ xs X Y _ g).trans (bq (c.run Y N σ xs) (funext λE=>funext λy=>wZ X Y k g))
def abt(C:fL P Φ):cI λX k=>dB (X:=X) P N Φ σ o k:=λX Y k g=>by
 unfold dB
 refine de ((UJ.comp λv=>wZ) X Y k g) ?_
 unfold iy gD qU zk yP w5 yL
 repeat' first
  |rfl
  |exact MQ _ _ _ _
  |exact aaY _ _ _ _
  |exact anz _ _ _ _
  |exact aa1 (Hx C (by assumption)) DW _ _ _ _
  |exact Uu _ _ _ _
  |exact anE _ _ _ _
  |exact anB _ _ _ _
  |exact aoh C (by assumption) _ _ _ _
  |exact am4 (λ_=>Uu) _ _ _ _
  |exact aa1 (qOK C (by assumption)) aa0 _ _ _ _
  |exact anL _ _ _ _
  |exact anw _ _ _ _
  |exact an2 _ _ _ _
  |exact anj _ _ _ _
  |exact anR _ _ _ _
  |exact(anS.comp λv=>wZ) X Y k g
  |exact anT _ _ _ _
  |exact wZ _ _ _ _
  |exact(al0.comp λv=>wZ) X Y k g
  |refine de ?_ ?_
  |split
def gO.bp{σ C:S}(h:gO p pb σ C){t r j:Nat}(D:σ.t t = .aG r j)(E:pb r=false):C.t t = .aG r j:=by
 rw[<-D];exact h.t (by rw[D];simpa [A.ov,A.fr,tN]using E)
def jH(p:Nat->Bool):A->Prop
 |.aG r _=>p r=true
 |.ptr _=>False
 |_=>True
def gO.st{D:Nat->Bool}{σ C:S}(h:gO p pb σ C){t:Nat}(E:jH D (σ.t t)):jH D (C.t t):=by
 rcases h.nw t with e|e
 ·rw[e];exact E
 ·revert e;cases C.t t<;>simp[A.xb,jH]
def gO.UT{σ C:S}(h:gO p pb σ C){x:Operand}(D:(aK σ x).ov p pb=true):aK C x=aK σ x:=by
 cases x with
 |tmp t=>exact h.t D
 |const v=>rfl
 |global g=>rfl
 |func f=>rfl
def gO.val{σ T:S}(h:gO p pb σ T){E:Op}{v:A}(D:mF (λX k=>mJ (X:=X) P σ E k) v)(O:∀ y∈E.operands,(aK σ y).ov p pb=true)(Y:v.ov p pb=true)(L:∀ t y r j,E = .load t y->aK σ y = .aG r j->p r=false):mF (λX k=>mJ (X:=X) P T E k) v:=by
 intro X k
 refine(abj E (λy I=>⟨h.UT (O y I),λq e X k=>Nc h.sl q k (abp (O y I) e)⟩) (λt y e k=>?_) k).trans (D X k)
 subst e;have D:mF (λX k=>oa (X:=X) P σ t (aK σ y) k) v:=D;have I:=O y (by simp[Op.operands]);have L:=λr j=>L t y r j rfl
 generalize aK σ y=u at D I L;by_cases U:∃r j,u = .aG r j
 ·obtain⟨r,j,rfl⟩:=U;have C:oa P σ t (.aG r j) some=some v:=D A some;rw[D.at_ k];simp only[oa]at C ⊢;split at C
  ·cases C
  ·split at C
   next cs Z=>obtain⟨f,e1,e2⟩:=h.aC r (L r j rfl) cs Z;obtain⟨z,⟨⟩,e4⟩:=MP.lX C;rw[e1];simp only[];rw[<-List.map_drop,<-List.map_take,List.map_congr_left λl hl=>e2 l (aoe C Y l hl),List.map_id'];exact e4.at_ k
   ·cases C
 ·exact Sm.load (λq e X k=>Nc h.sl q k (abp I e)) (λr j e=>absurd ⟨r,j,e⟩ U) k
def UU:∀ (xs:aa V) (c:Nat) (σ:S),(∀ n,c <= n -> p n=true/\pb n=true) -> gO p pb σ (mG c σ xs)
 |[],c,σ,h=>.refl σ
 | x :: xs,c,σ,h=>by
  simp[mG];cases D:x.aH with
  |true=>exact UU xs _ σ (λn C=>h n (by omega))
  |false=>exact .trans (.root c (.sl x) (h c (dx _)).1 (h c (dx _)).2 (.refl σ)) (UU xs (c+1) _ (λn C=>h n (by omega)))
def Hy:∀ (ps:aa Pt) (c:Nat) (σ:S),(∀ n,c<=n->p n=true/\pb n=true)->gO p pb σ (oh c σ ps)
 |[],c,σ,h=>.refl σ
 |q::ps,c,σ,h=>(UU q.2 c σ h).trans (Hy ps _ _ (λn C=>h n (by omega)))
def zq{σ2:S}{ops:Array Oper}(h:∀ g b t,o.guard=some (g,b) -> (ops[g]?).bind (·.dst)=some t -> σ2.t t=σ.t t):fX σ2 ops o=fX σ ops o:=by
 unfold fX
 grind
def rz(p pb:Nat->Bool)(x:A):Prop:=∀r,x = .lf (.own [r])->p r=true/\pb r=true
def gO.tg{C D:Nat->Bool}{σ E:S}(h:gO p pb σ E){t:Nat}(I:rz C D (σ.t t)):rz C D (E.t t):=by
 rcases h.nw t with e|e
 ·rw[e];exact I
 ·intro r L;rw[L]at e;cases e
structure rA (P:Program) (N:Nat) (Φ:ep) (o:Oper) (p pb:Nat->Bool) (qa τ:S) where
 G:S->S
 u:A
 eq:τ=gj (G qa) o.dst u
 run:∀σ2:S,(∀x∈o.op.operands,aK σ2 x=aK qa x)->σ2.m=qa.m->dB P N Φ σ2 o some=some (gj (G σ2) o.dst u)
 grow:∀σ,gO p pb σ (G σ)
 set:∀(σ:S) d v,(A.ov p pb v)=true->G (σ.set d v)=(G σ).set d v
 bp:isApp o=false->∀(σ:S) t r j,σ.t t = .aG r j->eR o r=false->(G σ).t t = .aG r j
theorem rA.new{D:S}{d:Nat}(E:o.dst=some d)(C:p d=true/\pb d=true)(O:eR o d=true)(x:aW)(u:A){I:S}(e:I=((D.drop d).root d x).set d u)
  (T:∀σ2:S,(∀x∈o.op.operands,aK σ2 x=aK D x)->dB P N Φ σ2 o some=some (((σ2.drop d).root d x).set d u)):Nonempty (rA P N Φ o p pb D I):=
 ⟨{ G:=λσ=>(σ.drop d).root d x,u:=u,eq:=by rw[E];exact e,run:=λσ2 h _=>by rw[T σ2 h,E];rfl,grow:=λσ=>.root d x C.1 C.2 (.refl σ),
    set:=λσ e v U=>by rw[S.drop_set d (A.Bq U C.1 C.2)];rfl
    bp:=λ_ σ t r j Y L=>by
     show A.drop d (σ.t t)=_;rw[Y];exact A.oO (by simp only[A.fr,wC];rw[oQ (by rintro rfl;rw[O]at L;cases L)];rfl) }⟩
def UW{d:Nat}{C:fZ}{D:S}(h:nH σ d C some=some D):∃ (ps:aa Pt) (u:A),∀ σ,nH σ d C some=some ((oh (1000000000100000+1000*d) σ ps).set d u):=by
 unfold nH at h ⊢;split at h
 ·rename_i q;split at h
  next y E=>exact⟨[q],y,λσ=>rfl⟩
  ·cases h
 ·exact⟨_,_,λσ=>rfl⟩
theorem abu{f d:Nat}{c:iR}{O:S}{ev:S->(X:Type)->(aa Pt->aj X)->aj X}(T:o.dst=some d)(E:∀ n,1000000000100000+1000*d<=n->eR o n=true)(Y:∀ n,eR o n=true->p n=true/\pb n=true)(Z:iu P f c)(C:cI (ev σ))
  (Uw:∀σ2:S,(∀x∈o.op.operands,aK σ2 x=aK σ x)->σ2.m=σ.m->∀(X:Type) (k:aa Pt->aj X),ev σ2 X k=ev σ X k) (eO:∀σ2,dB P N Φ σ2 o some=sx N σ2 d c (ev σ2 S) some) (h:sx N σ d c (ev σ S) some=some O):Nonempty (rA P N Φ o p pb σ O):=by
 obtain⟨res,sq,D,I,h3⟩:=MS Z C h;injection I with I;subst I;obtain⟨ps,u,U⟩:=UW D;have L:∀n,1000000000100000+1000*d<=n->p n=true/\pb n=true:=λn C=>Y n (E n C)
 rw[U]at D;injection D with D;exact⟨{ G:=λσ=>oh (1000000000100000+1000*d) σ ps,u:=u,eq:=by rw[T];exact D.symm,run:=λσ2 sH hm=>by rw[eO,T];exact(h3 σ2 _ _ (Uw σ2 sH hm) (U σ2)).at_ _,grow:=λσ=>Hy ps _ σ L,set:=λσ e v hv=>Um v ps _ σ λn C=>A.Bq hv (L n C).1 (L n C).2,bp:=λ_ σ t r j ht hr=>(Hy (p:=eR o) (pb:=eR o) ps _ σ (λn C=>⟨E n C,E n C⟩)).bp ht hr }⟩
theorem aoi[Inhabited Wd](dQ:fL P Φ){τ:S}(E:M6 Φ o.op=true)(Z:∀ n,eR o n=true->p n=true/\pb n=true)(h:dB P N Φ σ o some=some τ):Nonempty (rA P N Φ o p pb σ τ):=by
 have h0:=h;unfold dB at h;cases hv:fM o.op with
 | true=>
  rw[hv,aq]at h;obtain⟨v,I,D,_⟩:=UK (w0:=default) (N:=N) h;obtain⟨O,h3⟩:=sG I;injection O with O
  refine⟨{ G:=λσ=>σ,u:=v,eq:=O.symm,run:=λσ2 C hm=>?_,grow:=.refl,set:=λ_ _ _ _=>rfl,bp:=λ_ _ _ _ _ h _=>h }⟩
  unfold dB;rw[hv,aq,abk o.op hm C];refine(D.at_ _).trans ?_;exact(h3 σ2).at_ _
 | false=>
  rw[hv,au]at h;have Y:∀σ2,dB P N Φ σ2 o some=iy P N Φ σ2 o some:=λσ2=>by unfold dB;rw[hv,au]
  unfold iy at h Y;unfold M6 at E;rw[hv,Bool.false_or]at E;split at h
  ·rename_i e C;obtain⟨d,D,h⟩:=jG h;obtain⟨x,y,I,_,O⟩:=ani h;injection I with I;have T:eR o d=true:=by unfold eR;rw[D,C];exact Nat.beq_refl d
   refine rA.new D (Z d T) T x y I.symm λσ2 _=>?_
   rw[Y,C];simp only[gD,D];exact(O σ2).at_ _
  ·rename_i e x C;obtain⟨d,D,h⟩:=jG h;obtain⟨y,u,I,O⟩:=ann h;injection I with I;have T:eR o d=true:=by unfold eR;rw[D,C];exact Nat.beq_refl d
   refine rA.new D (Z d T) T _ _ I.symm λσ2 L=>?_
   rw[Y,C];simp only[gD,D];rw[L x (by rw[C];simp[Op.operands])];exact(O σ2).at_ _
  ·rename_i t len parts C;obtain⟨d,D,h⟩:=jG h;have T:eR o d=true:=by unfold eR;rw[D,C];exact Nat.beq_refl d
   cases hn:qb t with
   | true=>
    rw[hn,aq]at h;obtain⟨y,u,I,O⟩:=anq h;injection I with I
    refine rA.new D (Z d T) T _ _ I.symm λσ2 L=>?_
    rw[Y,C];simp only[gD,D,hn,aq]
    refine(O σ2 λq hq=>L _ ?_).at_ _
    rw[C];simp only[Op.operands];exact List.mem_toArray.2 (List.mem_map_of_mem (f:=(·.2)) hq)
   | false=>
    rw[hn,au]at h;obtain⟨y,I,O⟩:=aaW h;injection I with I
    refine rA.new D (Z d T) T _ _ I.symm λσ2 L=>?_
    rw[Y,C];simp only[gD,D,hn,au]
    refine(O σ2 λq hq=>L _ ?_).at_ _
    rw[C];simp only[Op.operands];exact List.mem_toArray.2 (List.mem_map_of_mem (f:=(·.2)) hq)
  next t x y C=>rw[C]at E;cases E
  ·rename_i t l c C;obtain⟨d,D,h⟩:=jG h;obtain⟨y,I,O⟩:=aaV h;injection I with I;have T:eR o d=true:=by unfold eR;rw[D,C];exact Nat.beq_refl d
   refine rA.new D (Z d T) T _ _ I.symm λσ2 L=>?_
   rw[Y,C];simp only[gD,D];rw[L l (by rw[C];simp[Op.operands]),L c (by rw[C];simp[Op.operands])];exact(O σ2).at_ _
  ·rename_i f args jE C;have abv:∀ σ2:S,(∀ x∈o.op.operands,aK σ2 x=aK σ x)->∀ x∈args.toList,aK σ2 x=aK σ x:=λσ2 L x hx=>L x (by
    rw[C];simp only[Op.operands,Call.operands,Array.mem_append]
    first
     |exact .inr (by simpa using hx)
     |exact .inl (by simpa using hx))
   have nm:∀d,o.dst=some d->∀n,1000000000100000+1000*d<=n->eR o n=true:=λd D n hn=>by unfold eR;rw[D,C];exact iM hn
   split at h
   next c U=>obtain⟨d,D,h⟩:=jG h;exact abu D (nm d D) Z (Hx dQ U) (ev:=λσ X k=>su σ args.toList k) DW (λσ2 L hm X k=>an7 hm _ _ (abv σ2 L)) (λσ2=>by rw[Y,C];simp only[U,gD,D];rfl) h
   iterate 5 (rename_i c U;rw[C]at E;simp[U]at E)
   next c U=>obtain⟨d,D,h⟩:=jG h;exact abu D (nm d D) Z (qOK dQ U) (ev:=λσ X k=>Bi σ args.toList k) aa0 (λσ2 L hm X k=>an9 hm _ _ (abv σ2 L)) (λσ2=>by rw[Y,C];simp only[U,gD,D];rfl) h
   next c U=>rw[C]at E;simp[U]at E
   ·cases h
  next x y t t' C=>rw[C]at E;cases E
  next t C=>rw[C]at E;cases E
  next t x i C=>rw[C]at E;cases E
  next t x i v C=>rw[C]at E;cases E
  next t args jE C=>rw[C]at E;cases E
  next f abi C=>rw[C]at E;cases E
  next x t C=>rw[C]at E;cases E
  ·cases h
def abw(C:fL P Φ){ops:Array Oper}:cI λX k=>dy (X:=X) P N Φ ops σ o k:=λX Y k g=>by
 unfold dy;split
 ·exact abt C _ _ _ _
 ·exact wZ _ _ _ _
 ·rfl
theorem UX[Inhabited Wd](D:fL P Φ){ops:Array Oper}{k:S->aj X}(h:dy P N Φ ops σ o k=some r):∃ C,k C=some r/\dy P N Φ ops σ o some=some C:=
 let ⟨C,E,I⟩:=(abw D).lX h
 ⟨C,E,I S some⟩
def UY{ops:Array Oper}{b:Bool}(h:fX σ ops o=some b):∀ g c t,o.guard=some (g,c) -> (ops[g]?).bind (·.dst)=some t -> (σ.t t).ov p pb=true:=by
 intro g c t C D;unfold fX at h;rw[C]at h;simp[D]at h;split at h
 next hb=>rw[hb];rfl
 next hb=>rw[hb];rfl
 ·cases h
def D1{ops:Array Oper}{d:Nat}(h:d ∉ o.looksAt ops)(v:A){x:Operand}(C:x∈o.op.operands):aK (σ.set d v) x=aK σ x:=by
 cases x with
 | tmp t=>
  have:t≠d:=by
   rintro rfl;exact h (List.mem_append_left _ (List.mem_filterMap.2 ⟨.tmp t,by simpa using C,rfl⟩))
  exact cH _ _ _ this
 |_=>rfl
def UZ{ops:Array Oper}{d:Nat}(h:d ∉ o.looksAt ops)(v:A):∀ g b t,o.guard=some (g,b) -> (ops[g]?).bind (·.dst)=some t -> (σ.set d v).t t=σ.t t:=by
 intro g b t C D;have:t≠d:=by
  rintro rfl;refine h (List.mem_append_right _ ?_);simp_all
 exact cH _ _ _ this
def mN(P:Program)(ops:Array Oper)(C:Oper)(p pb:Nat->Bool)(v:A)(σ:S):Prop:=
 (fX σ ops C=some true/\fM C.op=true/\mF (λX k=>mJ (X:=X) P σ C.op k) v/\(∀y∈C.op.operands,(aK σ y).ov p pb=true)/\v.ov p pb=true/\∀t y r j,C.op = .load t y->aK σ y = .aG r j->p r=false)\/(fX σ ops C=some false/\v = .skip)
def mN.grow{ops:Array Oper}{T:Oper}{v:A}(h:mN P ops T p pb v σ){U:S}(C:gO p pb σ U):mN P ops T p pb v U:=by
 rcases h with ⟨D,I,h3,E,Y,Z⟩|⟨D,I⟩
 ·refine .inl ⟨?_,I,C.val h3 E Y Z,λy hy=>?_,Y,λt y r j e h=>?_⟩
  ·rw[zq λg b t L O=>C.t (UY D g b t L O)];exact D
  ·rw[C.UT (E y hy)];exact E y hy
  ·exact Z t y r j e (by rw[<-C.UT (E y (by rw[e];simp[Op.operands]))];exact h)
 ·refine .inr ⟨?_,I⟩;rw[zq λg b t L O=>C.t (UY D g b t L O)];exact D
def mN.set{ops:Array Oper}{D:Oper}{v u:A}(h:mN P ops D p pb v σ){d:Nat}(C:d ∉ D.looksAt ops):mN P ops D p pb v (σ.set d u):=by
 rcases h with ⟨E,I,O,T,U,Y⟩|⟨E,I⟩
 ·refine .inl ⟨?_,I,λX k=>?_,λy L=>?_,U,λt y r j e h=>?_⟩
  ·rw[zq (UZ C u)];exact E
  ·exact(abk (σ:=σ) (σ2:=σ.set d u) D.op rfl (λx Z=>D1 C u Z) k).trans (O.at_ k)
  ·rw[D1 C u L];exact T y L
  ·exact Y t y r j e (by rw[<-D1 C u (by rw[e];simp[Op.operands])];exact h)
 ·refine .inr ⟨?_,I⟩;rw[zq (UZ C u)];exact E
def mN.put{ops:Array Oper}{C:Oper}{v u:A}(h:mN P ops C p pb v σ){D:aj Tmp}(E:∀ d,D=some d->d ∉ C.looksAt ops):mN P ops C p pb v (gj σ D u):=by
 cases D with
 |none=>exact h
 |some d=>exact h.set (E d rfl)
def mN.nr{ops:Array Oper}{C:Oper}{v:A}(h:mN P ops C p pb v σ):v.ov p pb=true:=by
 rcases h with ⟨_,_,_,_,D,_⟩|⟨_,E⟩
 ·exact D
 ·rw[E];rfl
def abx{x y:aj Tmp}(v u:A)(h:∀ d,x=some d->y≠some d):gj (gj σ x v) y u=gj (gj σ y u) x v:=by
 cases x with
 |none=>rfl
 | some d=>cases y with
  |none=>rfl
  |some e=>exact S.set_set (λC=>h d rfl (bq some C)) v u
def aoj(x:aj Tmp)(v:A):(gj σ x v).m=σ.m:=by cases x<;>rfl
def Nd{ops:Array Oper}{C:aj Tmp}(h:∀ d,C=some d->d ∉ o.looksAt ops)(v:A){x:Operand}(D:x∈o.op.operands):aK (gj σ C v) x=aK σ x:=by
 cases C with
 |none=>rfl
 |some d=>exact D1 (h d rfl) v D
def aok{ops:Array Oper}{C:aj Tmp}(h:∀ d,C=some d->d ∉ o.looksAt ops)(v:A):fX (gj σ C v) ops o=fX σ ops o:=by
 cases C with
 |none=>rfl
 |some d=>exact zq (UZ (h d rfl) v)
/-! Calls that write blocks alone. -/
def aby{σ2:S}(C:σ2.m=σ.m)(ns:aa Nat):∀ (xs:aa Lf) (k:aa V -> aj X),sA σ2 ns xs k=sA σ ns xs k
 |[],k=>rfl
 | x :: xs,k=>by
  simp[sA,UM C];congr 2;funext y;exact aby C ns xs _
def aol{σ2:S}(C:σ2.m=σ.m)(ns:aa Nat)(x:A)(k:Pt->aj X):rj σ2 ns x k=rj σ ns x k:=by
 unfold rj;split<;>simp only[aby C,C]
def aom{σ2:S}(C:σ2.m=σ.m)(p:PK)(x:A):ve σ2 p x=ve σ p x:=by
 cases p<;>simp only[ve,C]
def abz{σ2:S}(C:σ2.m=σ.m):∀ (ps:aa PK) (xs:aa Operand),(∀ x∈xs,aK σ2 x=aK σ x)->jr σ2 ps xs=jr σ ps xs
 |[],[],_=>rfl
 |[],_::_,_=>rfl
 |_::_,[],_=>rfl
 | p :: ps,x :: xs,h=>by
  simp only[jr];rw[h x (.head _),aom C,abz C ps xs (λy D=>h y (.tail _ D))]
def Nf{σ2:S}(E:σ2.m=σ.m)(ns:aa Nat):∀ (ps:aa PK) (xs:aa Operand) (C:aa Mu) (k:lE ps->aj X),(∀ x∈xs,aK σ2 x=aK σ x)->js σ2 ns ps xs C k=js σ ns ps xs C k
 |[],[],[],k,_=>rfl
 | .v b t :: ps,x :: xs,C,k,h=>by
  simp only[js];rw[h x (.head _),aol E];congr 1;funext p;congr 1;split
  ·exact Nf E ns ps xs C _ (λy D=>h y (.tail _ D))
  ·rfl
 | .p t g off :: ps,x :: xs,.aC I cs L :: C,k,h=>by
  simp only[js];split
  ·exact Nf E ns ps xs C _ (λy D=>h y (.tail _ D))
  ·rfl
 | .s t g :: ps,x :: xs,.sl q O :: C,k,h=>by
  simp only[js];split
  ·exact Nf E ns ps xs C _ (λy D=>h y (.tail _ D))
  ·rfl
 |[],[],_::_,k,_=>rfl
 |[],_::_,_,k,_=>rfl
 |.v _ _::_,[],_,k,_=>rfl
 |.p _ _ _::_,[],_,k,_=>rfl
 |.s _ _::_,[],_,k,_=>rfl
 |.p _ _ _::_,_::_,[],k,_=>rfl
 |.s _ _::_,_::_,[],k,_=>rfl
 |.p _ _ _::_,_::_,.sl _ _::_,k,_=>rfl
 |.s _ _::_,_::_,.aC _ _ _::_,k,_=>rfl
def aon{m:Nat -> aj aW}{l:Lf}{v:V}{q:Nat}(h:vc m l=some (v,some q)):v.aH=false:=by
 unfold vc at h
 grind
def abA{m:Nat->aj aW}:∀ {cs:aa Lf} {C:aa (V×aj Nat)},ri m cs=some C->(∀ v∈C,v.1.aH=true)->∀ v∈C,v.2=none
 |[],C,h,_=>by injection h with h;subst h;simp
 | c :: cs,C,h,D=>by
  unfold ri at h;split at h
  ·rename_i v O E I;injection h with h;subst h;intro u hu;rcases gn.1 hu with rfl | hu
   ·obtain⟨x,q⟩:=u;cases q with
    |none=>rfl
    |some q=>have:=aon E;rw[D _ (.head _)]at this;cases this
   ·exact abA I (λv L=>D v (.tail _ L)) u hu
  ·cases h
def abC{i:Nat}:∀ (C:aa (V×aj Nat)) (j:Nat),(∀ v∈C,v.2=none) -> DL i j C=[]
 |[],_,_=>rfl
 | (x,q) :: C,j,h=>by
  have:=h _ (.head _);subst this;exact abC C _ (λv D=>h v (.tail _ D))
def U0:∀ (C:aa Nat) (xs:aa V),(∀ x∈xs,x.aH=true)->vh C xs=[]/\tL C xs=[]
 |[],[],_=>⟨rfl,rfl⟩
 |[],_::_,_=>⟨rfl,rfl⟩
 |_::_,[],_=>⟨rfl,rfl⟩
 | n :: C,x :: xs,h=>by
  simp only[vh,tL,h x (.head _),aq];exact U0 C xs (λx D=>h x (.tail _ D))
def D2(ps:aa PK):Bool:=ps.all λp=>match p with
 |.v _ _=>true
 |.p _ g _=>Nat.beq g 0
 |.s _ _=>false
def U1{ns:aa Nat}:∀ (ps:aa PK) (xs:aa Operand) (D:aa Mu) (k:lE ps->aj X),D2 ps=true->jr σ ps xs=some D->js σ ns ps xs D k=some r->∀ (i E c0:Nat) (y:q9 (eF ps)),
  (∀p∈lF i D,p.1∈iJ σ ps xs)/\nL c0 E D (iS (eF ps) y)=[]/\∀(Y cn:aa Nat),∀p∈lG Y cn c0 E D (iS (eF ps) y),p.1∈iJ σ ps xs
 | [],[],D,k,_,C,h=>by
  injection C with C;subst C;intro i E c0 y;exact⟨(λp hp=>by cases hp),by simp[nL],(λ_ _ p hp=>by simp[lG]at hp)⟩
 | .v b t :: ps,x :: xs,D,k,T,C,h=>by
  have sn:jr σ ps xs=some D:=by
   unfold jr at C;split at C
   next mu U I L=>exact(vg I).elim
   next U I L=>rw[L];exact C
   ·cases C
  have sk:D2 ps=true:=by simpa [D2]using T
  unfold js at h;obtain⟨p,L,_⟩:=aa7.lX h;cases hb:p.1==b with
  |false=>rw[hb]at L;cases L
  | true=>
   rw[hb,aq]at L;split at L
   ·intro i E c0 y;exact U1 ps xs D _ sk sn L i E c0 y
   ·cases L
 | .p t g off :: ps,x :: xs,D,k,T,C,h=>by
  unfold jr at C;split at C
  ·rename_i mu U I L;injection C with C;subst C;have I:=vg I;cases mu with
   |sl=>exact I.elim
   | aC Z cs O=>
    have I:aK σ x = .aG Z off/\ze σ (.aC Z cs O):=I;have T:Nat.beq g 0=true/\D2 ps=true:=by simpa [D2]using T
    have hg:=cC T.1;subst hg;unfold js at h;split at h
    ·rename_i z hz;have hz:dec t 0 (O.map (·.1))=some z:=hz;have hw:=lU t 0 _ z hz;have U2:∀ v∈O,v.1.aH=true:=by
      intro v hv;obtain⟨j,hj⟩:=List.mem_iff_getElem?.1 hv;have Ng:(O.map (·.1))[j]?=some v.1:=by rw[eH,hj];rfl
      have wF:j<(enc t 0 z).length:=by rw[<-hw.1];exact(dO.1 Ng).1
      have hk:=hw.2 j _ _ Ng (bQ wF);have qe:=pV t 0 z (by omega) j _ (bQ wF);cases U2:v.1.aH with
      |true=>rfl
      |false=>rw[hk.TW U2]at qe;cases qe
     have hn:=abA I.2.2.1 U2;intro i E c0 y;obtain⟨k1,k2,k3⟩:=U1 ps xs U _ T.2 L h (i+1) (E+1+O.length) c0 y.2;have hyf:∀ u∈enc t 0 y.1,u.aH=true:=by
      intro u hu;obtain⟨j,hj⟩:=List.mem_iff_getElem?.1 hu;exact pV t 0 y.1 (by omega) j u hj
     have Bt:iJ σ (.p t 0 off::ps) (x::xs)=Z::iJ σ ps xs:=by simp only[iJ,I.1]
     rw[Bt]
     refine⟨λp hp=>?_,?_,λY cn p hp=>?_⟩
     ·simp only[lF,abC O 0 hn,kY]at hp;rcases gn.1 hp with rfl | hp
      ·exact .head _
      ·exact .tail _ (k1 p hp)
     ·show vh (mH c0 (E+1) O) (enc t 0 y.1)++nL c0 (E+1+O.length) U (iS (eF ps) y.2)=[]
      rw[(U0 _ _ hyf).1,k2];rfl
     ·have hp:p∈(Z,aW.aC (pg Y cn (mH c0 (E+1) O) cs (enc t 0 y.1))) :: (tL (mH c0 (E+1) O) (enc t 0 y.1)++lG Y cn c0 (E+1+O.length) U (iS (eF ps) y.2)):=hp;rw[(U0 _ _ hyf).2,kY]at hp;rcases gn.1 hp with rfl | hp
      ·exact .head _
      ·exact .tail _ (k3 Y cn p hp)
    ·cases h
  next U I L=>exact(vg I).elim
  ·cases C
 |.s t g::ps,x::xs,D,k,T,C,h=>by simp[D2]at T
 |[],_::_,D,k,_,C,h=>by cases C
 |_::_,[],D,k,_,C,h=>by cases C
def S.U3{ns:aa Nat}{nr:aa (Nat×aW)}(v:A)(h:v.dh ns []=v):(σ.set d v).dh ns [] nr=(σ.dh ns [] nr).set d v:=by
 refine S.ext' (λk=>?_) λ_=>rfl
 show (bV σ.t d v k).dh ns []=bV (λk=>(σ.t k).dh ns []) d v k;by_cases C:k=d
 ·subst C;rw[cc,cc];exact h
 ·rw[cH _ _ _ C,cH _ _ _ C]
def Nh{n:Nat}{x:aW}:∀ {l:aa (Nat×aW)},l.lookup n=some x -> (n,x)∈l
 |[],h=>by cases h
 | q :: l,h=>by
  rw[List.lookup_cons]at h;cases hb:n==q.1 with
  |true =>grind
  |false=>rw[hb]at h;exact .tail _ (Nh h)
theorem aoo{τ:S}{f:Nat}{args:Array Operand}{jE:Array TypeId}{c:nK}(Y:o.op = .call { callee:=.value (.func f),args,argTypes:=jE })(hc:Φ f=some (.m c))(hfl:M7 c=true)(hp:∀ n,eR o n=true->p n=true/\pb n=true)(zi:∀ n∈iJ σ c.ps args.toList,p n=true)
  (h:dB P N Φ σ o some=some τ):Nonempty (rA P N Φ o p pb σ τ):=by
 have eO:∀ σ2,dB P N Φ σ2 o some=oq N σ2 o.dst c args.toList some:=by
  intro σ2;unfold dB;rw[show fM o.op=false by rw[Y];rfl,au];simp only[iy,Y,hc]
 rw[eO]at h;have abD:∀ σ2:S,(∀ x∈o.op.operands,aK σ2 x=aK σ x)->∀ x∈args.toList,aK σ2 x=aK σ x:=by
  intro σ2 E x T;refine E x ?_;rw[Y];simp only[Op.operands,Call.operands];simp only[Array.mem_append]
  first
   |exact .inr (by simpa using T)
   |exact .inl (by simpa using T)
 unfold oq at h;split at h
 ·rename_i L tM;cases l7:(once (lF 0 L)&&Nat.ble L.length 40)with
  |false=>rw[l7]at h;cases h
  | true=>
   rw[l7,aq]at h;have aop:=U1 c.ps args.toList L _ hfl tM h;obtain⟨x,C,hd⟩:=(MY _ _ _).lX h;split at C
   ·rename_i y hy;obtain⟨k1,k2,k3⟩:=aop 0 (eS c.ro y.1).len (iw o.dst) y.2;unfold DO at C;rw[k2]at C;generalize iT:DN N L (iS (eF c.ps) y.2) []=ok at C;cases ok with
    |false=>cases C
    | true=>
     rw[aq]at C;generalize A4:(lF 0 L).map (·.1)=ns at C hd;generalize G1:lG ns [] (iw o.dst) (eS c.ro y.1).len L (iS (eF c.ps) y.2)=nr at C;have Z:UP p ns nr:=by
      refine⟨λn D=>?_,λn x T=>?_⟩
      ·rw[<-A4]at D;obtain⟨q,hq,e⟩:=List.mem_map.1 (tG.1 D);rw[<-e];exact zi _ (k1 q hq)
      ·rw[<-G1]at T;exact zi _ (k3 ns [] _ (Nh T))
     have pz:∀ σ2:S,(∀ x∈o.op.operands,aK σ2 x=aK σ x)->σ2.m=σ.m->oq N σ2 o.dst c args.toList some=p7 N (σ2.dh ns [] nr) o.dst (eS c.ro y.1) some:=by
      intro σ2 E O;simp only[oq];rw[abz O _ _ (abD σ2 E),tM];simp only[l7,aq];rw[A4,Nf O _ _ _ _ _ (abD σ2 E)];refine(hd S _).trans ?_;simp only[hy,DO,k2,iT,aq,G1]
     have bp0:∀ (σ:S) t r j,σ.t t = .aG r j->(σ.dh ns [] nr).t t = .aG r j:=by
      intro σ t r j U;show A.dh ns [] (σ.t t)=_;rw[U];rfl
     generalize jZ:eS c.ro y.1=res at C pz;cases I:o.dst with
     | none=>
      rw[I]at C;have C:some (σ.dh ns [] nr)=some τ:=C;injection C with C;exact⟨{ G:=λσ=>σ.dh ns [] nr,u:=.undef,eq:=by rw[I];exact C.symm,run:=λσ2 E O=>by rw[eO,pz σ2 E O,I];rfl,grow:=λσ=>.dh ns nr Z (.refl σ),set:=λσ e v hv=>S.U3 v (A.US hv Z.ns),bp:=λ_ σ t r j U _=>bp0 σ t r j U }⟩
     | some d=>
      rw[I]at C;have l6:∀n,1000000000100000+1000*d<=n->eR o n=true:=λn D=>by unfold eR;rw[I,Y];exact iM D
      have tR:∀n,1000000000100000+1000*d<=n->p n=true/\pb n=true:=λn D=>hp n (l6 n D)
      cases hN:Nat.blt d N with
      |false=>simp only[p7,hN,au]at C;cases C
      | true=>
       have e:∀σ,p7 N σ (some d) res some=nH σ d res some:=λσ=>by simp only[p7,hN,aq]
       rw[e]at C;obtain⟨ps,u,hG⟩:=UW C;rw[hG]at C;injection C with C;exact⟨{ G:=λσ=>oh (1000000000100000+1000*d) (σ.dh ns [] nr) ps,u:=u,eq:=by rw[I];exact C.symm,run:=λσ2 E O=>by rw[eO,pz σ2 E O,I,e,hG];rfl,grow:=λσ=>(gO.dh ns nr Z (.refl σ)).trans (Hy ps _ _ tR),set:=λσ e v hv=>by rw[S.U3 v (A.US hv Z.ns),Um v ps _ _ λn D=>A.Bq hv (tR n D).1 (tR n D).2],bp:=λ_ σ t r j U hr=>(Hy (p:=eR o) (pb:=eR o) ps _ _ (λn D=>⟨l6 n D,l6 n D⟩)).bp (bp0 σ t r j U) hr }⟩
   ·cases C
 ·cases h
def Calm(Φ:ep)(ok:Nat->Nat->Bool)(rB mK p pb:Nat->Bool)(σ:S)(o:Oper):Prop:=
 M6 Φ o.op=true\/(∃f args D c,o.op = .call { callee:=.value (.func f),args:=args,argTypes:=D }/\Φ f=some (.m c)/\M7 c=true/\sE ok σ c.ps args.toList=true/\∀n∈iJ σ c.ps args.toList,p n=true)\/
 (∃ty t y,o.op = .store ty (.tmp t) y/\o.dst=none/\rB t=true/\jH p (σ.t t))\/
 ∃x y t C,o.op = .call ⟨.builtin .append,⟨[.tmp x,y]⟩,⟨[t,C]⟩⟩/\mK x=true/\(qb t=false/\Nat.beq t C=true/\Bz o.dst t (.tmp x)=false)/\rz p pb (σ.t x)
theorem aoq{Y:S}{ty:TypeId}{t:Tmp}{y:Operand}(I:o.op = .store ty (.tmp t) y)(U:o.dst=none)(C:jH p (σ.t t))(h:dB P N Φ σ o some=some Y):Nonempty (rA P N Φ o p pb σ Y):=by
 have GY:∀ (x:A) (z:A),(∀ k,x ≠ .ptr k) -> w6 x z=false:=by
  intro x z E;unfold w6;split
  ·grind
  ·rfl
 have Z:∀ σ2:S,(∀ k,σ2.t t ≠ .ptr k) -> dB P N Φ σ2 o some=pY P σ2 ty (σ2.t t) (aK σ2 y) some:=by
  intro σ2 Ni;unfold dB;rw[show fM o.op=false by rw[I];rfl,au];simp only[iy,I,U];rw[show w6 (aK σ2 (.tmp t)) (aK σ2 y)=false from GY _ _ Ni,au];rfl
 rw[Z σ (λk L=>by rw[L]at C;exact C)]at h;cases E:σ.t t with
 | aG D j=>
  rw[E]at h C;have hp:p D=true:=C;have key:∃ x,∀ σ2:S,σ2.m=σ.m -> ∀ v,v=aK σ y -> pY P σ2 ty (.aG D j) v some=some (σ2.root D x):=by
   unfold pY at h;split at h
   ·rename_i n xs hn oU;split at h
    ·rename_i hlen;simp only at h;split at h
     ·rename_i cs jq;split at h
      ·rename_i hj;cases hl:xs.all Lf.live with
       |false=>grind
       | true=>
        refine⟨.aC (splice cs j xs),λσ2 O v hv=>?_⟩
        subst hv;simp only[pY,hn,oU,bH hlen,O,jq,bH hj,hl,aq];simp only[S.root,O]
      ·cases h
     ·cases h
    ·cases h
   ·cases h
  obtain⟨x,lY⟩:=key;have T:=lY σ rfl _ rfl;rw[h]at T;injection T with T
  refine⟨{ G:=λσ=>σ.root D x,u:=.undef,eq:=by rw[U];exact T,run:=λσ2 sH O=>?_,grow:=λσ=>.rt D x hp (.refl σ),set:=λσ d v hv=>rfl,bp:=λ_ σ t r j ht _=>ht }⟩
  have e1:σ2.t t = .aG D j:=(sH (.tmp t) (by rw[I];simp[Op.operands])).trans E;rw[Z σ2 (λk L=>by rw[e1]at L;cases L),e1,lY σ2 O _ (sH y (by rw[I];simp[Op.operands])),U];rfl
 |ptr k=>rw[E]at C;exact C.elim
 | _=>
  rw[E]at h;exfalso;revert h;unfold pY;split
  ·grind
  ·grind
def cJ(e:Nat)(x:aW)(u:A)(σ:S):S:=((σ.drop e).root e x).set e u
def mO(e:Nat)(u:A):Prop:=u = .aG e 0\/u = .lf (.own [e])
structure ki (x:aW):Prop where
 cF:∀K:nB,x.cF K=x
def ki.drop{x:aW}(h:ki x)(n:Nat):x.drop n=x:=h.cF _
def ki.dh{x:aW}(h:ki x)(ns cn:aa Nat):x.dh ns cn=x:=h.cF _
def ki.zero(C:aa Value):ki (.aC (C.map od)):=⟨λK=>bq aW.aC (qQ.oO (cu.2 λc D=>by
 obtain⟨v,_,rfl⟩:=List.mem_map.1 D;unfold od;split<;>rfl))⟩
def abE(h:vj o=true):∃ t,∃ e:Nat,o.op = .alloc t/\o.guard=none/\o.dst=some e/\e<20000:=by
 unfold vj at h;rw[aO,aO]at h;obtain⟨⟨C,E⟩,D⟩:=h;split at C
 ·rename_i t I;split at D
  ·simp_all
  ·cases D
 ·cases C
def aor{ops:Array Oper}{t:TypeId}{e:Nat}(D:o.op = .alloc t)(L:o.guard=none)(O:o.dst=some e){E:S}(h:dy P N Φ ops σ o some=some E):∃ x,ki x/\E=cJ e x (.aG e 0) σ/\∀ σ2,dy P N Φ ops σ2 o some=some (cJ e x (.aG e 0) σ2):=by
 have I:∀ σ2,dy P N Φ ops σ2 o some=qU P N σ2 e t some:=by
  intro σ2;unfold dy fX;rw[L];simp only;unfold dB;rw[show fM o.op=false by rw[D];rfl,au];simp only[iy,D,gD,O]
 rw[I]at h;unfold qU at h;split at h
 ·rename_i z T;unfold hD at h;cases C:Nat.blt e N with
  |false=>rw[C]at h;cases h
  | true=>
   rw[C,aq]at h;injection h with h
   refine⟨_,.zero _,h.symm,λσ2=>(I σ2).trans ?_⟩
   unfold qU hD;rw[T,C];rfl
 ·cases h
def Hz{σ2:S}:∀ (ps:aa PK) (xs:aa Operand),(∀ x∈xs,aK σ2 x=aK σ x) -> iJ σ2 ps xs=iJ σ ps xs
 |[],[],_=>rfl
 |[],_::_,_=>rfl
 |.v _ _::_,[],_=>rfl
 |.p _ _ _::_,[],_=>rfl
 |.s _ _::_,[],_=>rfl
 |.v _ _::ps,x::xs,h=>by simp[iJ];exact Hz ps xs (λy C=>h y (.tail _ C))
 |.s _ _::ps,x::xs,h=>by simp only[iJ];exact Hz ps xs (λy C=>h y (.tail _ C))
 | .p _ _ _ :: ps,x :: xs,h=>by
  simp only[iJ];rw[h x (.head _),Hz ps xs (λy C=>h y (.tail _ C))]
def U4{ok:Nat -> Nat -> Bool}{σ2:S}(D:∀ t r j,σ.t t = .aG r j -> ok t r=true -> σ2.t t = .aG r j):∀ (ps:aa PK) (xs:aa Operand),sE ok σ ps xs=true -> sE ok σ2 ps xs=true/\iJ σ2 ps xs=iJ σ ps xs
 |[],[],_=>⟨rfl,rfl⟩
 | .v _ _ :: ps,x :: xs,h=>by
  exact U4 D ps xs h
 | .p _ _ _ :: ps,x :: xs,h=>by
  cases x with
  | tmp t=>
   simp[sE,aO]at h;obtain⟨C,I⟩:=h;obtain⟨L,O⟩:=U4 D ps xs I;split at C
   ·rename_i T j E;have e:=D t T j E C;refine⟨?_,?_⟩
    ·simp only[sE,aO];exact⟨by rw[e];exact C,L⟩
    ·simp only[iJ,aK,e,E,O]
   ·cases C
  |const v=>simp[sE]at h
  |global g=>simp[sE]at h
  |func f=>simp[sE]at h
def Calm.ld{ok:Nat->Nat->Bool}{rB mK:Nat->Bool}{σ2:S}(h:Calm Φ ok rB mK p pb σ o)(L:∀ t r j,σ.t t = .aG r j->ok t r=true->σ2.t t = .aG r j)(O:∀ t,rB t=true->jH p (σ.t t)->jH p (σ2.t t))(T:∀ t,mK t=true->rz p pb (σ.t t)->rz p pb (σ2.t t)):Calm Φ ok rB mK p pb σ2 o:=by
 rcases h with h|⟨f,args,U,c,E,C,D,I,Y⟩|⟨ty,t,y,E,C,D,I⟩|⟨x,y,t,Z,E,C,hn,D⟩
 ·exact .inl h
 ·obtain⟨k1,k2⟩:=U4 L _ _ I;exact .inr (.inl ⟨f,args,U,c,E,C,D,k1,by rw[k2];exact Y⟩)
 ·exact .inr (.inr (.inl ⟨ty,t,y,E,C,D,O t D I⟩))
 ·exact .inr (.inr (.inr ⟨x,y,t,Z,E,C,hn,T x C D⟩))
def Nj{ops:Array Oper}(T:ou o=true)(U:fX σ ops o=some true){τ:S}(h:dy P N Φ ops σ o some=some τ):∃ (e:Nat) (x:aW) (u:A),o.dst=some e/\e<20000/\ki x/\mO e u/\τ=cJ e x u σ/\
  ∀σ2,fX σ2 ops o=some true->(∀y∈o.op.operands,aK σ2 y=aK σ y)->dy P N Φ ops σ2 o some=some (cJ e x u σ2):=by
 have Y:fM o.op=false->∀ σ2,fX σ2 ops o=some true->dy P N Φ ops σ2 o some=iy P N Φ σ2 o some:=by
  intro hv σ2 I;unfold dy;rw[I];simp only;unfold dB;rw[hv,au]
 have bsl:∀y:V,ki (.sl y):=λy=>⟨λ_=>rfl⟩
 unfold ou at T;rw[aO]at T;obtain⟨Z,zu⟩:=T;split at zu
 ·rename_i e D;have dU:e<20000:=cK zu;split at Z
  ·rename_i t C;have E:=Y (by rw[C];rfl);rw[E σ U]at h;simp only[iy,C,gD,D]at h;unfold qU at h;split at h
   ·rename_i z hz;unfold hD at h;cases hN:Nat.blt e N with
    |false=>rw[hN]at h;cases h
    | true=>
     rw[hN,aq]at h;injection h with h
     refine⟨e,.aC (z.cells.toList.map od),.aG e 0,D,dU,.zero _,.inl rfl,h.symm,λσ2 I _=>(E σ2 I).trans ?_⟩
     simp only[iy,C,gD,D];unfold qU hD;rw[hz,hN];rfl
   ·cases h
  ·rename_i t len parts C;have E:=Y (by rw[C];rfl);rw[E σ U]at h;have hn:qb t=false:=by simpa using Z
   simp only[iy,C,gD,D,hn,au]at h;obtain⟨y,L,h2⟩:=aaW h;injection L with L
   refine⟨e,.sl y,.lf (.own [e]),D,dU,bsl y,.inr rfl,L.symm,λσ2 I O=>(E σ2 I).trans ?_⟩
   simp only[iy,C,gD,D,hn,au]
   refine(h2 σ2 λq hq=>O _ ?_).at_ _
   rw[C];simp only[Op.operands];exact List.mem_toArray.2 (List.mem_map_of_mem (f:=(·.2)) hq)
  ·rename_i t l c C;have E:=Y (by rw[C];rfl);rw[E σ U]at h;simp only[iy,C,gD,D]at h;obtain⟨y,L,h2⟩:=aaV h;injection L with L
   refine⟨e,.sl y,.lf (.own [e]),D,dU,bsl y,.inr rfl,L.symm,λσ2 I O=>(E σ2 I).trans ?_⟩
   simp only[iy,C,gD,D];rw[O l (by rw[C];simp[Op.operands]),O c (by rw[C];simp[Op.operands])];exact(h2 σ2).at_ _
  ·cases Z
 ·cases zu
def Nk{d:Nat}{t:TypeId}{y z:A}{U:S}(h:tu P N σ d t y z some=some U):∃ (r:Nat) (v:V),U=((σ.drop r).root r (.sl v)).set d (.lf (.own [r]))/\(r=d\/y = .lf (.own [r]))/\
  ∀σ2:S,(∀(k:V->aj S),sj σ2 z k=sj σ z k)->(∀r v,y = .lf (.own [r])->σ.m r=some (.sl v)->σ2.m r=some (.sl v))->tu P N σ2 d t y z some=some (((σ2.drop r).root r (.sl v)).set d (.lf (.own [r]))):=by
 unfold tu at h;split at h
 ·rename_i e L Y;cases I:(Nat.beq (full L) 0&&(zeroOf P e).any (λz=>Nat.beq z.cells.size (aF L)))with
  |false=>rw[I]at h;cases h
  | true=>
   rw[I,aq]at h;obtain⟨yv,C,Z⟩:=Uh.lX h;clear h;split at C
   ·cases C
   ·rename_i l2 lA;split at C
    ·cases D:bD l2.length with
     |false=>rw[D]at C;cases C
     | true=>
      rw[D,aq]at C;cases O:Nat.blt d N with
      |false=>unfold hD at C;rw[O]at C;cases C
      | true=>
       have E:=C;unfold hD at E;rw[O,aq]at E;injection E with E
       refine⟨d,.sl L 2 false l2,E.symm,.inl rfl,λσ2 T zu=>?_⟩
       simp only[tu,Y,I,aq];refine(T _).trans ((Z.at_ _).trans ?_);simp only[lA,D,aq];unfold hD;rw[O,aq]
    ·rename_i rr;split at C
     ·rename_i t' o q l hm;split at C
      ·rename_i nE;cases D:(Nat.blt d N&&(Nat.blt rr N || Nat.ble 60000 rr)&&bD (l.length+l2.length))with
       |false=>rw[D]at C;cases C
       | true=>
        rw[D,aq]at C;injection C with C
        refine⟨rr,_,C.symm,.inr rfl,λσ2 T zu=>?_⟩
        simp only[tu,Y,I,aq];refine(T _).trans ((Z.at_ _).trans ?_);simp only[lA,zu rr _ rfl hm,aB nE,D,aq]
      ·cases C
     ·cases C
    ·cases C
 ·cases h
def U5(h:isApp o=true):∃ x y t C,o.op = .call ⟨.builtin .append,⟨[x,y]⟩,⟨[t,C]⟩⟩/\qb t=false/\Nat.beq t C=true/\Bz o.dst t x=false:=by
 unfold isApp at h
 grind
def HA{x y:Operand}{t D:TypeId}(E:o.op = .call ⟨.builtin .append,⟨[x,y]⟩,⟨[t,D]⟩⟩)(I:qb t=false)(L:Nat.beq t D=true)(C:Bz o.dst t x=false)(σ:S):dB P N Φ σ o some=gD o λd=>tu P N σ d t (aK σ x) (aK σ y) some:=by
 unfold dB;rw[show fM o.op=false by rw[E];rfl];simp[iy,E,I,L,aq];unfold gD;cases O:o.dst with
 |none=>rfl
 | some d=>
  rw[O]at C;have C:M5 t d x=false:=C;simp_all
theorem aos{T:S}{x:Tmp}{y:Operand}{t U:TypeId}(C:o.op = .call ⟨.builtin .append,⟨[.tmp x,y]⟩,⟨[t,U]⟩⟩)(E:qb t=false)(I:Nat.beq t U=true)(L:Bz o.dst t (.tmp x)=false)(hp:∀ n,eR o n=true->p n=true/\pb n=true)(jY:rz p pb (σ.t x))(h:dB P N Φ σ o some=some T):Nonempty (rA P N Φ o p pb σ T):=by
 rw[HA C E I L]at h;obtain⟨d,O,h⟩:=jG h;obtain⟨r,v,iU,hr,pz⟩:=Nk h;have D:p r=true/\pb r=true:=by
  rcases hr with hr|hr
  ·rw[hr];exact hp d (by unfold eR;rw[O,C];exact Nat.beq_refl d)
  ·exact jY r hr
 refine⟨{ G:=λσ=>(σ.drop r).root r (.sl v),u:=.lf (.own [r]),eq:=by rw[O];exact iU,run:=λσ2 Y Z=>?_,grow:=λσ=>.root r _ D.1 D.2 (.refl σ),set:=λσ e v' hv=>(by rw[S.drop_set r (A.Bq hv D.1 D.2)];rfl),bp:=λha=>(by rw[isApp,C]at ha;simp[E,I,L]at ha) }⟩
 rw[HA C E I L];unfold gD;rw[O];simp only;rw[Y (.tmp x) (by rw[C];simp[Op.operands,Call.operands]),Y y (by rw[C];simp[Op.operands,Call.operands]),pz σ2 (λk=>an6 Z _ k) (λr' v' _ h'=>by rw[Z];exact h')];rfl
theorem aot[Inhabited Wd](dQ:fL P Φ){ok:Nat->Nat->Bool}{rB mK mL:Nat->Bool}(hX:∀ x,mL x=true->jH p (σ.t x)){ops:Array Oper}{oi D:Oper}{v:A}{τ:S}(hF:mN P ops oi p pb v σ)(ha:oi.apart ops D=true)(L:Calm Φ ok rB mK p pb σ D)(hp:∀ n,eR D n=true->p n=true/\pb n=true)
  (h:dy P N Φ ops (gj σ oi.dst v) D some=some τ):∃ T,dy P N Φ ops σ D some=some T/\τ=gj T oi.dst v/\mN P ops oi p pb v T/\(isApp D=false->∀ t r j,σ.t t = .aG r j->D.dst≠some t->eR D r=false->T.t t = .aG r j)/\
   (∀t,jH p (σ.t t)->(D.dst≠some t\/(vj D=true/\p t=true)\/∃s x f,D.op = .fieldAddr s (.tmp x) f/\mL x=true)->jH p (T.t t))/\
   ∀t,rz p pb (σ.t t)->(D.dst≠some t\/(ou D=true/\p t=true/\pb t=true)\/(isApp D=true\/zp Φ D=true))->rz p pb (T.t t):=by
 obtain⟨a1,a2,a3⟩:=Oper.apart_spec ha;have D3:∀ (σ:S) (u:A) t,D.dst≠some t->(gj σ D.dst u).t t=σ.t t:=by
  intro σ u t L;cases O:D.dst with
  |none=>rfl
  |some d=>exact cH _ _ _ (by rintro rfl;exact L O)
 have D4:∀ T,dy P N Φ ops σ D some=some T->∀ t,vj D=true->D.dst=some t->p t=true->jH p (T.t t):=by
  intro T C t D4 O Ux;obtain⟨ty,e,E,U,h3,_⟩:=abE D4;rw[h3]at O;injection O with O;subst O;obtain⟨x,_,e1,_⟩:=aor E U h3 C;rw[e1];show jH p (bV _ e (.aG e 0) e);rw[cc];exact Ux
 have fin:∀ T,dy P N Φ ops σ D some=some T->(∀ t,D.dst≠some t->jH p (σ.t t)->jH p (T.t t))->∀ t,jH p (σ.t t)->(D.dst≠some t\/(vj D=true/\p t=true)\/∃ s x f,D.op = .fieldAddr s (.tmp x) f/\mL x=true)->jH p (T.t t):=by
  intro T C hk t L U6;rcases U6 with cL|⟨E,U⟩|⟨s,x,f,E,U⟩
  ·exact hk t cL L
  ·by_cases O:D.dst=some t
   ·exact D4 T C t E O U
   ·exact hk t O L
  ·by_cases O:D.dst=some t
   ·unfold dy at C;split at C
    ·unfold dB at C;rw[show fM D.op=true by rw[E];rfl,aq]at C;rw[E]at C;simp only[mJ]at C;have hx:=hX x U;have hx:jH p (aK σ (.tmp x)):=hx;generalize aK σ (.tmp x)=z at hx C;have key:∀ v,gY N σ D.dst v some=some T->jH p v->jH p (T.t t):=by
      intro v hv hA;obtain⟨I,_⟩:=sG hv;injection I with I;rw[<-I,O];show jH p (bV σ.t t v t);rw[cc];exact hA
     unfold Ds at C;split at C
     ·cases C
     ·split at C
      ·split at C
       ·exact key _ C hx
       ·exact key _ C trivial
       ·exact hx.elim
       ·cases C
      ·cases C
    ·obtain⟨I,_⟩:=sG C;injection I with I;rw[<-I,O];show jH p (bV σ.t t .skip t);rw[cc];trivial
    ·cases C
   ·exact hk t O L
 have aou:=L;have abF:∀ T,dy P N Φ ops σ D some=some T->(∀ t,D.dst≠some t->rz p pb (σ.t t)->rz p pb (T.t t))->∀ t,rz p pb (σ.t t)->(D.dst≠some t\/(ou D=true/\p t=true/\pb t=true)\/(isApp D=true\/zp Φ D=true))->rz p pb (T.t t):=by
  intro T C hk t L U6;rcases U6 with cL|⟨E,U⟩|aov|BF
  ·exact hk t cL L
  ·by_cases O:D.dst=some t
   ·cases hw:fX σ ops D with
    |none=>unfold dy at C;rw[hw]at C;cases C
    | some b=>
     cases b with
     | true=>
      obtain⟨e,x,u,I,g2,g3,g4,g5,_⟩:=Nj E hw C;rw[O]at I;injection I with I;subst I;rw[g5];intro r hr;have hr:bV _ t u t = .lf (.own [r]):=hr;rw[cc]at hr;rcases g4 with g4|g4
      ·rw[g4]at hr;cases hr
      ·rw[g4]at hr;injection hr with hr;injection hr with hr;injection hr with hr;subst hr;exact U
     | false=>
      unfold dy at C;rw[hw]at C;obtain⟨I,_⟩:=sG C;injection I with I;rw[<-I,O];intro r hr;have hr:bV σ.t t .skip t = .lf (.own [r]):=hr;rw[cc]at hr;cases hr
   ·exact hk t O L
  ·by_cases O:D.dst=some t
   ·obtain⟨x,y,t1,t2,I,g2,g3,g4⟩:=U5 aov;have hT:rz p pb (aK σ x):=by
     rcases aou with q|⟨f,args,jE,c,Z,_⟩|⟨ty,tt,yy,Z,_⟩|⟨x',y',t1',t2',Z,q2,q3,q4⟩
     ·rw[I]at q;cases q
     ·rw[I]at Z;cases Z
     ·rw[I]at Z;cases Z
     ·rw[I]at Z;injection Z with Z;injection Z with _ Z _;injection Z with Z;injection Z with Z _;subst Z;exact q4
    cases hw:fX σ ops D with
    |none=>unfold dy at C;rw[hw]at C;cases C
    | some b=>
     cases b with
     | true=>
      unfold dy at C;rw[hw]at C;have C:dB P N Φ σ D some=some T:=C;rw[HA I g2 g3 g4]at C;obtain⟨d,tT,C⟩:=jG C;rw[O]at tT;injection tT with tT;subst tT;obtain⟨r,v,iU,hr,_⟩:=Nk C;rw[iU];intro r' fG;have fG:bV ((σ.drop r).root r (.sl v)).t t (.lf (.own [r])) t = .lf (.own [r']):=fG;rw[cc]at fG;injection fG with fG;injection fG with fG;injection fG with fG;subst fG;rcases hr with hr|hr
      ·rw[hr];exact hp t (by unfold eR;rw[O,I];exact Nat.beq_refl t)
      ·exact hT r hr
     | false=>
      unfold dy at C;rw[hw]at C;obtain⟨I,_⟩:=sG C;injection I with I;rw[<-I,O];intro r hr;have hr:bV σ.t t .skip t = .lf (.own [r]):=hr;rw[cc]at hr;cases hr
   ·exact hk t O L
  ·by_cases O:D.dst=some t
   ·cases hw:fX σ ops D with
    |none=>unfold dy at C;rw[hw]at C;cases C
    | some b=>
     cases b with
     | true=>
      unfold dy at C;rw[hw]at C;have C:dB P N Φ σ D some=some T:=C;unfold zp at BF;split at BF
      ·rename_i f args jE ho;split at BF
       ·rename_i c hc;unfold dB at C;rw[show fM D.op=false by rw[ho];rfl,au]at C;simp only[iy,ho,hc]at C;obtain⟨d,tT,C⟩:=jG C;rw[O]at tT;injection tT with tT;subst tT;obtain⟨res,sq,E,U,_⟩:=MS (Hx dQ hc) DW C;injection U with U;subst U;have l6:∀ n,1000000000100000+1000*t<=n->p n=true/\pb n=true:=λn hn=>hp n (by unfold eR;rw[O,ho];exact iM hn)
        intro r hr;unfold nH at E;cases res with
        | one q=>
         simp only at E;split at E
         ·rename_i y Y;injection E with E;rw[<-E]at hr;have hr:bV _ t y t=A.lf (Lf.own [r]):=hr;rw[cc]at hr;subst hr;obtain⟨b,vs⟩:=q;cases b with
          |true=>cases Y
          | false=>
           match vs,Y with
           | [v],Y=>
            have Y:some (A.lf (bif v.aH then Lf.v v else Lf.own [1000000000100000+1000*t]))=some (A.lf (Lf.own [r])):=Y;injection Y with Y;injection Y with Y;cases hf:v.aH with
            |true=>rw[hf]at Y;cases Y
            | false=>
             rw[hf]at Y;injection Y with Y;injection Y with Y;subst Y;exact l6 _ (dx _)
         ·cases E
        | eV ps=>
         injection E with E;rw[<-E]at hr;have hr:bV _ t _ t=A.lf (Lf.own [r]):=hr;rw[cc]at hr;cases hr
       ·cases BF
      ·cases BF
     | false=>
      unfold dy at C;rw[hw]at C;obtain⟨I,_⟩:=sG C;injection I with I;rw[<-I,O];intro r hr;have hr:bV σ.t t .skip t = .lf (.own [r]):=hr;rw[cc]at hr;cases hr
   ·exact hk t O L
 unfold dy at h;rw[aok a1]at h;split at h
 ·rename_i hw;have aow:Nonempty (rA P N Φ D p pb (gj σ oi.dst v) τ):=by
   rcases L with L|⟨f,args,jE,c,E,U,h3,h4,h5⟩|⟨ty,t,y,E,U,h3,h4⟩|⟨x,y,t1,t2,E,U,hn,h3⟩
   ·exact aoi dQ L hp h
   ·refine aoo E U h3 hp ?_ h;rw[Hz]
    ·exact h5
    ·intro x hx;refine Nd a1 v ?_;rw[E];simp only[Op.operands,Call.operands];simp only[Array.mem_append]
     first
      |exact .inr (by simpa using hx)
      |exact .inl (by simpa using hx)
   ·refine aoq E U ?_ h;have e1:aK (gj σ oi.dst v) (.tmp t)=aK σ (.tmp t):=Nd a1 v (by rw[E];simp[Op.operands]);have e1:(gj σ oi.dst v).t t=σ.t t:=e1;rw[e1];exact h4
   ·refine aos E hn.1 hn.2.1 hn.2.2 hp ?_ h;have e1:aK (gj σ oi.dst v) (.tmp x)=aK σ (.tmp x):=Nd a1 v (by rw[E];simp[Op.operands,Call.operands]);have e1:(gj σ oi.dst v).t x=σ.t x:=e1;rw[e1];exact h3
  obtain⟨G,u,e,hr,hg,hs,hbp⟩:=aow;have rC:dy P N Φ ops σ D some=some (gj (G σ) D.dst u):=by
   unfold dy;rw[hw];exact hr σ (λx hx=>(Nd a1 v hx).symm) (aoj _ _).symm
  refine⟨gj (G σ) D.dst u,rC,?_,(hF.grow (hg σ)).put a3,λBG t r j L cL l6=>?_,fin _ rC λt cL L=>?_,abF _ rC λt cL L=>?_⟩
  ·refine e.trans ?_;have:∀ dst,G (gj σ dst v)=gj (G σ) dst v:=by
    intro dst;cases dst with
    |none=>rfl
    |some d=>exact hs σ d v hF.nr
   rw[this];exact abx _ _ a2
  ·rw[D3 _ _ t cL];exact hbp BG σ t r j L l6
  ·rw[D3 _ _ t cL];exact(hg σ).st L
  ·rw[D3 _ _ t cL];exact(hg σ).tg L
 ·rename_i hw;obtain⟨E,U⟩:=sG h;injection E with E;have rC:dy P N Φ ops σ D some=some (gj σ D.dst .skip):=by
   unfold dy;rw[hw];exact(U σ).at_ _
  exact⟨gj σ D.dst .skip,rC,by rw[<-E];exact abx _ _ a2,hF.put a3,λ_ t r j L cL _=>(by rw[D3 _ _ t cL];exact L),fin _ rC λt cL L=>(by rw[D3 _ _ t cL];exact L),abF _ rC λt cL L=>(by rw[D3 _ _ t cL];exact L)⟩
 ·cases h
def Any(P:Program)(N:Nat)(Φ:ep)(ops:Array Oper)(K:S->Prop):Nat->Nat->S->Prop
 |0,L,σ=>(∀j,l8 ops L j=false)/\K σ
 |f+1,L,σ=>((∀j,l8 ops L j=false)->K σ)/\∀j,l8 ops L j=true->∃o C,ops[j]?=some o/\dy P N Φ ops σ o some=some C/\Any P N Φ ops K f (L |||2 ^ j) C
def zx(L i j:Nat):(L ||| 2 ^ i).testBit j=(L.testBit j || decide (i=j)):=by
 rw[Nat.testBit_or,Nat.testBit_two_pow]
def HB{ops:Array Oper}{L j:Nat}:l8 ops L j=true ↔ L.testBit j=false /\ ∃ o,ops[j]?=some o /\ ∀ e∈o.after,Region.binds .any e=true -> L.testBit e.on=true:=by
 unfold l8
 grind
def U7{ops:Array Oper}{L i j:Nat}(h:l8 ops L j=true)(C:j≠i):l8 ops (L ||| 2 ^ i) j=true:=by
 rw[HB]at h ⊢
 grind
def mN.step{ops:Array Oper}{C:Oper}{v:A}(I:mN P ops C p pb v σ)(L:∀ σ:S,gY N σ C.dst v some=some (gj σ C.dst v)):dy P N Φ ops σ C some=some (gj σ C.dst v):=by
 unfold dy;rcases I with ⟨D,E,O,_,_,_⟩|⟨D,E⟩
 ·rw[D];unfold dB;rw[E,aq];exact(O.at_ _).trans (L σ)
 ·simp_all
def U8{K:S -> Prop}{ops:Array Oper}{i W:Nat}{U:Oper}(hi:ops[i]?=some U)(hW:∀ j C,ops[j]?=some C -> W.testBit j=true -> ∃ e∈C.after,Region.binds .any e=true/\(e.on=i \/ W.testBit e.on=true))(E:S -> S)(I:Nat -> S -> Prop)
  (r1:∀L σ,I L σ -> dy P N Φ ops σ U some=some (E σ))
  (r2:∀L σ j C Y,I L σ -> ops[j]?=some C -> j≠i -> L.testBit j=false -> W.testBit j=false -> dy P N Φ ops (E σ) C some=some Y -> ∃O,dy P N Φ ops σ C some=some O/\Y=E O/\I (L |||2 ^ j) O):
  ∀(f L:Nat) (σ:S),(∀j,W.testBit j=true -> L.testBit j=false) -> l8 ops L i=true -> I L σ -> Any P N Φ ops K f (L |||2 ^ i) (E σ) -> Any P N Φ ops K (f+1) L σ:=by
 intro f
 induction f with
 | zero=>
  intro L σ vk T Z H
  refine⟨λh=>absurd (h i) (by rw[T];simp),λj hj=>?_⟩
  by_cases D:j=i
  ·subst D;exact⟨U,_,hi,r1 L σ Z,H⟩
  ·have:=U7 hj D;rw[H.1]at this;cases this
 | succ f ih=>
  intro L σ vk T Z H
  refine⟨λh=>absurd (h i) (by rw[T];simp),λj hj=>?_⟩
  by_cases D:j=i
  ·subst D;exact⟨U,_,hi,r1 L σ Z,H⟩
  ·obtain⟨C,Y,xd,iU,H'⟩:=H.2 j (U7 hj D);obtain⟨D5,oj',Nl,pz⟩:=HB.1 hj;rw[xd]at Nl;injection Nl with Nl;subst Nl;have zy:W.testBit j=false:=by
    cases zy:W.testBit j with
    |false=>rfl
    | true=>
     obtain⟨e,he,hb,l7⟩:=hW j C xd zy;have h1:=pz e he hb;rcases l7 with l7|l7
     ·rw[l7,(HB.1 T).1]at h1;cases h1
     ·rw[vk _ l7]at h1;cases h1
   obtain⟨O,hs,zz,hI'⟩:=r2 L σ j C Y Z xd D D5 zy iU
   refine⟨C,O,xd,hs,ih (L |||2 ^ j) O (λk hk=>?_) (U7 T (Ne.symm D)) hI' ?_⟩
   ·grind
   ·rw[<- zz]
    grind
theorem aox[Inhabited Wd](dQ:fL P Φ){ok:Nat -> Nat -> Bool}{rB mK mL:Nat -> Bool}{K:S -> Prop}{ops:Array Oper}{i W:Nat}{I:Oper}{v:A}(hi:ops[i]?=some I)(hN:∀ σ:S,gY N σ I.dst v some=some (gj σ I.dst v))
  (hW:∀j C,ops[j]?=some C -> W.testBit j=true -> ∃e∈C.after,Region.binds .any e=true/\(e.on=i \/ W.testBit e.on=true)) (f L:Nat) (σ:S)
  (iT:∀t r,ok t r=true -> ∀j C,ops[j]?=some C -> j≠i -> L.testBit j=false -> W.testBit j=false -> C.dst≠some t/\eR C r=false/\isApp C=false)
  (Nm:∀x,mL x=true -> ∀j C,ops[j]?=some C -> j≠i -> L.testBit j=false -> W.testBit j=false -> C.dst≠some x) (hX:∀x,mL x=true -> jH p (σ.t x))
  (Nn:∀t,rB t=true -> ∀j C,ops[j]?=some C -> j≠i -> L.testBit j=false -> W.testBit j=false -> C.dst≠some t \/ (vj C=true/\p t=true) \/ ∃s x f,C.op = .fieldAddr s (.tmp x) f/\mL x=true)
  (Np:∀t,mK t=true -> ∀j C,ops[j]?=some C -> j≠i -> L.testBit j=false -> W.testBit j=false -> C.dst≠some t \/ (ou C=true/\p t=true/\pb t=true) \/ (isApp C=true \/ zp Φ C=true))
  (BH:∀j C,ops[j]?=some C -> j≠i -> L.testBit j=false -> W.testBit j=false -> I.apart ops C=true/\Calm Φ ok rB mK p pb σ C /\ ∀n,eR C n=true -> p n=true/\pb n=true)
  (vk:∀j,W.testBit j=true -> L.testBit j=false) (hr:l8 ops L i=true) (hF:mN P ops I p pb v σ) (H:Any P N Φ ops K f (L |||2 ^ i) (gj σ I.dst v)):Any P N Φ ops K (f+1) L σ:=by
 refine U8 hi hW (λσ=>gj σ I.dst v)
  (λL σ=>mN P ops I p pb v σ/\(∀ t r,ok t r=true -> ∀ j C,ops[j]?=some C -> j≠i -> L.testBit j=false -> W.testBit j=false -> C.dst≠some t/\eR C r=false/\isApp C=false) /\
   ((∀x,mL x=true -> ∀j C,ops[j]?=some C -> j≠i -> L.testBit j=false -> W.testBit j=false -> C.dst≠some x) /\ ∀x,mL x=true -> jH p (σ.t x)) /\
   (∀t,rB t=true -> ∀j C,ops[j]?=some C -> j≠i -> L.testBit j=false -> W.testBit j=false -> C.dst≠some t \/ (vj C=true/\p t=true) \/ ∃s x f,C.op = .fieldAddr s (.tmp x) f/\mL x=true) /\
   (∀t,mK t=true -> ∀j C,ops[j]?=some C -> j≠i -> L.testBit j=false -> W.testBit j=false -> C.dst≠some t \/ (ou C=true/\p t=true/\pb t=true) \/ (isApp C=true \/ zp Φ C=true)) /\
   ∀j C,ops[j]?=some C -> j≠i -> L.testBit j=false -> W.testBit j=false -> I.apart ops C=true/\Calm Φ ok rB mK p pb σ C /\ ∀n,eR C n=true -> p n=true/\pb n=true)
  (λL σ h=>h.1.step hN) (λL σ j C τ h xd HC D5 zy iU=>?_) f L σ vk hr ⟨hF,iT,⟨Nm,hX⟩,Nn,Np,BH⟩ H
 obtain⟨hF,iT,⟨Nm,hX⟩,Nn,Np,BH⟩:=h;obtain⟨c1,c2,c3⟩:=BH j C xd HC D5 zy;obtain⟨c8,hs,zz,hF',Us,jY,hta⟩:=aot (mL:=mL) dQ hX hF c1 c2 c3 iU;have Z:∀ k,(L ||| 2 ^ j).testBit k=false -> L.testBit k=false:=by
  intro k D;rw[zx,pS]at D;exact D.1
 refine⟨c8,hs,zz,hF',λt r E k O D T U Y=>iT t r E k O D T (Z k U) Y,⟨λx hx k O D T U Y=>Nm x hx k O D T (Z k U) Y,λx hx=>jY x (hX x hx) (.inl (Nm x hx j C xd HC D5 zy))⟩,λt E k O D T U Y=>Nn t E k O D T (Z k U) Y,λt E k O D T U Y=>Np t E k O D T (Z k U) Y,λk O D T U Y=>?_⟩
 obtain⟨d1,d2,d3⟩:=BH k O D T (Z k U) Y
 refine⟨d1,d2.ld (λt r j' E h=>?_) (λt h E=>jY t E (Nn t h j C xd HC D5 zy)) (λt h E=>hta t E (Np t h j C xd HC D5 zy)),d3⟩
 grind
def A.U9(y:A)(a b:Nat):(y.drop a).drop b=(y.drop b).drop a:=A.oP y _ _
def aW.U9(y:aW)(a b:Nat):(y.drop a).drop b=(y.drop b).drop a:=aW.oP y _ _
def mO.drop(h:mO e u){n:Nat}(C:e≠n):u.drop n=u:=by
 rcases h with rfl|rfl
 ·simp only[A.drop,oQ C,au,A.cF,wC]
 ·have:cS n [e]=false:=by simp[cS,C]
  simp only[A.drop,Lf.drop,this,au,A.cF,wC,Lf.cF]
def mO.dh(h:mO e u){ns cn:aa Nat}(D:cY e ns=false)(C:cY e cn=false):u.dh ns cn=u:=by
 rcases h with rfl|rfl
 ·simp only[A.dh,C,au,A.cF,vb]
 ·have E:fW [e] ns=false:=D;have I:fW [e] cn=false:=C;simp only[A.dh,Lf.dh,E,I,A.cF,vb,Lf.cF];rfl
def rD(k:Nat):(cJ e x u σ).t k=if k=e then u else (σ.t k).drop e:=by
 by_cases C:k=e
 ·subst C;rw[bH rfl];exact cc _ _ _
 ·rw[bJ C];exact cH _ _ _ C
def pE(n:Nat):(cJ e x u σ).m n=if n=e then some x else (σ.m n).map (aW.drop e):=by
 show bV (λr=>bif Nat.beq r e then none else (σ.m r).map (aW.drop e)) e (some x) n=_;by_cases C:n=e
 ·subst C;rw[bH rfl,cc]
 ·rw[bJ C,cH _ _ _ C,oQ C];rfl
def Va(c:Nat)(y:aW)(k:Nat):((σ.drop c).root c y).t k=(σ.t k).drop c:=rfl
def abG(c:Nat)(y:aW)(n:Nat):((σ.drop c).root c y).m n=if n=c then some y else (σ.m n).map (aW.drop c):=by
 show bV (λr=>bif Nat.beq r c then none else (σ.m r).map (aW.drop c)) c (some y) n=_;by_cases C:n=c
 ·subst C;rw[bH rfl,cc]
 ·rw[bJ C,cH _ _ _ C,oQ C];rfl
def abH{c:Nat}(z:V)(I:ki x)(L:mO e u)(O:e≠c):((cJ e x u σ).drop c).root c (.sl z)=cJ e x u ((σ.drop c).root c (.sl z)):=by
 refine S.ext' (λk=>?_) λn=>?_
 ·rw[Va,rD,rD,Va];by_cases C:k=e
  ·rw[bH C,bH C];exact L.drop O
  ·rw[bJ C,bJ C];exact A.oP _ _ _
 ·rw[abG,pE,pE,abG];by_cases D:n=c
  ·rw[bH D,bJ,bH D];rfl
  ·rw[bJ D];by_cases E:n=e
   ·rw[bH E,bH E];simp only[Option.map_some,I.drop]
   ·rw[bJ E,bJ E,bJ D,Option.map_map,Option.map_map];congr 1;funext y;exact aW.oP y _ _
def Nq(C:ki x)(D:mO e u):∀ (xs:aa V) (c:Nat) (σ:S),e<c -> mG c (cJ e x u σ) xs=cJ e x u (mG c σ xs)
 |[],c,σ,_=>rfl
 | y :: xs,c,σ,h=>by
  simp[mG];cases E:y.aH with
  |true=>exact Nq C D xs _ σ (by omega)
  | false=>
   rw[abH y C D (by omega)];exact Nq C D xs _ _ (by omega)
def abI(C:ki x)(D:mO e u):∀ (ps:aa Pt) (c:Nat) (σ:S),e<c -> oh c (cJ e x u σ) ps=cJ e x u (oh c σ ps)
 |[],c,σ,_=>rfl
 | q :: ps,c,σ,h=>by
  simp[oh];rw[Nq C D _ _ _ h];exact abI C D ps _ _ (by omega)
def Nr{v:A}(D:d≠e)(E:v.drop e=v):(cJ e x u σ).set d v=cJ e x u (σ.set d v):=by
 refine S.ext' (λk=>?_) λn=>?_
 ·show bV (cJ e x u σ).t d v k=_;rw[rD];show _=if k=e then u else (bV σ.t d v k).drop e;by_cases C:k=d
  ·subst C;rw[cc,bJ D,cc,E]
  ·rw[cH _ _ _ C,cH _ _ _ C,rD]
 ·rfl
def aoy{v:A}{C:aj Tmp}(D:C≠some e)(E:v.drop e=v):gj (cJ e x u σ) C v=cJ e x u (gj σ C v):=by
 cases C with
 |none=>rfl
 |some d=>exact Nr (by rintro rfl;exact D rfl) E
def aoz{ns cn:aa Nat}{nr:aa (Nat×aW)}(O:ki x)(T:mO e u)(E:cY e ns=false)(I:cY e cn=false)(L:∀ q∈nr,q.1≠e/\q.2.drop e=q.2):(cJ e x u σ).dh ns cn nr=cJ e x u (σ.dh ns cn nr):=by
 have hl:nr.lookup e=none:=by
  cases hl:nr.lookup e with
  |none=>rfl
  |some y=>exact absurd rfl (L _ (Nh hl)).1
 refine S.ext' (λk=>?_) λn=>?_
 ·show ((cJ e x u σ).t k).dh ns cn=_;rw[rD,rD];by_cases C:k=e
  ·rw[bH C,bH C];exact T.dh E I
  ·rw[bJ C,bJ C];exact A.oP _ _ _
 ·rw[pE];show (match nr.lookup n with | some x=>some x | none=>bif cY n ns || cY n cn then none else ((cJ e x u σ).m n).map (aW.dh ns cn))=if n=e then some x else (match nr.lookup n with | some x=>some x | none=>bif cY n ns || cY n cn then none else (σ.m n).map (aW.dh ns cn)).map (aW.drop e);by_cases D:n=e
  ·subst D;rw[bH rfl,hl,E,I];simp only[Bool.or_false,au,pE,if_true,Option.map_some,O.dh]
  ·rw[bJ D];cases U:nr.lookup n with
   |some y=>simp only[Option.map_some];rw[(L _ (Nh U)).2]
   | none=>
    simp only;cases (cY n ns ||cY n cn)with
    |true=>rfl
    | false=>
     simp only[au];rw[pE,bJ D,Option.map_map,Option.map_map];congr 1;funext y;exact aW.oP y _ _
/-! What a call reads. -/
def abJ{q:aa Nat}{k:V->aj X}(h:cS e q=false):jf (cJ e x u σ).m q k=jf σ.m q k:=aoc q k h
def xe{y:Operand}(h:(aK σ y).nr p=true)(C:p e=true)(D:y ≠ .tmp e):aK (cJ e x u σ) y=aK σ y:=by
 cases y with
 | tmp t=>
  show (cJ e x u σ).t t=σ.t t;rw[rD,bJ (by rintro rfl;exact D rfl)];exact A.zj h C
 |_=>rfl
def Vb{l:Lf}{k:V->aj X}(h:l.nr p=true)(C:p e=true):oT (cJ e x u σ) l k=oT σ l k:=by
 cases l with
 |own q=>exact abJ (aa2 h C)
 |_=>rfl
def abK{q:aa Nat}{s i j:Nat}{k:V->aj X}(h:ot p q=true)(C:p e=true):uS (cJ e x u σ) q s i j k=uS σ q s i j k:=by
 unfold uS;exact abJ (aa2 h C)
def aoA{y:A}{k:V->aj X}(h:y.nr p=true)(C:p e=true):sj (cJ e x u σ) y k=sj σ y k:=by
 cases y with
 |lf l=>exact Vb h C
 |view q s i j=>exact abK h C
 |_=>rfl
def Vc(C:p e=true):∀ (xs:aa Lf) (k:aa V -> aj X),xs.all (Lf.nr p)=true -> qZ (cJ e x u σ) xs k=qZ σ xs k
 |[],k,_=>rfl
 | y :: xs,k,h=>by
  rw[List.all_cons,aO]at h;simp[qZ,Vb h.1 C];congr 1;funext z;exact Vc C xs _ h.2
def aoB{y:A}{k:Pt->aj X}(h:y.nr p=true)(C:p e=true):oe (cJ e x u σ) y k=oe σ y k:=by
 cases y with
 |lf l=>simp only[oe];exact Vc C _ _ (by rw[List.all_cons,show l.nr p=true from h];rfl)
 |agg cs=>simp only[oe];exact Vc C _ _ h
 |view q s i j=>simp only[oe];exact abK h C
 |jd cs=>cases cs<;>rfl
 |_=>rfl
def abL(C:p e=true):∀ (xs:aa Operand) (k:aa Pt->aj X),(∀ y∈xs,(aK σ y).nr p=true/\y ≠ .tmp e)->su (cJ e x u σ) xs k=su σ xs k
 |[],k,_=>rfl
 | y :: xs,k,h=>by
  obtain⟨D,E⟩:=h y (.head _);unfold su uX;rw[xe D C E,aoB D C];congr 1;funext z;exact abL C xs _ (λy I=>h y (.tail _ I))
def Vd{ns:aa Nat}(C:p e=true):∀ (xs:aa Lf) (k:aa V -> aj X),xs.all (Lf.nr p)=true -> sA (cJ e x u σ) ns xs k=sA σ ns xs k
 |[],k,_=>rfl
 | y :: xs,k,h=>by
  rw[List.all_cons,aO]at h;simp[sA,Vb h.1 C];congr 2;funext z;exact Vd C xs _ h.2
def abM{d:Nat}:∀ (xs:aa Lf),qT (xs.map (Lf.drop d))=qT xs
 |[]=>rfl
 | x :: xs=>by
  have C:(x.drop d).pl=x.pl:=by
   cases x with
   | own k=>
    show (bif cS d k then _ else Lf.own k).pl=_;cases cS d k<;>rfl
   |_=>rfl
  simp[List.map_cons,qT,C,abM]
def aoC{ns:aa Nat}{y:A}{k:Pt->aj X}(h:y.nr p=true)(C:p e=true):rj (cJ e x u σ) ns y k=rj σ ns y k:=by
 cases y with
 |lf l=>simp only[rj];exact Vd C _ _ (by rw[List.all_cons,show l.nr p=true from h];rfl)
 |agg cs=>simp only[rj];exact Vd C _ _ h
 |nA f cs=>cases cs<;>rfl
 | fn f cap=>
  match cap,h with
  |[],_=>rfl
  |_::_::_,_=>rfl
  | [(D,j)],h=>
   have E:p D=false:=by simpa [A.nr,A.fr,tN]using h
   have I:D≠e:=by rintro rfl;rw[C]at E;cases E
   simp only[rj,pE,bJ I];cases σ.m D with
   |none=>rfl
   | some z=>
    cases z with
    |aC cs=>simp only[Option.map_some,aW.Hv,<-List.map_drop,abM]
    |_=>rfl
 |_=>rfl
def aoD{l:Lf}(h:l.nr p=true)(C:p e=true):vc (cJ e x u σ).m l=vc σ.m l:=by
 cases l with
 | own k=>
  match k with
  |[]=>rfl
  | [q]=>
   have D:q≠e:=by
    have h:(!p q)=true:=by simpa [Lf.nr,Lf.fr,ot,iP]using h
    rintro rfl;rw[C]at h;cases h
   simp only[vc];rw[pE,bJ D];cases σ.m q with
   |none=>rfl
   |some y=>cases y<;>rfl
  |_::_::_=>rfl
 |v x=>rfl
 |dead=>rfl
def abN(D:p e=true):∀ (C:aa Lf),C.all (Lf.nr p)=true -> ri (cJ e x u σ).m C=ri σ.m C
 |[],_=>rfl
 | l :: C,h=>by
  rw[List.all_cons,aO]at h;simp[ri,aoD h.1 D,abN D C h.2]
def abO{m:Nat->aj aW}:∀ {cs:aa Lf} {E:aa (V×aj Nat)},ri m cs=some E->cs.all (Lf.nr p)=true->∀ v∈E,∀ q,v.2=some q->p q=false
 |[],E,h,_=>by injection h with h;subst h;simp
 | c :: cs,E,h,I=>by
  rw[List.all_cons,aO]at I;unfold ri at h;split at h
  ·rename_i v U C O;injection h with h;subst h;intro u hu q D;rcases gn.1 hu with rfl | hu
   ·unfold vc at C;split at C
    ·injection C with C;rw[<-C]at D;cases D
    ·rename_i Y;split at C
     ·rename_i y _;cases L:y.aH with
      |true=>rw[L]at C;injection C with C;rw[<-C]at D;cases D
      | false=>
       rw[L,au]at C;injection C with C;rw[<-C]at D;injection D with D;subst D;have T:=I.1
       simpa [Lf.nr,Lf.fr,ot,iP]using T
     ·cases C
    ·cases C
   ·exact abO O I.2 u hu q D
  ·cases h
def Ns(p:Nat->Bool):Mu->Prop
 |.aC r cs C=>p r=false/\cs.all (Lf.nr p)=true/\∀v∈C,∀q,v.2=some q->p q=false
 |.sl q _=>p q=false
def Ve(I:p e=true):∀ (ps:aa PK) (xs:aa Operand) (L:aa Mu),(∀ y∈xs,(aK σ y).nr p=true/\y ≠ .tmp e)->(∀ n∈iJ σ ps xs,w8 σ p n=true)->jr σ ps xs=some L->jr (cJ e x u σ) ps xs=some L/\∀ C∈L,Ns p C
 |[],[],L,_,_,h=>⟨h,by injection h with h;subst h;simp⟩
 |[],_::_,L,_,_,h=>by cases h
 |_::_,[],L,_,_,h=>by cases h
 | q :: ps,y :: xs,L,hy,hl,h=>by
  obtain⟨E,h2⟩:=hy y (.head _);have yU:∀ n∈iJ σ ps xs,w8 σ p n=true:=by
   intro n Y;refine hl n ?_;cases q with
   |v=>exact Y
   |s=>exact Y
   | p t g off=>
    simp only[iJ];split
    ·exact .tail _ Y
    ·exact Y
  unfold jr at h;have D:∀ z,ve σ q (aK σ y)=some z->ve (cJ e x u σ) q (aK (cJ e x u σ) y)=some z/\∀ C,z=some C->Ns p C:=by
   intro z hz;rw[xe E I h2];have O:=vg hz;cases q with
   | v=>
    cases z with
    |some C=>exact O.elim
    |none=>exact⟨hz,by simp⟩
   | p t g off=>
    cases z with
    |none=>exact O.elim
    | some C=>
     cases C with
     |sl=>exact O.elim
     | aC U cs vs=>
      obtain⟨T,hm,hg,hlen⟩:=O;have fG:p U=false:=by
       rw[T]at E;have E:(!p U)=true:=E
       simpa using E
      have cL:U≠e:=by rintro rfl;rw[I]at fG;cases fG
      have Z:cs.all (Lf.nr p)=true:=by
       have:=hl U (by simp only[iJ,T];exact .head _);unfold w8 at this;rw[hm]at this;exact this
      have sn:(cJ e x u σ).m U=some (.aC cs):=by
       rw[pE,bJ cL,hm];simp only[Option.map_some,aW.Hv,qQ.zj Z I]
      refine⟨?_,λC D=>?_⟩
      ·rw[T];simp only[ve,Nat.beq_refl,aq,sn,abN I cs Z,hg];have:Nat.blt cs.length 999=true:=iM hlen;rw[this];rfl
      ·injection D with D;subst D;exact⟨fG,Z,abO hg Z⟩
   | s t g=>
    cases z with
    |none=>exact O.elim
    | some C=>
     cases C with
     |aC=>exact O.elim
     | sl q y0=>
      obtain⟨T,hm,hf⟩:=O;have hq:p q=false:=by
       rw[T]at E;have E:(!p q)=true:=by simpa [A.nr,A.fr,tN,Lf.nr,Lf.fr,ot,iP]using E
       simpa using E
      have cL:q≠e:=by rintro rfl;rw[I]at hq;cases hq
      refine⟨?_,λC D=>?_⟩
      ·rw[T];simp only[ve];rw[pE,bJ cL,hm];simp only[Option.map_some,aW.drop,hf,au,aW.cF]
      ·injection D with D;subst D;exact hq
  split at h
  ·rename_i C M1 k1 k2;injection h with h;subst h;obtain⟨g1,g2⟩:=D _ k1;obtain⟨f1,f2⟩:=Ve I ps xs M1 (λy h=>hy y (.tail _ h)) yU k2
   refine⟨by simp only[jr,g1,f1],λm hm=>?_⟩
   rcases gn.1 hm with rfl|hm
   ·exact g2 _ rfl
   ·exact f2 m hm
  next M1 k1 k2=>injection h with h;subst h;obtain⟨g1,g2⟩:=D _ k1;obtain⟨f1,f2⟩:=Ve I ps xs M1 (λy h=>hy y (.tail _ h)) yU k2;exact⟨by simp only[jr,g1,f1],f2⟩
  ·cases h
def Nt(D:p e=true)(ns:aa Nat):∀ (ps:aa PK) (xs:aa Operand) (C:aa Mu) (k:lE ps->aj X),(∀ y∈xs,(aK σ y).nr p=true/\y ≠ .tmp e)->js (cJ e x u σ) ns ps xs C k=js σ ns ps xs C k
 |[],[],[],k,_=>rfl
 | .v b t :: ps,y :: xs,C,k,h=>by
  obtain⟨I,L⟩:=h y (.head _);simp only[js];rw[xe I D L,aoC I D];congr 1;funext z;congr 1;split
  ·exact Nt D ns ps xs C _ (λy E=>h y (.tail _ E))
  ·rfl
 | .p t g off :: ps,y :: xs,.aC O cs T :: C,k,h=>by
  simp only[js];split
  ·exact Nt D ns ps xs C _ (λy E=>h y (.tail _ E))
  ·rfl
 | .s t g :: ps,y :: xs,.sl q U :: C,k,h=>by
  simp only[js];split
  ·exact Nt D ns ps xs C _ (λy E=>h y (.tail _ E))
  ·rfl
 |[],[],_::_,k,_=>rfl
 |[],_::_,_,k,_=>rfl
 |.v _ _::_,[],_,k,_=>rfl
 |.p _ _ _::_,[],_,k,_=>rfl
 |.s _ _::_,[],_,k,_=>rfl
 |.p _ _ _::_,_::_,[],k,_=>rfl
 |.s _ _::_,_::_,[],k,_=>rfl
 |.p _ _ _::_,_::_,.sl _ _::_,k,_=>rfl
 |.s _ _::_,_::_,.aC _ _ _::_,k,_=>rfl
def Vf{i:Nat}:∀ (C:aa (V×aj Nat)) (j:Nat),(∀ v∈C,∀ q,v.2=some q -> p q=false) -> ∀ u∈DL i j C,p u.1=false
 |[],_,_,u,hu=>by cases hu
 |(y,none)::C,j,h,u,hu=>Vf C (j+1) (λv D=>h v (.tail _ D)) u hu
 | (y,some q) :: C,j,h,u,hu=>by
  rcases gn.1 hu with rfl|hu
  ·simp_all
  ·exact Vf C (j+1) (λv D=>h v (.tail _ D)) u hu
def Vg:∀ (C:aa Mu) (i:Nat),(∀ E∈C,Ns p E) -> ∀ u∈lF i C,p u.1=false
 |[],_,_,u,hu=>by cases hu
 | .aC T cs I :: C,i,h,u,hu=>by
  obtain⟨L,U,O⟩:=h _ (.head _);rcases gn.1 hu with rfl|hu
  ·exact L
  ·rcases List.mem_append.1 hu with hu | hu
   ·exact Vf I 0 O u hu
   ·exact Vg C _ (λm D=>h m (.tail _ D)) u hu
 | .sl q y :: C,i,h,u,hu=>by
  rcases gn.1 hu with rfl|hu
  ·exact h _ (.head _)
  ·exact Vg C (i+1) (λm D=>h m (.tail _ D)) u hu
def Vh{c0:Nat}(E:∀ n,c0 <= n -> p n=false):∀ (C:aa (V×aj Nat)) (n:Nat),(∀ v∈C,∀ q,v.2=some q -> p q=false) -> ∀ u∈mH c0 n C,p u=false
 |[],_,_,u,hu=>by cases hu
 | (y,none) :: C,n,h,u,hu=>by
  rcases gn.1 hu with rfl|hu
  ·simp_all
  ·exact Vh E C (n+1) (λv D=>h v (.tail _ D)) u hu
 | (y,some q) :: C,n,h,u,hu=>by
  rcases gn.1 hu with rfl|hu
  ·simp_all
  ·exact Vh E C (n+1) (λv D=>h v (.tail _ D)) u hu
def Vi:∀ (C:aa Nat) (xs:aa V),∀ u∈vh C xs,u∈C
 |[],[],u,hu=>by cases hu
 | n :: C,y :: xs,u,hu=>by
  simp[vh]at hu;cases D:y.aH with
  |true=>rw[D]at hu;exact .tail _ (Vi C xs u hu)
  | false=>
   rw[D]at hu;rcases gn.1 hu with rfl|hu
   ·simp_all
   ·exact .tail _ (Vi C xs u hu)
def abP{ns cn:aa Nat}:∀ (C:aa Nat) (D:aa Lf) (xs:aa V),(∀ n∈C,p n=false)->D.all (Lf.nr p)=true->(pg ns cn C D xs).all (Lf.nr p)=true
 |[],_,_,_,_=>by simp[pg]
 |_::_,[],_,_,_=>by simp[pg]
 |_::_,_::_,[],_,_=>by simp[pg]
 | n :: C,l :: D,y :: xs,I,E=>by
  rw[List.all_cons,aO]at E;simp only[pg,List.all_cons,aO]
  refine⟨?_,abP C D xs (λn L=>I n (.tail _ L)) E.2⟩
  cases y.plain with
  |true=>rfl
  | false=>
   simp only[au];cases y.aH with
   | true=>
    simp only[aq];cases l with
    | own k=>
     have O:Lf.dh ns cn (.own k)=(bif fW k cn ||(fW k ns && !(Nat.beq k.length 1))then .dead else .own k):=rfl;rw[O];cases (fW k cn ||(fW k ns && !(Nat.beq k.length 1)))with
     |true=>rfl
     |false=>exact E.1
    |v x=>rfl
    |dead=>rfl
   | false=>
    show (!p n)=true;rw[I n (.head _)];rfl
def Vj:∀ (C:aa Nat) (xs:aa V),∀ u∈tL C xs,u.1∈C /\ ∃ y,u.2 = .sl y
 |[],[],u,hu=>by cases hu
 |[],_::_,u,hu=>by cases hu
 | n :: C,y :: xs,u,hu=>by
  simp[tL]at hu;cases I:y.aH with
  |true=>rw[I]at hu;obtain⟨D,E⟩:=Vj C xs u hu;exact⟨.tail _ D,E⟩
  | false=>
   rw[I]at hu;rcases gn.1 hu with rfl|hu
   ·simp_all
   ·obtain⟨D,E⟩:=Vj C xs u hu;exact⟨.tail _ D,E⟩
def Vk{c0:Nat}{ns cn:aa Nat}(E:p e=true)(O:∀ n,c0<=n->p n=false):∀ (D:aa Mu) (outs:aa In) (C:Nat),(∀ mu∈D,Ns p mu)->(∀ u∈nL c0 C D outs,p u=false)/\∀ u∈lG ns cn c0 C D outs,u.1≠e/\u.2.drop e=u.2
 |[],outs,C,_=>⟨(λu hu=>by simp[nL]at hu),(λu hu=>by simp[lG]at hu)⟩
 |.aC _ _ _::_,[],C,_=>⟨(λu hu=>by cases hu),(λu hu=>by cases hu)⟩
 |.sl _ _::_,[],C,_=>⟨(λu hu=>by cases hu),(λu hu=>by cases hu)⟩
 |.aC _ _ _::_,.sl _::_,C,_=>⟨(λu hu=>by cases hu),(λu hu=>by cases hu)⟩
 |.sl _ _::_,.aC _::_,C,_=>⟨(λu hu=>by cases hu),(λu hu=>by cases hu)⟩
 | .aC r' cs Z :: D,.aC xs :: outs,C,h=>by
  obtain⟨I,h2,h3⟩:=h _ (.head _);obtain⟨T,L⟩:=Vk (ns:=ns) (cn:=cn) E O D outs (C+1+Z.length) (λm U=>h m (.tail _ U));have cL:∀n,p n=false->n≠e:=by rintro n hn rfl;rw[E]at hn;cases hn
  have Y:=Vh O Z (C+1) h3
  refine⟨λu hu=>?_,λu hu=>?_⟩
  ·simp only[nL]at hu;rcases List.mem_append.1 hu with hu | hu
   ·exact Y u (Vi _ _ u hu)
   ·exact T u hu
  ·simp only[lG]at hu;rcases gn.1 hu with rfl | hu
   ·refine⟨cL _ I,?_⟩;rw[aW.Hv,qQ.zj (abP _ _ _ Y h2) E]
   ·rcases List.mem_append.1 hu with hu | hu
    ·obtain⟨g1,y,g2⟩:=Vj _ _ u hu;exact⟨cL _ (Y _ g1),by rw[g2];rfl⟩
    ·exact L u hu
 | .sl q y :: D,.sl y' :: outs,C,h=>by
  have I:p q=false:=h _ (.head _);obtain⟨T,L⟩:=Vk (ns:=ns) (cn:=cn) E O D outs (C+1) (λm U=>h m (.tail _ U))
  refine⟨λu hu=>T u (by simpa [nL]using hu),λu hu=>?_⟩
  simp only[lG]at hu;cases hy:y'.jW with
  |false=>rw[hy]at hu;exact L u hu
  |true=>
  rw[hy]at hu;rcases gn.1 hu with rfl|hu
  ·exact⟨(by rintro rfl;rw[E]at I;cases I),rfl⟩
  ·exact L u hu
def Vl:∀ (xs:aa V) (c:Nat),e<c->(og c xs).map (Lf.drop e)=og c xs
 |[],_,_=>rfl
 | y :: xs,c,h=>by
  simp only[og,List.map_cons];rw[Vl xs (c+1) (by omega)];cases y.aH with
  |true=>rfl
  | false=>
   have:cS e [c]=false:=by simp[cS];omega
   simp only[au,Lf.drop,this,Lf.cF]
def aoE{b:Bool}{xs:aa Lf}{y:A}(h:yI (b,xs)=some y)(C:xs.map (Lf.drop e)=xs):y.drop e=y:=by
 unfold yI at h;split at h
 next D=>injection h with h;subst h;obtain⟨_,rfl⟩:=D;exact bq A.agg C
 next z D=>injection h with h;subst h;obtain⟨_,rfl⟩:=D;simp at C;exact bq A.lf C
 ·cases h
def abQ:∀ (ps:aa Pt) (c:Nat),e<c->(sv c ps).map (λq=>(q.1,q.2.map (Lf.drop e)))=sv c ps
 |[],_,_=>rfl
 | q :: ps,c,h=>by
  simp only[sv,List.map_cons];rw[Vl _ _ h,abQ ps _ (by omega)]
def aoF(ps:aa Pt)(c:Nat)(h:e<c):A.drop e (.eV (sv c ps)) = .eV (sv c ps):=bq A.eV (abQ ps c h)
def abR(C:ki x)(D:mO e u)(T:e<20000)(E:d≠e){I:fZ}{L:S}(h:nH σ d I some=some L):nH (cJ e x u σ) d I some=some (cJ e x u L):=by
 unfold nH at h ⊢;split at h
 ·split at h
  next y O=>injection h with h;subst h;rw[Nq C D _ _ _ (by omega),Nr E (aoE O (Vl _ _ (by omega)))]
  ·cases h
 ·injection h with h;subst h;rw[abI C D _ _ _ (by omega),Nr E (aoF _ _ (by omega))]
def aoG(L:ki x)(O:mO e u)(T:e<20000){C:aj Tmp}(U:C≠some e){E:fZ}{D:S}(h:p7 N σ C E some=some D):p7 N (cJ e x u σ) C E some=some (cJ e x u D):=by
 cases C with
 | none=>
  have h:some σ=some D:=h;injection h with h;rw[<-h];rfl
 | some d=>
  unfold p7 at h ⊢;cases I:Nat.blt d N with
  |false=>simp only[I,au]at h;cases h
  | true=>
   simp only[I,aq]at h ⊢;exact abR L O T (by rintro rfl;exact U rfl) h
def aoH(dQ:fL P Φ)(Z:ki x)(U:mO e u)(he:e<20000)(O:p e=true)(HD:∀ n,20000<=n->p n=false)(C:nN Φ o=true)(hd:o.dst≠some e)(sH:∀ y∈o.op.operands,(aK σ y).nr p=true/\y ≠ .tmp e)(hl:∀ n∈pn Φ σ o,w8 σ p n=true){τ:S}
  (h:dB P N Φ σ o some=some τ):dB P N Φ (cJ e x u σ) o some=some (cJ e x u τ):=by
 have zB:∃ f args jE,o.op = .call { callee:=.value (.func f),args:=args,argTypes:=jE }:=by
  unfold nN at C;split at C
  ·exact⟨_,_,_,by assumption⟩
  ·cases C
 obtain⟨f,args,jE,D⟩:=zB;have o8:∀ y∈args.toList,(aK σ y).nr p=true/\y ≠ .tmp e:=by
  intro y hy;refine sH y ?_;rw[D];simp only[Op.operands,Call.operands];simp only[Array.mem_append]
  first
   |exact .inr (by simpa using hy)
   |exact .inl (by simpa using hy)
 have eO:∀ σ2,dB P N Φ σ2 o some=iy P N Φ σ2 o some:=by
  intro σ2;unfold dB;rw[show fM o.op=false by rw[D];rfl,au]
 rw[eO]at h ⊢;cases I:Φ f with
 |none=>simp only[iy,D,I]at h;cases h
 | some c=>
  cases c with
  |n F=>rw[nN,D]at C;simp[I]at C
  |v c=>rw[nN,D]at C;simp[I]at C
  |i c=>rw[nN,D]at C;simp[I]at C
  |d c=>rw[nN,D]at C;simp[I]at C
  |q c=>rw[nN,D]at C;simp[I]at C
  |c c=>rw[nN,D]at C;simp[I]at C
  | p c=>
   simp only[iy,D,I]at h ⊢;obtain⟨d,Y,h⟩:=jG h;have hde:d≠e:=by rintro rfl;exact hd Y
   obtain⟨res,sq,h1,E,h3⟩:=MS (Hx dQ I) DW h;injection E with E;subst E;simp only[gD,Y];exact(h3 (cJ e x u σ) (cJ e x u sq) (λX k=>su (cJ e x u σ) args.toList k) (λX k=>abL O _ k o8) (abR Z U he hde h1)).at_ _
  | m c=>
   simp only[iy,D,I]at h ⊢;have zi:∀ n∈iJ σ c.ps args.toList,w8 σ p n=true:=by
    intro n T;refine hl n ?_;simp only[pn,D,I];exact T
   unfold oq at h;split at h
   ·rename_i L tM;obtain⟨g1,g2⟩:=Ve (x:=x) (u:=u) O c.ps args.toList L o8 zi tM;cases l7:(once (lF 0 L)&&Nat.ble L.length 40)with
    |false=>rw[l7]at h;cases h
    | true=>
     rw[l7,aq]at h;obtain⟨z,E,abS⟩:=(MY _ _ _).lX h;simp only[oq,g1,l7,aq];rw[Nt O _ _ _ _ _ o8];refine(abS S _).trans ?_;split at E
     ·rename_i y hy;unfold DO at E ⊢;generalize o6:nL (iw o.dst) (eS c.ro y.1).len L (iS (eF c.ps) y.2)=cn at E;generalize iT:DN N L (iS (eF c.ps) y.2) cn=ok at E;cases ok with
      |false=>cases E
      | true=>
       rw[aq]at E;have tF:∀ n,iw o.dst<=n->p n=false:=by
        intro n T;refine HD n ?_;cases Y:o.dst with
        |none=>rw[Y]at T;simp only[iw]at T;omega
        |some d=>rw[Y]at T;simp only[iw]at T;omega
       obtain⟨k1,k2⟩:=Vk (ns:=(lF 0 L).map (·.1)) (cn:=cn) O tF L (iS (eF c.ps) y.2) (eS c.ro y.1).len g2;rw[o6]at k1;rw[aq,aoz Z U ?_ ?_ k2]
       ·exact aoG Z U he hd E
       ·cases hm:cY e ((lF 0 L).map (·.1))with
        |false=>rfl
        | true=>
         obtain⟨u,U,e1⟩:=List.mem_map.1 (tG.1 hm);have:=Vg L 0 g2 u U;rw[e1,O]at this;cases this
       ·cases hm:cY e cn with
        |false=>rfl
        |true=>have:=k1 e (tG.1 hm);rw[O]at this;cases this
     ·cases E
   ·cases h
def A.abU{y:A}(h:y.fM=true)(K:nB):y.cF K=y:=by
 refine A.oO ?_;cases y with
 |lf l=>cases l<;>first|rfl|cases h
 | agg cs=>
  refine cu.2 λl hl=>?_
  have:=cu.1 h l hl;cases l<;>first|rfl|cases this
 |_=>cases h
def A.Nu{y:A}(h:y.fM=true)(n:Nat):y.drop n=y:=A.abU h _
def A.aoI{y:A}(h:y.fM=true)(ns cn:aa Nat):y.dh ns cn=y:=A.abU h _
def Vm:∀ (xs:aa V) (c:Nat) (σ:S) {t:Nat},(σ.t t).fM=true -> (mG c σ xs).t t=σ.t t
 |[],c,σ,t,h=>rfl
 | y :: xs,c,σ,t,h=>by
  simp[mG];cases y.aH with
  |true=>exact Vm xs _ σ h
  | false=>
   simp;have C:(((σ.drop c).root c (.sl y)).t t)=σ.t t:=by rw[Va];exact A.Nu h c
   rw[Vm xs _ _ (by rw[C];exact h),C]
def abV:∀ (ps:aa Pt) (c:Nat) (σ:S) {t:Nat},(σ.t t).fM=true -> (oh c σ ps).t t=σ.t t
 |[],c,σ,t,h=>rfl
 | q :: ps,c,σ,t,h=>by
  simp[oh];have C:=Vm q.2 c σ h;rw[abV ps _ _ (by rw[C];exact h),C]
def abW{D:fZ}{C:S}(h:nH σ d D some=some C){t:Nat}(E:(σ.t t).fM=true)(I:t≠d):C.t t=σ.t t:=by
 obtain⟨ps,u,L⟩:=UW h;rw[L]at h;injection h with h;rw[<-h];exact(cH _ _ _ I).trans (abV _ _ _ E)
def aoJ{C:aj Tmp}{I:fZ}{D:S}(h:p7 N σ C I some=some D){t:Nat}(L:(σ.t t).fM=true)(O:C≠some t):D.t t=σ.t t:=by
 cases C with
 | none=>
  have h:some σ=some D:=h;injection h with h;rw[<-h]
 | some d=>
  unfold p7 at h;cases E:Nat.blt d N with
  |false=>simp only[E,au]at h;cases h
  | true=>
   simp only[E,aq]at h;exact abW h L (by rintro rfl;exact O rfl)
def aoK(dQ:fL P Φ)(C:nN Φ o=true){T:S}(h:dB P N Φ σ o some=some T){t:Nat}(O:(σ.t t).fM=true)(U:o.dst≠some t):T.t t=σ.t t:=by
 have zB:∃ f args Y,o.op = .call { callee:=.value (.func f),args:=args,argTypes:=Y }:=by
  unfold nN at C;split at C
  ·exact⟨_,_,_,by assumption⟩
  ·cases C
 obtain⟨f,args,Y,E⟩:=zB;have eO:dB P N Φ σ o some=iy P N Φ σ o some:=by
  unfold dB;rw[show fM o.op=false by rw[E];rfl,au]
 rw[eO]at h;cases I:Φ f with
 |none=>simp only[iy,E,I]at h;cases h
 | some c=>
  cases c with
  |n F=>rw[nN,E]at C;simp[I]at C
  |v c=>rw[nN,E]at C;simp[I]at C
  |i c=>rw[nN,E]at C;simp[I]at C
  |d c=>rw[nN,E]at C;simp[I]at C
  |q c=>rw[nN,E]at C;simp[I]at C
  |c c=>rw[nN,E]at C;simp[I]at C
  | p c=>
   simp only[iy,E,I]at h;obtain⟨d,tT,h⟩:=jG h;obtain⟨res,sq,h1,D,h3⟩:=MS (Hx dQ I) DW h;injection D with D;subst D;exact abW h1 O (by rintro rfl;exact U tT)
  | m c=>
   simp only[iy,E,I]at h;unfold oq at h;split at h
   ·rename_i L tM;cases Z:(once (lF 0 L)&&Nat.ble L.length 40)with
    |false=>rw[Z]at h;cases h
    | true=>
     rw[Z,aq]at h;obtain⟨z,D,abS⟩:=(MY _ _ _).lX h;split at D
     ·rename_i y hy;unfold DO at D;generalize DN N L (iS (eF c.ps) y.2) (nL (iw o.dst) (eS c.ro y.1).len L (iS (eF c.ps) y.2))=ok at D;cases ok with
      |false=>cases D
      | true=>
       rw[aq]at D;have e1:∀ns cn nr,(σ.dh ns cn nr).t t=σ.t t:=λns cn nr=>A.aoI O ns cn
       have:=aoJ (t:=t) D (by rw[e1];exact O) U;rw[this,e1]
     ·cases D
   ·cases h
def aoL{E:Nat}{I:aW}{L:A}(O:ki x)(T:mO e u)(U:ki I)(Y:mO E L)(h:e≠E):cJ E I L (cJ e x u σ)=cJ e x u (cJ E I L σ):=by
 refine S.ext' (λk=>?_) λn=>?_
 ·simp only[rD];by_cases C:k=E
  ·subst C;rw[bH rfl,bJ (Ne.symm h),bH rfl,Y.drop (Ne.symm h)]
  ·rw[bJ C];by_cases D:k=e
   ·subst D;rw[bH rfl,bH rfl,T.drop h]
   ·rw[bJ D,bJ D,bJ C,A.U9]
 ·simp only[pE];by_cases C:n=E
  ·subst C;rw[bH rfl,bJ (Ne.symm h),bH rfl,Option.map_some,U.drop]
  ·rw[bJ C];by_cases D:n=e
   ·subst D;rw[bH rfl,bH rfl,Option.map_some,O.drop]
   ·rw[bJ D,bJ D,bJ C];cases σ.m n with
    |none=>rfl
    |some y=>simp only[Option.map_some,aW.U9]
def aoM(L:ki x)(O:mO e u)(T:p e=true)(U:ou o=true)(Y:o.dst≠some e)(C:∀ y∈o.op.operands,(aK σ y).nr p=true/\y ≠ .tmp e){D:S}
  (h:dB P N Φ σ o some=some D):dB P N Φ (cJ e x u σ) o some=some (cJ e x u D):=by
 obtain⟨Z,x',u',hd',GS,lY,uT,iU,pz⟩:=Nj (o:={ o with guard:=none }) (ops:=#[]) U rfl h;have cL:e≠Z:=by rintro rfl;exact Y hd'
 have E:=pz (cJ e x u σ) rfl λy I=>xe (C y I).1 T (C y I).2
 rw[aoL L O lY uT cL,<- iU]at E;exact E
def aoN(D:ou o=true){C:S}(h:dB P N Φ σ o some=some C){t:Nat}(E:(σ.t t).fM=true)(I:o.dst≠some t):C.t t=σ.t t:=by
 obtain⟨L,Y,Z,O,GS,lY,uT,T,pz⟩:=Nj (o:={ o with guard:=none }) (ops:=#[]) D rfl h;have U:t≠L:=by rintro rfl;exact I O
 rw[T,rD,bJ U,A.Nu E]
def aoO(Z:ki x)(hu:mO e u)(C:p e=true)(hm:isApp o=true)(hd:o.dst≠some e)(L:∀ y∈o.op.operands,(aK σ y).nr p=true/\y ≠ .tmp e){O:S}
  (h:dB P N Φ σ o some=some O):dB P N Φ (cJ e x u σ) o some=some (cJ e x u O):=by
 obtain⟨a,b,t,t',I,hn,nE,hk⟩:=U5 hm;have E:=L a (by rw[I];simp[Op.operands,Call.operands]);have hb:=L b (by rw[I];simp[Op.operands,Call.operands]);rw[HA I hn nE hk]at h ⊢;obtain⟨d,T,h⟩:=jG h;obtain⟨r,v,iU,hr,pz⟩:=Nk h;have U:d≠e:=by rintro rfl;exact hd T
 have Y:r≠e:=by
  rcases hr with h1|h1
  ·rw[h1];exact U
  ·rintro rfl;have D:=E.1;rw[h1]at D;simp[A.nr,A.fr,tN,Lf.nr,Lf.fr,ot,iP,C]at D
 unfold gD;rw[T];simp only;rw[xe E.1 C E.2,xe hb.1 C hb.2,pz (cJ e x u σ) (λk=>aoA hb.1 C) (λr' v' fG sn=>?_)]
 ·rw[abH v Z hu (Ne.symm Y),Nr U ?_,iU];have:cS e [r]=false:=by simp[cS,Y]
  simp only[A.drop,Lf.drop,this,au,A.cF,wC,Lf.cF]
 ·have cL:r'≠e:=by
   rintro rfl;have D:=E.1;rw[fG]at D;simp[A.nr,A.fr,tN,Lf.nr,Lf.fr,ot,iP,C]at D
  rw[pE,bJ cL,sn];rfl
def aoP(D:isApp o=true){C:S}(h:dB P N Φ σ o some=some C){t:Nat}(E:(σ.t t).fM=true)(I:o.dst≠some t):C.t t=σ.t t:=by
 obtain⟨a,b,t1,t2,L,O,T,U⟩:=U5 D;rw[HA L O T U]at h;obtain⟨d,Y,h⟩:=jG h;obtain⟨r,v,Z,hr,pz⟩:=Nk h;have cL:t≠d:=by rintro rfl;exact I Y
 rw[Z];show bV ((σ.drop r).root r _).t d _ t=_;rw[cH _ _ _ cL];exact A.Nu E r
def abX(C:∃ ty t y,o.op = .store ty (.tmp t) y/\o.dst=none /\ ∃ r j,σ.t t = .aG r j){I:S}(h:dB P N Φ σ o some=some I):∃ t y r j cs xs,o.op.operands = #[.tmp t,y]/\σ.t t = .aG r j/\(aK σ y).yG=some xs/\σ.m r=some (.aC cs)/\I=σ.root r (.aC (splice cs j xs)) /\
  ∀(σ2:S) (D:aa Lf),σ2.t t = .aG r j -> aK σ2 y=aK σ y -> σ2.m r=some (.aC D) -> D.length=cs.length -> dB P N Φ σ2 o some=some (σ2.root r (.aC (splice D j xs))):=by
 obtain⟨ty,t,y,C,U,r,j,L⟩:=C;have O:∀ σ2:S,σ2.t t = .aG r j -> dB P N Φ σ2 o some=pY P σ2 ty (.aG r j) (aK σ2 y) some:=by
  intro σ2 E;unfold dB;rw[show fM o.op=false by rw[C];rfl,au];simp[iy,C,U];have Y:aK σ2 (.tmp t) = .aG r j:=E;rw[Y,show w6 _ _=false from rfl,au]
 rw[O σ L]at h;unfold pY at h;split at h
 ·rename_i n xs Z T;split at h
  ·rename_i hlen;simp only at h;split at h
   ·rename_i cs jq;split at h
    ·rename_i hj;cases hl:xs.all Lf.live with
     |false=>simp_all
     | true=>
      rw[hl,aq]at h;injection h with h
      refine⟨t,y,r,j,cs,xs,by rw[C];rfl,L,T,jq,h.symm,λσ2 D h1 E h3 h4=>?_⟩
      rw[O σ2 h1,E];simp only[pY,Z,T,bH hlen,h3];rw[bH (by rw[h4];exact hj),hl];rfl
    ·cases h
   ·cases h
  ·cases h
 ·cases h
def abY(C:Hs o=true)(E:w7 σ o=true):∃ ty t y,o.op = .store ty (.tmp t) y/\o.dst=none /\ ∃ r j,σ.t t = .aG r j:=by
 unfold Hs at C;rw[aO]at C;obtain⟨D,I⟩:=C;split at D
 ·rename_i ty t y L;refine⟨ty,t,y,L,Option.isNone_iff_eq_none.1 I,?_⟩;unfold w7 at E
  grind
 ·cases D
def aoQ{y:A}{xs:aa Lf}(h:y.yG=some xs)(C:y.nr p=true):xs.all (Lf.nr p)=true:=by
 cases y with
 |lf l=>injection h with h;subst h;rw[List.all_cons,show l.nr p=true from C];rfl
 |agg cs=>injection h with h;subst h;exact C
 |_=>cases h
def aoR(hx:ki x)(hu:mO e u)(C:p e=true)(hm:Hs o=true)(hs:w7 σ o=true)(L:∀ y∈o.op.operands,(aK σ y).nr p=true/\y ≠ .tmp e){O:S}
  (h:dB P N Φ σ o some=some O):dB P N Φ (cJ e x u σ) o some=some (cJ e x u O):=by
 obtain⟨t,y,r,j,cs,xs,T,U,g3,g4,g5,g6⟩:=abX (abY hm hs) h;have D:=L (.tmp t) (by rw[T];simp);have E:=L y (by rw[T];simp);have e1:(cJ e x u σ).t t = .aG r j:=(xe D.1 C D.2).trans U;have Y:r≠e:=by
  have Z:(aK σ (.tmp t)).nr p=true:=D.1;have h3:aK σ (.tmp t) = .aG r j:=U;rw[h3]at Z;exact aod Z C
 have e3:(cJ e x u σ).m r=some (.aC (cs.map (Lf.drop e))):=by
  rw[pE,bJ Y,g4];rfl
 have oU:=qQ.zj (aoQ g3 E.1) C;rw[g6 (cJ e x u σ) _ e1 (xe E.1 C E.2) e3 (by rw[eI]),g5];congr 1
 refine S.ext' (λk=>?_) λn=>?_
 ·show (cJ e x u σ).t k=(cJ e x u (σ.root r (.aC (splice cs j xs)))).t k;rw[rD,rD];rfl
 ·show bV (cJ e x u σ).m r (some (.aC (splice (cs.map (Lf.drop e)) j xs))) n=(cJ e x u (σ.root r (.aC (splice cs j xs)))).m n;rw[pE];by_cases I:n=r
  ·subst I;rw[cc,bJ Y];show _=(bV σ.m n (some (aW.aC (splice cs j xs))) n).map (aW.drop e);rw[cc];simp only[Option.map_some,aW.Hv,splice,kX,List.map_take,List.map_drop,oU]
  ·rw[cH _ _ _ I,pE];have:(σ.root r (.aC (splice cs j xs))).m n=σ.m n:=cH _ _ _ I;rw[this]
def aoS(D:Hs o=true)(E:w7 σ o=true){C:S}(h:dB P N Φ σ o some=some C)(t:Nat):C.t t=σ.t t:=by
 obtain⟨_,_,r,j,cs,xs,_,_,_,_,I,_⟩:=abX (abY D E) h;rw[I];rfl
def aoT(U:fL P Φ)(C:ki x)(D:mO e u)(Y:e<20000)(E:p e=true)(Z:∀ n,20000<=n->p n=false)(L:Ht Φ o=true)(jY:w7 σ o=true)(O:o.dst≠some e)(I:∀ y∈o.op.operands,(aK σ y).nr p=true/\y ≠ .tmp e)(hl:∀ n∈pn Φ σ o,w8 σ p n=true){T:S}
  (h:dB P N Φ σ o some=some T):dB P N Φ (cJ e x u σ) o some=some (cJ e x u T):=by
 unfold Ht at L;rw[eA,eA,eA]at L;rcases L with ((hc|hc)|hc)|hc
 ·exact aoH U C D Y E Z hc O I hl h
 ·exact aoM C D E hc O I h
 ·exact aoO C D E hc O I h
 ·exact aoR C D E hc jY I h
def aoU(L:fL P Φ)(C:Ht Φ o=true)(O:w7 σ o=true){I:S}(h:dB P N Φ σ o some=some I){t:Nat}(D:(σ.t t).fM=true)(E:o.dst≠some t):I.t t=σ.t t:=by
 unfold Ht at C;rw[eA,eA,eA]at C;rcases C with ((hc|hc)|hc)|hc
 ·exact aoK L hc h D E
 ·exact aoN hc h D E
 ·exact aoP hc h D E
 ·exact aoS hc O h t
def abZ{i W j:Nat}{C:Oper}(D:ops[j]?=some C)(h:Hp ops i W j=true):∃ e∈C.after,Region.binds .any e=true/\(e.on=i\/W.testBit e.on=true):=by
 unfold Hp at h;rw[D]at h;obtain⟨e,E,hb⟩:=List.any_eq_true.1 h;rw[aO,eA]at hb
 refine⟨e,by simpa using E,hb.1,hb.2.imp (λh=>cC h) id⟩
def Vn{g:Oper -> Bool}{C:Oper}{i L W:Nat}:∀ (n j:Nat),Hq g ops C i L W n j=true -> ∀ k,j <= k -> k<j+n -> k=i \/ L.testBit k=true \/ (W.testBit k=true/\Hp ops i W k=true) \/ (W.testBit k=false /\ ∀ ok,ops[k]?=some ok -> g ok=true/\C.apart ops ok=true)
 |0,j,_,k,D,E=>by omega
 | n+1,j,h,k,D,E=>by
  unfold Hq at h;rw[aO,eA,eA]at h;by_cases I:k=j
  ·subst I;rcases h.1 with (h | h) | h
   ·exact .inl (cC h)
   ·exact .inr (.inl h)
   ·grind
  ·exact Vn n (j+1) h.2 k (by omega) (by omega)
def pF{g:Oper -> Bool}{i L W:Nat}:∀ (n j:Nat) (k:Nat),j <= k -> k<j+n -> k≠i -> L.testBit k=false -> W.testBit k=false -> ∀ ok,ops[k]?=some ok -> g ok=true -> hJ g ops i L W n j=true
 |0,j,k,C,D,_,_,_,_,_,_=>by omega
 | n+1,j,k,C,D,hi,E,I,ok,O,T=>by
  unfold hJ;rw[eA];by_cases U:k=j
  ·subst U;refine .inl ?_;have hb:Nat.beq k i=false:=by
    cases hb:Nat.beq k i with
    |false=>rfl
    |true=>simp_all
   simp_all
  ·exact .inr (pF n _ k (by omega) (by omega) hi E I ok O T)
def ab0{g:Oper -> Bool}{i L W:Nat}:∀ (n j:Nat),hJ g ops i L W n j=true -> ∃ k ok,ops[k]?=some ok/\k≠i/\L.testBit k=false/\W.testBit k=false/\g ok=true
 |0,j,h=>by cases h
 | n+1,j,h=>by
  unfold hJ at h;rw[eA]at h;rcases h with h|h
  ·rw[aO,gW,pS,pS]at h;obtain⟨⟨⟨D,E⟩,I⟩,C⟩:=h;split at C
   next ok O=>exact⟨j,ok,O,(by rintro rfl;rw[Nat.beq_refl]at D;cases D),E,I,C⟩
   ·cases C
  ·exact ab0 n _ h
theorem aoV[Inhabited Wd]{L i:Nat}{k:S -> aj X}(E:fM o.op=true \/ fX σ ops o=some false)(I:UF σ (zo Φ ops i L (waits ops i ops.size 0 0) σ) (BB σ ops i L (waits ops i ops.size 0 0)) o=true)(h:Hr P N Φ ops L i σ o k=some r):
  ∃v,k (gj σ o.dst v)=some r/\mN P ops o (zo Φ ops i L (waits ops i ops.size 0 0) σ) (BB σ ops i L (waits ops i ops.size 0 0)) v σ /\ ∀σ:S,gY N σ o.dst v some=some (gj σ o.dst v):=by
 unfold Hr at h;unfold UF at I;rw[aO]at I;split at h
 ·rename_i C;obtain⟨v,D,Z,_⟩:=UK (w0:=default) (N:=N) h;cases O:v.ov _ _ with
  |false=>rw[O]at D;cases D
  | true=>
   rw[O,aq]at D;obtain⟨T,U⟩:=sG D;have E:=E.resolve_right (by rw[C];simp)
   refine⟨v,T,.inl ⟨C,E,Z,λy Y=>cu.1 I.1 y (by simpa using Y),O,λt y r j e Y=>?_⟩,λσ=>(U σ).at_ _⟩
   simp_all
 next C=>obtain⟨T,U⟩:=sG h;exact⟨.skip,T,.inr ⟨C,rfl⟩,λσ=>(U σ).at_ _⟩
 ·cases h
def D6{i L W n:Nat}(h:zn Φ ops i L W σ n=true):zo Φ ops i L W σ n=true:=by unfold zo;rw[h];rfl
def aoW{i L W:Nat}(h:Ge Φ ops i L W σ o=true):∃ ty t y,o.op = .store ty (.tmp t) y/\o.dst=none/\Na Φ ops i L W σ t=true/\(∀ k,σ.t t ≠ .ptr k) /\ ∀ r j,σ.t t = .aG r j -> zm σ o=[r]:=by
 unfold Ge at h;split at h
 ·rename_i ty t y C;rw[aO,aO]at h
  refine⟨ty,t,y,C,by simpa using h.1.1,h.1.2,λk E=>?_,λr j D=>by simp[zm,C,D]⟩
  simp_all
 ·cases h
def aoX{i L W:Nat}(h:UD Φ ops i L W o=true):∃ x y t C,o.op = .call ⟨.builtin .append,⟨[.tmp x,y]⟩,⟨[t,C]⟩⟩/\mK Φ ops i L W x=true/\(qb t=false/\Nat.beq t C=true/\Bz o.dst t (.tmp x)=false):=by
 unfold UD at h
 grind
def aoY{i L W:Nat}(h:UC Φ ops i L W σ o=true):∃ f args C c,o.op = .call { callee:=.value (.func f),args:=args,argTypes:=C } /\ Φ f=some (.m c)/\M7 c=true/\sE (λt r=>!hJ (kf t) ops i L W ops.size 0 && !hJ (λok=>eR ok r) ops i L W ops.size 0 && !hJ isApp ops i L W ops.size 0) σ c.ps args.toList=true/\pn Φ σ o=iJ σ c.ps args.toList:=by
 unfold UC at h;split at h
 ·rename_i f args C D;split at h
  next c E=>rw[aO]at h;exact⟨f,args,C,c,D,E,h.1,h.2,by simp[pn,D,E]⟩
  ·cases h
 ·cases h
def HE{p:Nat -> Bool}:∀ (ps:aa PK) (xs:aa Operand),(∀ x∈xs,(aK σ x).nr p=true) -> ∀ n∈iJ σ ps xs,p n=false
 |[],[],_,n,hn=>by cases hn
 |.v _ _::ps,x::xs,h,n,hn=>HE ps xs (λy C=>h y (.tail _ C)) n hn
 |.s _ _::ps,x::xs,h,n,hn=>HE ps xs (λy C=>h y (.tail _ C)) n hn
 | .p _ _ _ :: ps,x :: xs,h,n,hn=>by
  simp[iJ]at hn;split at hn
  ·rename_i I j E;rcases gn.1 hn with rfl | hn
   ·have D:=h x (.head _);rw[E]at D;have D:(!p n)=true:=D
    simpa using D
   ·exact HE ps xs (λy C=>h y (.tail _ C)) n hn
  ·exact HE ps xs (λy C=>h y (.tail _ C)) n hn
def Nv{D:aj Tmp}{g:Bool}{k:S -> aj X}(h:sD σ D g k=some r):k σ=some r:=by
 unfold sD at h;cases g with
 |false=>exact h
 | true=>
  rw[aq]at h;split at h
  ·rename_i d;split at h
   ·rename_i b hb;have:∀ c,b=c -> σ.set d (.lf (.v (.bool c)))=σ:=by
     rintro c rfl
     refine S.ext' (λk=>?_) λ_=>rfl
     show bV _ _ _ _=_;by_cases C:k=d
     ·subst C;rw[cc,hb]
     ·rw[cH _ _ _ C]
    grind
   ·exact h
  ·exact h
def ab1{L j:Nat}(h:l8 ops L j=true):j<ops.size:=by
 obtain⟨_,o,C,_⟩:=HB.1 h
 grind
def BI{L j:Nat}:j∈(List.range ops.size).filter (l8 ops L) ↔ l8 ops L j=true:=by
 rw[List.mem_filter,fk];exact⟨λh=>h.2,λh=>⟨ab1 h,h⟩⟩
structure ab2 (ops:Array Oper) (p:Nat->Bool) (σ:S) (o:Oper):Prop where
 is:ou o=true
 want:fX σ ops o=some true
 aCM:∀y∈o.op.operands,(aK σ y).fM=true/\∀t,y = .tmp t->p t=false
 guard:∀g c t,o.guard=some (g,c)->(ops[g]?).bind (·.dst)=some t->p t=false
def aoZ{x:A}{n:Nat}{z:V}(h:rq x n=some z)(X:Type)(k:A -> aj X):A9 x n k=k (.lf (.v z)):=by
 unfold rq at h;split at h
 ·split at h
  next xs _ _ C=>injection h with h;subst h;simp[A9,C,Option.bind_some,yI]
  ·cases h
 ·cases h
def ab3{x:A}{n:Nat}{z:V}{g:Lf -> Lf}{G:A -> A}(C:∀ xs,G (.eV xs) = .eV (xs.map λp=>(p.1,p.2.map g)))(D:∀ z,g (.v z) = .v z)(h:rq x n=some z):rq (G x) n=some z:=by
 unfold rq at h;split at h
 ·split at h
  next xs _ _ E=>injection h with h;subst h;rw[C];simp[rq,eH,E,Option.map_some,List.map_cons,List.map_nil,D]
  ·cases h
 ·cases h
def Vo{v:A}(C:∀ q,v.drop q=v){rr d:Nat}{key:Nat -> aa Nat}:∀ (f j:Nat) (xs:aa Lf) (σ:S),gZ rr key f j xs (σ.set d v)=(gZ rr key f j xs σ).map λp=>(p.1,p.2.set d v)
 |_,_,[],σ=>by simp[gZ]
 |0,j,x::xs,σ=>by cases x<;>simp[gZ]
 | f+1,j,.v x :: xs,σ=>by
  simp only[gZ,Vo C f];cases gZ rr key f (j+1) xs σ<;>rfl
 | f+1,j,.own [q] :: xs,σ=>by
  simp only[gZ];show (match σ.m q with
   |some (.sl z)=>_
   |_=>none)=_
  cases D:σ.m q with
  |none=>rfl
  | some y=>
   cases y with
   | sl z=>
    cases Nat.beq q rr with
    |true=>rfl
    | false=>
     simp only[au];rw[S.drop_set q (C q),Vo C f];cases gZ rr key f (j+1) (xs.map (Lf.drop q)) (σ.drop q)<;>rfl
   |_=>rfl
 |f+1,j,.own []::xs,σ=>rfl
 |f+1,j,.own (_::_::_)::xs,σ=>rfl
 |f+1,j,.dead::xs,σ=>rfl
def Vp{rr:Nat}{key:Nat -> aa Nat}{x n:Nat}{z:V}:∀ (f j:Nat) (xs:aa Lf) (σ C:S) (D:aa V),gZ rr key f j xs σ=some (D,C) -> rq (σ.t x) n=some z -> rq (C.t x) n=some z
 | _,_,[],σ,C,D,h,E=>by
  simp only[gZ]at h;simp_all
 |0,j,y::xs,σ,C,D,h,E=>by cases y<;>simp[gZ]at h
 | f+1,j,.v y :: xs,σ,C,D,h,E=>by
  simp only[gZ]at h;cases I:gZ rr key f (j+1) xs σ with
  |none=>simp_all
  | some p=>
   rw[I]at h;injection h with h;injection h with _ h;subst h;exact Vp f (j+1) xs σ p.2 p.1 I E
 | f+1,j,.own [q] :: xs,σ,C,D,h,E=>by
  simp only[gZ]at h;split at h
  ·cases hb:Nat.beq q rr with
   |true=>simp_all
   | false=>
    rw[hb,au]at h;cases I:gZ rr key f (j+1) (xs.map (Lf.drop q)) (σ.drop q)with
    |none=>simp_all
    | some p=>
     rw[I]at h;injection h with h;injection h with _ h;subst h;refine Vp f (j+1) _ (σ.drop q) p.2 p.1 I ?_;exact ab3 (G:=A.drop q) (g:=Lf.drop q) (λ_=>rfl) (λ_=>rfl) E
  ·cases h
def ao0{d:Nat}{v:V}{t:TypeId}{x y:A}{I:S}(h:tO P (σ.set d (.lf (.v v))) t x y some=some I):∃ D,tO P σ t x y some=some D/\I=D.set d (.lf (.v v)) /\ ∀ (e n:Nat) (z:V),rq (σ.t e) n=some z -> rq (D.t e) n=some z:=by
 unfold tO at h;split at h
 ·rename_i n xs j i s rr Z oU;split at h
  ·rename_i hlen;cases L:xs.all Lf.live with
   |false=>simp_all
   | true=>
    rw[L,aq]at h;split at h
    ·rename_i vs τ1 C;rw[Vo (v:=.lf (.v v)) (λ_=>rfl)]at C;cases E:gZ rr (λm=>(j+m) :: i :: s :: [rr]) xs.length 0 xs σ with
     |none=>simp_all
     | some p=>
      rw[E]at C;obtain⟨vs0,O⟩:=p;injection C with C;injection C with e1 e2;subst e1 e2;split at h
      ·rename_i T U Y l iU;have ao1:O.m rr=some (.sl (.sl T (U+2) Y l)):=iU;split at h
       ·rename_i oS;split at h
        ·rename_i hi;split at h
         ·rename_i hj;split at h
          ·rename_i e he;injection h with h
           refine⟨O.dh [rr] [] [(rr,.sl (.sl T (U+2) Y (l.set i e)))],?_,?_,λex nx z hz=>?_⟩
           ·simp[tO,Z,oU,bH hlen,L,aq,E,ao1,bH oS,aB hi,bH hj,he]
           ·rw[<- h];exact S.U3 _ rfl
           ·exact ab3 (G:=A.dh [rr] []) (λ_=>rfl) (λ_=>rfl) (Vp _ _ _ _ _ _ E hz)
          ·cases h
         ·cases h
        ·cases h
       ·cases h
      ·cases h
    ·cases h
  ·cases h
 ·cases h
def ab4{t:TypeId}{a b:Operand}(C:o.op = .store t a b)(D:o.dst=none)(E:w6 (aK σ a) (aK σ b)=true):dB P N Φ σ o some=tO P σ t (aK σ a) (aK σ b) some:=by
 unfold dB;rw[show fM o.op=false by rw[C];rfl,au];simp[iy,C,D,E,aq]
theorem ao2[Inhabited Wd](dQ:fL P Φ){K:S -> Prop}{f L i:Nat}{U:Oper}{τ:S}(hi:ops[i]?=some U)(hr:l8 ops L i=true)(D:UH ops L σ i=true)(iU:dy P N Φ ops σ U some=some τ)(H:Any P N Φ ops K f (L ||| 2 ^ i) τ):Any P N Φ ops K (f+1) L σ:=by
 unfold UH at D;rw[hi]at D;split at D
 ·rename_i oi' j0 e1 ao3;injection e1 with e1;subst e1;split at D
  ·rename_i x n d oj zB zC BJ hj0;split at D
   ·rename_i ty a b Y ab5 ab6;rw[aO,aO]at D;obtain⟨⟨c1,c2⟩,c3⟩:=D;obtain⟨z,hz⟩:=Option.isSome_iff_exists.1 c1;obtain⟨a1,a2,a3⟩:=Oper.apart_spec c3;have hpd:∀ j,j<ops.size -> j≠i -> L.testBit j=false -> j=j0:=by
     intro j E I O;have:j∈(List.range ops.size).filter (λj=>!(Nat.beq j i || L.testBit j)):=by
      rw[List.mem_filter];refine⟨fk.2 E,?_⟩;rw[O,Bool.or_false];cases hb:Nat.beq j i with
      |false=>rfl
      |true=>exact absurd (cC hb) I
     rw[ao3]at this;exact kI.1 this
    have rC:∀ σ2:S,rq (σ2.t x) n=some z -> dy P N Φ ops σ2 U some=gY N σ2 (some d) (.lf (.v z)) some:=by
     intro σ2 h2;unfold dy;simp only[fX,BJ];unfold dB;rw[show fM U.op=true by rw[zB];rfl,aq,zB];simp only[mJ];rw[show aK σ2 (.tmp x)=σ2.t x from rfl,aoZ h2,zC]
    have hN:∀ σ2:S,gY N σ2 (some d) (.lf (.v z)) some=some (σ2.set d (.lf (.v z))):=by
     intro σ2;rw[rC σ hz]at iU;obtain⟨_,g2⟩:=sG iU;exact(g2 σ2).at_ _
    have hE:τ=σ.set d (.lf (.v z)):=by
     grind
    rw[hE]at H
    refine U8 (W:=0) hi (λj oj _ E=>by rw[Nat.zero_testBit]at E;cases E) (λσ=>σ.set d (.lf (.v z)))
     (λL' C=>rq (C.t x) n=some z /\ ∀j,j<ops.size -> j≠i -> L'.testBit j=false -> j=j0/\w6 (aK C a) (aK C b)=true)
     (λL' C Z=>(rC C Z.1).trans (hN C)) (λL' C j oj' sq Z T I O _ zz=>?_) f L σ (λj E=>by rw[Nat.zero_testBit]at E;cases E) hr
     ⟨hz,λj E I O=>⟨hpd j E I O,c2⟩⟩ H
    obtain⟨rfl,hg⟩:=Z.2 j (iB.1 T).1 I O;rw[hj0]at T;injection T with T;subst T;have ha:aK (C.set d (.lf (.v z))) a=aK C a:=D1 (a1 d zC) _ (by rw[Y];simp[Op.operands]);have hb:aK (C.set d (.lf (.v z))) b=aK C b:=D1 (a1 d zC) _ (by rw[Y];simp[Op.operands]);have jY:dy P N Φ ops (C.set d (.lf (.v z))) oj some=tO P (C.set d (.lf (.v z))) ty (aK C a) (aK C b) some:=by
     unfold dy;simp only[fX,ab6];rw[ab4 Y ab5 (by rw[ha,hb];exact hg),ha,hb]
    rw[jY]at zz;obtain⟨σ2,h1,h2,h3⟩:=ao0 zz
    refine⟨σ2,?_,h2,h3 _ _ _ Z.1,λk hk hki hkL=>?_⟩
    ·unfold dy;simp only[fX,ab6];rw[ab4 Y ab5 hg];exact h1
    ·grind
   ·cases D
  ·cases D
 ·cases D
theorem HF[Inhabited Wd](dQ:fL P Φ):∀ (f L:Nat) (σ:S) (k:S->aj X),ru P N Φ ops f L σ k=some r->Any P N Φ ops (λτ=>k τ=some r) f L σ
 | 0,L,σ,k,h=>by
  unfold ru at h;split at h
  ·rename_i hr
   refine⟨λj=>?_,h⟩
   cases Y:l8 ops L j with
   |false=>rfl
   |true=>have:=BI.2 Y;rw[hr]at this;cases this
  ·cases h
 | f+1,L,σ,k,h=>by
  unfold ru at h;split at h
  ·rename_i hr
   refine⟨λ_=>h,λj Y=>?_⟩
   have:=BI.2 Y;rw[hr]at this;cases this
  ·rename_i i hr;have hi:l8 ops L i=true:=BI.1 (by rw[hr];exact .head _)
   refine⟨λh=>absurd (h i) (by rw[hi];simp),λj Y=>?_⟩
   have Y:=BI.2 Y;rw[hr]at Y;obtain rfl:=kI.1 Y;split at h
   next o ho=>obtain⟨τ,h1,h2⟩:=UX dQ h;exact⟨o,τ,ho,h2,HF dQ f _ τ k (Nv h1)⟩
   ·cases h
  ·rename_i rs hn hs;split at h
   ·rename_i i hf;have hc:=List.find?_some hf;have hm:=List.mem_of_find?_eq_some hf;have hi:=BI.1 hm;split at h
    ·rename_i o ho;unfold abf at hc;rw[ho,aO,aO,aO]at hc;obtain⟨⟨⟨c1,c2⟩,c3⟩,c4⟩:=hc;have c1:fM o.op=true\/fX σ ops o=some false:=by
      rw[eA]at c1
      refine c1.imp id λc1=>?_
      split at c1
      next b hb=>rw[hb];cases b<;>first|rfl|cases c1
      ·cases c1
     obtain⟨v,h1,hF,hN⟩:=aoV c1 c4 h;have qe:=Vn _ _ c3;have c2:=cC c2;have HG:∀ j,(waits ops i ops.size 0 0).testBit j=true->(L ||| 2 ^ i).testBit j=false:=by
      intro j Y;have:((L |||2 ^ i) &&& waits ops i ops.size 0 0).testBit j=false:=by rw[c2];exact Nat.zero_testBit j
      rw[Nat.testBit_and,Y,Bool.and_true]at this;exact this
     have vk:∀ j,(waits ops i ops.size 0 0).testBit j=true->L.testBit j=false:=by
      intro j Y;have:=HG j Y;rw[zx,pS]at this;exact this.1
     refine aox (W:=waits ops i ops.size 0 0) (ok:=λt r=>!hJ (kf t) ops i L (waits ops i ops.size 0 0) ops.size 0 && !hJ (λok=>eR ok r) ops i L (waits ops i ops.size 0 0) ops.size 0 && !hJ isApp ops i L (waits ops i ops.size 0 0) ops.size 0) (rB:=Na Φ ops i L (waits ops i ops.size 0 0) σ) (mL:=mL Φ ops i L (waits ops i ops.size 0 0) σ) (mK:=mK Φ ops i L (waits ops i ops.size 0 0)) dQ ho hN (λj C D Y=>?_) f L σ (λt r iT j C D O T U=>?_) (λx hx j C D O T U=>?_) (λx hx=>?_) (λt iT j C D O T U=>?_) (λt iT j C D O T U=>?_) (λj C D O T U=>?_) vk hi hF (HF dQ f _ _ k (Nv h1))
     ·have dU:=(iB.1 D).1;rcases qe j (by omega) (by omega)with e | e | e | e
      ·subst e;have:=HG j Y;rw[zx]at this;simp at this
      ·rw[vk j Y]at e;cases e
      ·exact abZ D e.2
      ·rw[Y]at e;cases e.1
     ·have dU:=(iB.1 D).1;rw[aO,aO,gW,gW,gW]at iT
      refine⟨λZ=>?_,?_,?_⟩
      ·have:=pF (g:=kf t) ops.size 0 j (by omega) (by omega) O T U C D (by unfold kf;rw[Z];exact Nat.beq_refl t);rw[iT.1.1]at this;cases this
      ·cases hn:eR C r with
       |false=>rfl
       | true=>
        have:=pF (g:=λok=>eR ok r) ops.size 0 j (by omega) (by omega) O T U C D hn;rw[iT.1.2]at this;cases this
      ·cases hn:isApp C with
       |false=>rfl
       | true=>
        have:=pF (g:=isApp) ops.size 0 j (by omega) (by omega) O T U C D hn;rw[iT.2]at this;cases this
     ·have dU:=(iB.1 D).1;unfold mL at hx;rw[aO]at hx;intro Z;have:=pF (g:=kf x) ops.size 0 j (by omega) (by omega) O T U C D (by unfold kf;rw[Z];exact Nat.beq_refl x);rw[this]at hx;cases hx.1
     ·unfold mL at hx;rw[aO]at hx;have hx:=hx.2;cases hz:σ.t x with
      |aG r j=>rw[hz]at hx;exact hx
      |jd cs=>trivial
      |_=>rw[hz]at hx;cases hx
     ·have dU:=(iB.1 D).1;by_cases Z:C.dst=some t
      ·refine .inr ?_;have Vq:kf t C=true:=by unfold kf;rw[Z];exact Nat.beq_refl t
       cases D4:vj C with
       | false=>
        cases HH:M9 Φ ops i L (waits ops i ops.size 0 0) σ C with
        | false=>
         have:=pF (g:=λok=>kf t ok && !(vj ok ||M9 Φ ops i L (waits ops i ops.size 0 0) σ ok)) ops.size 0 j (by omega) (by omega) O T U C D (by rw[Vq,D4,HH];rfl);unfold Na at iT;rw[this]at iT;cases iT
        | true=>
         unfold M9 at HH;split at HH
         next s x f zD=>exact .inr ⟨s,x,f,zD,HH⟩
         ·cases HH
       | true=>
        refine .inl ⟨rfl,?_⟩;refine D6 ?_;unfold zn;rw[eA]
        refine .inl (pF (g:=λo=>eR o t) _ 0 j (by omega) (by omega) O T U C D ?_)
        obtain⟨ty,e,h1,_,h3,_⟩:=abE D4;unfold eR;rw[Z,h1];exact Nat.beq_refl t
      ·exact .inl Z
     ·have dU:=(iB.1 D).1;by_cases Z:C.dst=some t
      ·refine .inr ?_;have Vq:kf t C=true:=by unfold kf;rw[Z];exact Nat.beq_refl t
       cases uY:ou C with
       | false=>
        cases hma:isApp C with
        |true=>exact .inr (.inl rfl)
        | false=>
         cases BF:zp Φ C with
         |true=>exact .inr (.inr rfl)
         | false=>
          have:=pF (g:=λok=>kf t ok && !(ou ok ||isApp ok ||zp Φ ok)) ops.size 0 j (by omega) (by omega) O T U C D (by rw[Vq,uY,hma,BF];rfl);unfold mK at iT;rw[this]at iT;cases iT
       | true=>
        refine .inl ?_;have l6:eR C t=true:=by
         unfold ou at uY;rw[aO]at uY;have h1:=uY.1;unfold eR;rw[Z];split at h1
         next Bj=>simp only[Bj];exact Nat.beq_refl t
         next Bj=>simp only[Bj];exact Nat.beq_refl t
         next Bj=>simp only[Bj];exact Nat.beq_refl t
         ·cases h1
        have h9:=pF (g:=λo=>eR o t) ops.size 0 j (by omega) (by omega) O T U C D l6;refine⟨rfl,?_,?_⟩
        ·refine D6 ?_;unfold zn;rw[eA];exact .inl h9
        ·unfold BB;rw[eA];exact .inl h9
      ·exact .inl Z
     ·have dU:=(iB.1 D).1;rcases qe j (by omega) (by omega)with e | e | e | e
      ·exact absurd e O
      ·rw[T]at e;cases e
      ·rw[U]at e;cases e.1
      ·obtain⟨e1,e2⟩:=e.2 C D
       refine⟨e2,?_,λn hn=>?_⟩
       ·rw[eA,eA,eA]at e1;rcases e1 with ((e1 | e1) | e1) | e1
        ·exact .inl e1
        ·obtain⟨f',args,jE,c,g1,g2,g3,g4,g5⟩:=aoY e1
         refine .inr (.inl ⟨f',args,jE,c,g1,g2,g3,g4,λn hn=>?_⟩)
         refine D6 ?_;unfold zn;rw[eA]
         refine .inr (pF (g:=λo=>cY n (pn Φ σ o) ||cY n (zm σ o)) _ 0 j (by omega) (by omega) O T U C D ?_)
         rw[g5,tG.2 hn];rfl
        ·obtain⟨ty,t,y,g1,g2,g3,g4,g5⟩:=aoW e1;refine .inr (.inr (.inl ⟨ty,t,y,g1,g2,g3,?_⟩));cases hx:σ.t t with
         | aG r' j'=>
          show zo Φ ops i L (waits ops i ops.size 0 0) σ r'=true;refine D6 ?_;unfold zn;rw[eA]
          refine .inr (pF (g:=λo=>cY r' (pn Φ σ o) ||cY r' (zm σ o)) _ 0 j (by omega) (by omega) O T U C D ?_)
          rw[g5 r' j' hx,eA];exact .inr (tG.2 (.head _))
         |ptr k=>exact absurd hx (g4 k)
         |_=>trivial
        ·obtain⟨x,y,t1,t2,g1,g2,g3⟩:=aoX e1
         refine .inr (.inr (.inr ⟨x,y,t1,t2,g1,g2,g3,λr' fG=>⟨?_,?_⟩⟩))
         ·refine D6 ?_;unfold zn;rw[eA]
          refine .inr (pF (g:=λo=>cY r' (pn Φ σ o) ||cY r' (zm σ o)) _ 0 j (by omega) (by omega) O T U C D ?_)
          have:zm σ C=[r']:=by simp only[zm,g1,fG]
          rw[this,eA];exact .inr (tG.2 (.head _))
         ·unfold BB;rw[eA]
          refine .inr (pF (g:=λo=>cY r' (M8 σ o)) _ 0 j (by omega) (by omega) O T U C D ?_)
          have:M8 σ C=[r']:=by simp only[M8,g1,fG]
          rw[this];exact tG.2 (.head _)
       ·have h9:=pF (g:=λo=>eR o n) ops.size 0 j (by omega) (by omega) O T U C D hn;refine⟨?_,?_⟩
        ·refine D6 ?_;unfold zn;rw[eA];exact .inl h9
        ·unfold BB;rw[eA];exact .inl h9
    ·cases h
   ·split at h
    ·rename_i i hf;have hc:=List.find?_some hf;have hm:=List.mem_of_find?_eq_some hf;have hi:=BI.1 hm;split at h
     ·rename_i o ho;unfold abg at hc;rw[ho,aO,aO,aO,aO,aO]at hc;obtain⟨⟨⟨⟨⟨c1,c2⟩,c3⟩,c4⟩,c5⟩,c6⟩:=hc;have qe:=Vn _ _ c3;have c2:=cC c2;have HG:∀ j,(waits ops i ops.size 0 0).testBit j=true->(L ||| 2 ^ i).testBit j=false:=by
       intro j Y;have:((L |||2 ^ i) &&& waits ops i ops.size 0 0).testBit j=false:=by rw[c2];exact Nat.zero_testBit j
       rw[Nat.testBit_and,Y,Bool.and_true]at this;exact this
      have vk:∀ j,(waits ops i ops.size 0 0).testBit j=true->L.testBit j=false:=by
       intro j Y;have:=HG j Y;rw[zx,pS]at this;exact this.1
      obtain⟨τ,h1,h2⟩:=UX dQ h;generalize hp:(λn=>hJ (λo=>D0 o n) ops i L (waits ops i ops.size 0 0) ops.size 0)=p at c4 c5;have hpe:∀ j C e,ops[j]?=some C->j≠i->L.testBit j=false->(waits ops i ops.size 0 0).testBit j=false->C.dst=some e->p e=true:=by
       intro j C e D O T U Z;have dU:=(iB.1 D).1;rw[<-hp];exact pF (g:=λo=>D0 o e) _ 0 j (by omega) (by omega) O T U C D (by unfold D0 kf;rw[Z];exact Nat.beq_refl e)
      have BH:∀ j C,ops[j]?=some C->j≠i->L.testBit j=false->(waits ops i ops.size 0 0).testBit j=false->UG ops i L (waits ops i ops.size 0 0) σ C=true/\o.apart ops C=true:=by
       intro j C D O T U;have dU:=(iB.1 D).1;rcases qe j (by omega) (by omega)with e|e|e|e
       ·exact absurd e O
       ·rw[T]at e;cases e
       ·rw[U]at e;cases e.1
       ·exact e.2 C D
      have uY:∀ j C,ops[j]?=some C->j≠i->L.testBit j=false->(waits ops i ops.size 0 0).testBit j=false->ab2 ops p σ C:=by
       intro j C D O T U;have hb:=(BH j C D O T U).1;unfold UG at hb;rw[aO,aO,aO]at hb;obtain⟨⟨⟨b1,b2⟩,b3⟩,b4⟩:=hb;have Ni:∀t,hJ (kf t) ops i L (waits ops i ops.size 0 0) ops.size 0=false->p t=false:=λt ht=>by rw[<-hp];exact ht
       refine⟨b1,?_,λy I=>?_,λg c t hg ht=>?_⟩
       ·split at b2
        next b Bc=>rw[Bc,b2]
        ·cases b2
       ·have:=cu.1 b3 y (by simpa using I);rw[aO]at this
        refine⟨this.1,λt ht=>?_⟩
        have h2:=this.2;rw[ht]at h2;exact Ni t (by simpa using h2)
       ·rw[hg]at b4;simp only[ht]at b4;exact Ni t (by simpa using b4)
      have HD:∀ n,20000<=n->p n=false:=by
       intro n hn;cases tR:p n with
       |false=>rfl
       | true=>
        rw[<-hp]at tR;obtain⟨k',Vr,HI,vm,tU,vn,BM⟩:=ab0 _ _ tR;have hm:=(uY k' Vr HI vm tU vn).is;unfold ou at hm;rw[aO]at hm;have hm:=hm.2;unfold D0 kf at BM;split at BM
        next e he=>rw[he]at hm;have h1:e=n:=cC BM;subst h1;exact absurd (cK hm) (Nat.not_le_of_gt (Nat.lt_succ_of_le hn))
        ·cases BM
      have hE:τ=(dy P N Φ ops σ o some).getD σ:=by rw[h2];rfl
      refine U8 (W:=waits ops i ops.size 0 0) ho (λj C D Y=>?_) (λσ=>(dy P N Φ ops σ o some).getD σ)
       (λL' E=>((dy P N Φ ops E o some).isSome=true/\UE E p o=true/\(pn Φ E o).all (w8 E p)=true/\w7 E o=true)/\(∀ j,L'.testBit j=false->L.testBit j=false)/\
        ∀j C,ops[j]?=some C->j≠i->L'.testBit j=false->(waits ops i ops.size 0 0).testBit j=false->ab2 ops p E C)
       (λL' E hI=>?_) (λL' E j C sq hI D O T U iU=>?_) f L σ vk hi ⟨⟨by rw[h2];rfl,c4,c5,c6⟩,λ_ h=>h,uY⟩ (by rw[<-hE];exact HF dQ f _ τ k (Nv h1))
      ·have dU:=(iB.1 D).1;rcases qe j (by omega) (by omega)with e | e | e | e
       ·subst e;have:=HG j Y;rw[zx]at this;simp at this
       ·rw[vk j Y]at e;cases e
       ·exact abZ D e.2
       ·rw[Y]at e;cases e.1
      ·obtain⟨z,hz⟩:=Option.isSome_iff_exists.1 hI.1.1;rw[hz];rfl
      ·obtain⟨⟨i1,i2,i3,i6⟩,i4,i5⟩:=hI;have ap:=(BH j C D O (i4 j T) U).2;obtain⟨m1,m2,m3,m4⟩:=i5 j C D O T U;obtain⟨a1,a2,a3⟩:=Oper.apart_spec ap;obtain⟨z,hz⟩:=Option.isSome_iff_exists.1 i1;have hEz:(dy P N Φ ops E o some).getD E=z:=by rw[hz];rfl
       have iU:dy P N Φ ops z C some=some sq:=by rw[<-hEz];exact iU
       have ab7:∀ t,(E.t t).fM=true->o.dst≠some t->z.t t=E.t t:=by
        intro t ht Z;unfold dy at hz;split at hz
        ·exact aoU dQ c1 i6 hz ht Z
        ·obtain⟨g1,_⟩:=sG hz;injection g1 with g1;rw[<-g1];cases zC:o.dst with
         |none=>rfl
         |some d=>exact cH _ _ _ (by rintro rfl;exact Z zC)
        ·cases hz
       have ao4:∀ g c t,C.guard=some (g,c)->(ops[g]?).bind (·.dst)=some t->(E.t t).fM=true\/E.t t = .skip:=by
        intro g c t hg ht;unfold fX at m2;rw[hg]at m2;simp only[ht]at m2;split at m2
        next b hb=>left;rw[hb];rfl
        next hb=>exact .inr hb
        ·cases m2
       have BJ:∀ g c t,C.guard=some (g,c)->(ops[g]?).bind (·.dst)=some t->o.dst≠some t:=by
        intro g c t hg ht Z;refine a1 t Z (List.mem_append_right _ ?_);rw[hg];simp only[ht];simp
       have hwz:fX z ops C=some true:=by
        rw[zq (σ:=E) λg c t hg ht=>?_]
        ·exact m2
        ·rcases ao4 g c t hg ht with h | h
         ·exact ab7 t h (BJ g c t hg ht)
         ·exfalso;unfold fX at m2;rw[hg]at m2;simp only[ht,h]at m2;cases m2
       have ao5:∀ y∈C.op.operands,aK z y=aK E y:=by
        intro y I;cases y with
        | tmp t=>
         refine ab7 t (m3 _ I).1 λZ=>?_
         exact a1 t Z (List.mem_append_left _ (List.mem_filterMap.2 ⟨.tmp t,by simpa using I,rfl⟩))
        |_=>rfl
       obtain⟨e,x,u,Z,he,hx,hu,zz,pz⟩:=Nj m1 hwz iU;have BN:=hpe j C e D O (i4 j T) U Z;have qX:=a3 e Z;have sH:∀ y∈o.op.operands,(aK E y).nr p=true/\y ≠ .tmp e:=by
        intro y I;refine⟨cu.1 i2 y (by simpa using I),?_⟩;rintro rfl;exact qX (List.mem_append_left _ (List.mem_filterMap.2 ⟨.tmp e,by simpa using I,rfl⟩))
       have zC:o.dst≠some e:=λh=>a2 e h Z
       have ao6:fX (cJ e x u E) ops o=fX E ops o:=by
        have hw:∃ b,fX E ops o=some b:=by
         unfold dy at hz;cases hw:fX E ops o with
         |none=>rw[hw]at hz;cases hz
         |some b=>exact⟨b,rfl⟩
        obtain⟨b,hw⟩:=hw
        refine zq λg c t' Dl ht'=>?_
        rw[rD,bJ ?_]
        ·exact A.Bq (p:=p) (pb:=p) (UY hw g c t' Dl ht') BN BN
        ·rintro rfl;refine qX (List.mem_append_right _ ?_);rw[Dl];simp only[ht'];simp
       have rC:dy P N Φ ops (cJ e x u E) o some=some (cJ e x u z):=by
        unfold dy at hz ⊢;rw[ao6];split at hz
        next hw=>exact aoT dQ hx hu he BN HD c1 i6 zC sH (λn hn=>cu.1 i3 n hn) hz
        next hw=>obtain⟨g1,g2⟩:=sG hz;injection g1 with g1;refine((g2 (cJ e x u E)).at_ _).trans ?_;rw[<-g1,aoy zC rfl]
        ·cases hz
       have Vs:∀y∈o.op.operands,aK (cJ e x u E) y=aK E y:=λy I=>xe (sH y I).1 BN (sH y I).2
       have hL:∀ k,(L' ||| 2 ^ j).testBit k=false->L'.testBit k=false/\k≠j:=by
        intro k hk;rw[zx,pS]at hk;refine⟨hk.1,?_⟩;rintro rfl;simp at hk
       refine⟨cJ e x u E,pz E m2 (λy I=>(ao5 y I).symm),?_,⟨by rw[rC];rfl,?_,?_,?_⟩,λk hk=>i4 k (hL k hk).1,λk Vr hk hki hkL hkW=>?_⟩
       ·rw[zz,rC];rfl
       ·unfold UE;rw[cu];intro y I;rw[Vs y (by simpa using I)];exact(sH y (by simpa using I)).1
       ·have hrj:pn Φ (cJ e x u E) o=pn Φ E o:=by
         unfold pn;split
         ·rename_i f' args jE zD;split
          ·refine Hz _ _ λy I=>Vs y ?_
           rw[zD];simp only[Op.operands,Call.operands];simp only[Array.mem_append]
           first
            |exact .inr (by simpa using I)
            |exact .inl (by simpa using I)
          ·rfl
         ·rfl
        rw[hrj,cu];intro n hn;have h3:=cu.1 i3 n hn;have cL:n≠e:=by
         rintro rfl;have tR:p n=false:=by
          unfold pn at hn;split at hn
          ·rename_i f' args jE zD;split at hn
           ·refine HE _ _ (λy I=>(sH y ?_).1) n hn
            rw[zD];simp only[Op.operands,Call.operands];simp only[Array.mem_append]
            first
             |exact .inr (by simpa using I)
             |exact .inl (by simpa using I)
           ·cases hn
          ·cases hn
         rw[BN]at tR;cases tR
        unfold w8 at h3 ⊢;rw[pE,bJ cL];cases hm:E.m n with
        |none=>rfl
        | some y=>
         cases y with
         |sl=>rfl
         |mp=>rfl
         |gh=>rfl
         | aC cs=>
          rw[hm]at h3;simp only[Option.map_some,aW.Hv,qQ.zj h3 BN];exact h3
       ·unfold w7 at i6 ⊢;split
        next ty t y zD=>rw[zD]at i6;have e1:(cJ e x u E).t t=E.t t:=Vs (.tmp t) (by rw[zD];simp[Op.operands]);rw[e1];exact i6
        ·rfl
       ·obtain⟨n1,n2,n3,n4⟩:=i5 k Vr hk hki (hL k hkL).1 hkW;have ao7:∀ t,p t=false->t≠e:=by rintro t ht rfl;rw[BN]at ht;cases ht
        have ab8:∀ t,(E.t t).fM=true->p t=false->(cJ e x u E).t t=E.t t:=by
         intro t ht htp;rw[rD,bJ (ao7 t htp)];exact A.Nu ht e
        refine⟨n1,?_,λy I=>?_,n4⟩
        ·rw[zq (σ:=E) λg c t hg ht=>?_]
         ·exact n2
         ·unfold fX at n2;rw[hg]at n2;simp only[ht]at n2;split at n2
          next b hb=>exact ab8 t (by rw[hb];rfl) (n4 g c t hg ht)
          next hb=>cases n2
          ·cases n2
        ·refine⟨?_,(n3 y I).2⟩;cases y with
         | tmp t=>
          show ((cJ e x u E).t t).fM=true;rw[ab8 t (n3 _ I).1 ((n3 _ I).2 t rfl)];exact(n3 _ I).1
         |const v=>exact(n3 _ I).1
         |global g=>exact(n3 _ I).1
         |func f=>exact(n3 _ I).1
     ·cases h
    ·split at h
     ·rename_i i hf;have hc:=List.find?_some hf;have hm:=List.mem_of_find?_eq_some hf;have hi:=BI.1 hm;split at h
      next o ho=>obtain⟨τ,h1,h2⟩:=UX dQ h;exact ao2 dQ ho hi hc h2 (HF dQ f _ τ k (Nv h1))
      ·cases h
     ·cases h
def D7{b:Bool}(h:fX σ ops o=some b)(hR:Rl w0 N ah ρ σ a w):Region.wanted o (yielded ops a.tmps)=b:=by
 unfold fX at h;split at h
 next I=>injection h with h;subst h;simp[Region.wanted,I]
 ·rename_i j want I;split at h
  ·rename_i t L;have D:=hR.tmp t;rw[iq]at D;split at h
   ·rename_i c O;rw[O]at D;have E:=D.2.yF;injection h with h;subst h;cases C:a.tmps[t]? with
    |none=>rw[C]at E;cases E
    | some v=>
     rw[C]at E;subst E;simp only[Region.wanted,I,yielded,L,Option.bind_some,C];simp_all
   ·rename_i O;rw[O]at D;injection h with h;subst h;cases C:a.tmps[t]? with
    |none=>simp[Region.wanted,I,yielded,L,C]
    | some v=>
     rw[C]at D;have E:=D;subst E;simp only[Region.wanted,I,yielded,L,Option.bind_some,C,undef];simp_all
   ·cases h
  ·cases h
structure tV (ops:Array Oper) (ab9:Array Bool) (L:Nat):Prop where
 size:ab9.size=ops.size
 bit:∀j,j<ops.size->ab9[j]?=some (L.testBit j)
 out:∀j,ops.size<=j->L.testBit j=false
def tV.acd{C:Array Bool}{L:Nat}(h:tV ops C L)(j:Nat):C.getD j false=L.testBit j:=by
 rw[iq];by_cases D:j<ops.size
 ·rw[h.bit j D];rfl
 ·rw[h.out j (by omega),Array.getElem?_eq_none (by rw[h.size];omega)];rfl
def tV.ready{T:Array Bool}{L:Nat}(h:tV ops T L)(j:Nat):j∈Region.ready .any ops T ↔ l8 ops L j=true:=by
 rw[mem_ready,HB];constructor
 ·rintro⟨D,o,C,E⟩;have I:=(iB.1 C).1;rw[iq,h.bit j I]at D;exact⟨D,o,C,λe O hb=>by rw[<-h.acd];exact E e O hb⟩
 ·rintro⟨D,o,C,E⟩;have I:=(iB.1 C).1;exact⟨by rw[iq,h.bit j I];exact D,o,C,λe O hb=>by rw[h.acd];exact E e O hb⟩
def tV.set{D:Array Bool}{L i:Nat}(h:tV ops D L)(hi:i<ops.size):tV ops (D.setIfInBounds i true) (L ||| 2 ^ i):=by
 refine⟨by simp[h.size],λj C=>?_,λj C=>?_⟩
 ·rw[zx];by_cases E:i=j
  ·subst E;rw[Array.getElem?_setIfInBounds_self_of_lt (by rw[h.size];exact hi)];simp
  ·rw[Array.getElem?_setIfInBounds_ne E,h.bit j C];simp_all
 ·rw[zx,h.out j C]
  grind
def tV.start:tV ops (Array.replicate ops.size false) 0:=
 ⟨by simp,λj C=>by simp[C],λj _=>Nat.zero_testBit j⟩
def ao8(U:fL P Φ){k:S -> aj X}{i:Nat}(hi:ops[i]?=some o)(h:dy P N Φ ops σ o k=some r):∃ E,k E=some r /\ ∀ a w (K:Act -> World -> Prop) (Q:Exit -> Act -> World -> Prop),R w0 N σ a w -> (∀ O w',R w0 N E O w' -> K O w') -> wpOp P ops Q i K a w:=by
 unfold dy at h;split at h
 ·rename_i I;obtain⟨E,Y,Z⟩:=UL U h
  refine⟨E,Y,λa w K Q hR D=>?_⟩
  obtain⟨ah,ρ,C⟩:=hR;unfold wpOp;rw[hi];simp[D7 I C];exact .inl (Z a w K Q ⟨ah,ρ,C⟩ D)
 ·rename_i I;unfold gY at h;split at h
  ·rename_i L
   refine⟨σ,h,λa w K Q hR D=>?_⟩
   obtain⟨ah,ρ,C⟩:=hR;unfold wpOp;rw[hi];simp[D7 I C,L];exact D _ _ ⟨ah,ρ,C⟩
  ·rename_i d L;cases T:Nat.blt d N with
   |false=>simp_all
   | true=>
    rw[T,aq]at h
    refine⟨_,h,λa w K Q hR D=>?_⟩
    obtain⟨ah,ρ,C⟩:=hR;unfold wpOp;rw[hi];simp only[D7 I C,L];exact D _ _ ⟨ah,ρ,C.set rfl (by have:=cK T;omega)⟩
 ·cases h
def ace(U:fL P Φ){K:S -> Prop}{Q:Exit -> Act -> World -> Prop}(I:∀ O,K O -> ∀ a w,R w0 N O a w -> Q .normal a w):
  ∀(f L:Nat) (σ:S) (E:Array Bool),Any P N Φ ops K f L σ -> tV ops E L -> ∀a w,R w0 N σ a w -> wpAny P .any ops Q f E a w
 | 0,L,σ,E,h,D,a,w,hR=>by
  refine⟨List.eq_nil_iff_forall_not_mem.2 λj C=>?_,I σ h.2 a w hR⟩
  rw[D.ready,h.1]at C;cases C
 | f+1,L,σ,E,h,D,a,w,hR=>by
  refine⟨λhr=>I σ (h.1 λj=>?_) a w hR,λj C=>?_⟩
  ·cases C:l8 ops L j with
   |false=>rfl
   | true=>
    have:=(D.ready j).2 C;simp_all
  ·have Y:=(D.ready j).1 C;obtain⟨o,O,Z,hd,hA⟩:=h.2 j Y;obtain⟨sq,T,hw⟩:=ao8 U Z hd;injection T with T;subst T;exact hw a w _ Q hR λa' w' dV=>ace U I f _ _ _ hA (D.set (ab1 Y)) a' w' dV
def R.drawn(hR:R w0 N σ a w):R w0 N σ a { w with drawn:=w.drawn+1 }:=by
 obtain⟨ah,ρ,h⟩:=hR;exact⟨ah,ρ,h.grow ⟨rfl,rfl,rfl,dx _,λ_ _=>rfl⟩ (λ_ _=>rfl) (λb k hb hl=>absurd (h.cX b k hl).2.1 (Nat.not_lt.2 hb))⟩
theorem ao9[Inhabited Wd](C:fL P Φ){id:Nat}{k:S->aj X}(E:P.follows .mixedOrders=true)(h:ru P N Φ ops ops.size 0 σ k=some r){Q:Exit->Act->World->Prop}(I:∀ D,k D=some r->∀ a w,R w0 N D a w->Q .normal a w)(hR:R w0 N σ a w):
  (Code.region id ops true).wp P Q a w:=
 wp_region_any E (ace C I _ _ _ _ (HF C _ _ _ _ h) tV.start a _ hR.drawn)
/-! Values. -/
end
end Go.Proofs.YtgjfmljpdnnihaaGreat
