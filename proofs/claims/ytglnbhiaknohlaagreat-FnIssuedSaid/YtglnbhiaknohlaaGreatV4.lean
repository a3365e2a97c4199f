/-
  Running the program over pure contents, and that it follows (part 4). Nothing here is a claim.
-/
import Derived.Test.YtglnbhiaknohlaaGreatV3
set_option linter.unusedSimpArgs false
namespace Go.Proofs.YtglnbhiaknohlaaGreat
set_option linter.defProp false
open Go.RowKit
set_option linter.unusedVariables false
def gz(σ:S):ah Tmp->A->S
 |none,_=>σ
 |some d,v=>σ.set d v
section
variable {P:Program} {w w':World} {w0:Wd} {B N:Nat} {aj aD:bI} {ρ ρ':Nat->Loc} {σ:S} {a:Act} {X:Type} {d:Nat} {r:X} {o:Oper} {Φ:ez} {p pb:Nat->Bool} {e:Nat} {x:aV} {u:A} {ops:Array Oper}
def r8{C:ah Tmp}{x:A}{k:S -> ah X}(h:ir N σ C x k=some r):k (gz σ C x)=some r /\ ∀ (σ2:S),mF (λX k=>ir (X:=X) N σ2 C x k) (gz σ2 C x):=by
 unfold ir at h;split at h
 ·exact⟨h,λ_ X k=>rfl⟩
 ·rename_i d;cases D:Nat.blt d N with
  |false=>simp_all
  |true=>rw[D]at h;exact⟨h,λ_ X k=>by simp[ir,D];rfl⟩
def Hu{f:Nat}{c:je}(C:fL P Φ)(h:Φ f=some (.p c)):iF P f c:=(C f _ h).2
def qOK{f:Nat}{c:je}(C:fL P Φ)(h:Φ f=some (.q c)):iF P f c:=(C f _ h).2
def apx{f:Nat}{C:ah Tmp}{c:tA}{xs:aa A}(D:fL P Φ)(h:Φ f=some (.i c)):cI λX k=>G6 (X:=X) N σ C c xs k:=λX Y k g=>
 ((D f _ h).2.1 N σ xs X Y _ g).trans (bx (c.run Y N σ xs) (funext λE=>funext λy=>wS X Y k g))
def abP(C:fL P Φ):cI λX k=>dB (X:=X) P N Φ σ o k:=λX Y k g=>by
 unfold dB
 refine dc ((UK.comp λv=>wS) X Y k g) ?_
 unfold iH gP qD zo yT wT yP
 repeat' first
  |rfl
  |exact MY _ _ _ _
  |exact abj _ _ _ _
  |exact aoO _ _ _ _
  |exact abm (Hu C (by assumption)) DO _ _ _ _
  |exact Uv _ _ _ _
  |exact aoT _ _ _ _
  |exact aoQ _ _ _ _
  |exact apx C (by assumption) _ _ _ _
  |exact aol (λ_=>Uv) _ _ _ _
  |exact abm (qOK C (by assumption)) abl _ _ _ _
  |exact ao0 _ _ _ _
  |exact aoM _ _ _ _
  |exact aph _ _ _ _
  |exact aoz _ _ _ _
  |exact ao6 _ _ _ _
  |exact(ao7.comp λv=>wS) X Y k g
  |exact ao8 _ _ _ _
  |exact wS _ _ _ _
  |exact(ang.comp λv=>wS) X Y k g
  |refine dc ?_ ?_
  |split
def hU.bp{σ C:S}(h:hU p pb σ C){t r j:Nat}(D:σ.t t = .aO r j)(E:pb r=false):C.t t = .aO r j:=by
 rw[<-D];exact h.t (by rw[D];simpa [A.n5,A.fr,tu]using E)
def jU(p:Nat->Bool):A->Prop
 |.aO r _=>p r=true
 |.ptr _=>False
 |_=>True
def hU.st{D:Nat->Bool}{σ C:S}(h:hU p pb σ C){t:Nat}(E:jU D (σ.t t)):jU D (C.t t):=by
 rcases h.nw t with e|e
 ·rw[e];exact E
 ·revert e;cases C.t t<;>simp[A.wX,jU]
def hU.UU{σ C:S}(h:hU p pb σ C){x:Operand}(D:(aK σ x).n5 p pb=true):aK C x=aK σ x:=by
 cases x with
 |tmp t=>exact h.t D
 |const v=>rfl
 |global g=>rfl
 |func f=>rfl
def hU.val{σ T:S}(h:hU p pb σ T){E:Op}{v:A}(D:mF (λX k=>mJ (X:=X) P σ E k) v)(O:∀ y∈E.operands,(aK σ y).n5 p pb=true)(Y:v.n5 p pb=true)(L:∀ t y r j,E = .load t y->aK σ y = .aO r j->p r=false):mF (λX k=>mJ (X:=X) P T E k) v:=by
 intro X k
 refine(abG E (λy I=>⟨h.UU (O y I),λq e X k=>Nl h.sl q k (abM (O y I) e)⟩) (λt y e k=>?_) k).trans (D X k)
 subst e;have D:mF (λX k=>nP (X:=X) P σ t (aK σ y) k) v:=D;have I:=O y (by simp[Op.operands]);have L:=λr j=>L t y r j rfl
 generalize aK σ y=u at D I L;by_cases U:∃r j,u = .aO r j
 ·obtain⟨r,j,rfl⟩:=U;have C:nP P σ t (.aO r j) some=some v:=D A some;rw[D.at_ k];simp only[nP]at C ⊢;split at C
  ·cases C
  ·split at C
   next cs Z=>obtain⟨f,e1,e2⟩:=h.aC r (L r j rfl) cs Z;obtain⟨z,⟨⟩,e4⟩:=MX.lZ C;rw[e1];simp only[];rw[<-List.map_drop,<-List.map_take,List.map_congr_left λl hl=>e2 l (apu C Y l hl),List.map_id'];exact e4.at_ k
   ·cases C
 ·exact Sm.load (λq e X k=>Nl h.sl q k (abM I e)) (λr j e=>absurd ⟨r,j,e⟩ U) k
def UW:∀ (xs:aa V) (c:Nat) (σ:S),(∀ n,c <= n -> p n=true/\pb n=true) -> hU p pb σ (mG c σ xs)
 |[],c,σ,h=>.refl σ
 | x :: xs,c,σ,h=>by
  simp[mG];cases D:x.aI with
  |true=>exact UW xs _ σ (λn C=>h n (by omega))
  |false=>exact .trans (.root c (.sl x) (h c (dJ _)).1 (h c (dJ _)).2 (.refl σ)) (UW xs (c+1) _ (λn C=>h n (by omega)))
def Hv:∀ (ps:aa Pt) (c:Nat) (σ:S),(∀ n,c<=n->p n=true/\pb n=true)->hU p pb σ (nU c σ ps)
 |[],c,σ,h=>.refl σ
 |q::ps,c,σ,h=>(UW q.2 c σ h).trans (Hv ps _ _ (λn C=>h n (by omega)))
def zz{σ2:S}{ops:Array Oper}(h:∀ g b t,o.guard=some (g,b) -> (ops[g]?).bind (·.dst)=some t -> σ2.t t=σ.t t):fX σ2 ops o=fX σ ops o:=by
 unfold fX
 grind
def qR(p pb:Nat->Bool)(x:A):Prop:=∀r,x = .lf (.own [r])->p r=true/\pb r=true
def hU.tg{C D:Nat->Bool}{σ E:S}(h:hU p pb σ E){t:Nat}(I:qR C D (σ.t t)):qR C D (E.t t):=by
 rcases h.nw t with e|e
 ·rw[e];exact I
 ·intro r L;rw[L]at e;cases e
structure qS (P:Program) (N:Nat) (Φ:ez) (o:Oper) (p pb:Nat->Bool) (pN τ:S) where
 G:S->S
 u:A
 eq:τ=gz (G pN) o.dst u
 run:∀σ2:S,(∀x∈o.op.operands,aK σ2 x=aK pN x)->σ2.m=pN.m->dB P N Φ σ2 o some=some (gz (G σ2) o.dst u)
 grow:∀σ,hU p pb σ (G σ)
 set:∀(σ:S) d v,(A.n5 p pb v)=true->G (σ.set d v)=(G σ).set d v
 bp:isApp o=false->∀(σ:S) t r j,σ.t t = .aO r j->eS o r=false->(G σ).t t = .aO r j
theorem qS.new{D:S}{d:Nat}(E:o.dst=some d)(C:p d=true/\pb d=true)(O:eS o d=true)(x:aV)(u:A){I:S}(e:I=((D.drop d).root d x).set d u)
  (T:∀σ2:S,(∀x∈o.op.operands,aK σ2 x=aK D x)->dB P N Φ σ2 o some=some (((σ2.drop d).root d x).set d u)):Nonempty (qS P N Φ o p pb D I):=
 ⟨{ G:=λσ=>(σ.drop d).root d x,u:=u,eq:=by rw[E];exact e,run:=λσ2 h _=>by rw[T σ2 h,E];rfl,grow:=λσ=>.root d x C.1 C.2 (.refl σ),
    set:=λσ e v U=>by rw[S.drop_set d (A.Bl U C.1 C.2)];rfl
    bp:=λ_ σ t r j Y L=>by
     show A.drop d (σ.t t)=_;rw[Y];exact A.oC (by simp only[A.fr,wm];rw[oE (by rintro rfl;rw[O]at L;cases L)];rfl) }⟩
def UX{d:Nat}{C:gf}{D:S}(h:nt σ d C some=some D):∃ (ps:aa Pt) (u:A),∀ σ,nt σ d C some=some ((nU (1000000000100000+1000*d) σ ps).set d u):=by
 unfold nt at h ⊢;split at h
 ·rename_i q;split at h
  next y E=>exact⟨[q],y,λσ=>rfl⟩
  ·cases h
 ·exact⟨_,_,λσ=>rfl⟩
theorem abQ{f d:Nat}{c:je}{O:S}{ev:S->(X:Type)->(aa Pt->ah X)->ah X}(T:o.dst=some d)(E:∀ n,1000000000100000+1000*d<=n->eS o n=true)(Y:∀ n,eS o n=true->p n=true/\pb n=true)(Z:iF P f c)(C:cI (ev σ))
  (Ux:∀σ2:S,(∀x∈o.op.operands,aK σ2 x=aK σ x)->σ2.m=σ.m->∀(X:Type) (k:aa Pt->ah X),ev σ2 X k=ev σ X k) (eO:∀σ2,dB P N Φ σ2 o some=rX N σ2 d c (ev σ2 S) some) (h:rX N σ d c (ev σ S) some=some O):Nonempty (qS P N Φ o p pb σ O):=by
 obtain⟨res,rT,D,I,h3⟩:=M0 Z C h;injection I with I;subst I;obtain⟨ps,u,U⟩:=UX D;have L:∀n,1000000000100000+1000*d<=n->p n=true/\pb n=true:=λn C=>Y n (E n C)
 rw[U]at D;injection D with D;exact⟨{ G:=λσ=>nU (1000000000100000+1000*d) σ ps,u:=u,eq:=by rw[T];exact D.symm,run:=λσ2 r9 hm=>by rw[eO,T];exact(h3 σ2 _ _ (Ux σ2 r9 hm) (U σ2)).at_ _,grow:=λσ=>Hv ps _ σ L,set:=λσ e v hv=>Un v ps _ σ λn C=>A.Bl hv (L n C).1 (L n C).2,bp:=λ_ σ t r j ht hr=>(Hv (p:=eS o) (pb:=eS o) ps _ σ (λn C=>⟨E n C,E n C⟩)).bp ht hr }⟩
theorem apy[Inhabited Wd](dS:fL P Φ){τ:S}(E:Nf Φ o.op=true)(Z:∀ n,eS o n=true->p n=true/\pb n=true)(h:dB P N Φ σ o some=some τ):Nonempty (qS P N Φ o p pb σ τ):=by
 have h0:=h;unfold dB at h;cases hv:fM o.op with
 | true=>
  rw[hv,aq]at h;obtain⟨v,I,D,_⟩:=UL (w0:=default) (N:=N) h;obtain⟨O,h3⟩:=r8 I;injection O with O
  refine⟨{ G:=λσ=>σ,u:=v,eq:=O.symm,run:=λσ2 C hm=>?_,grow:=.refl,set:=λ_ _ _ _=>rfl,bp:=λ_ _ _ _ _ h _=>h }⟩
  unfold dB;rw[hv,aq,abH o.op hm C];refine(D.at_ _).trans ?_;exact(h3 σ2).at_ _
 | false=>
  rw[hv,au]at h;have Y:∀σ2,dB P N Φ σ2 o some=iH P N Φ σ2 o some:=λσ2=>by unfold dB;rw[hv,au]
  unfold iH at h Y;unfold Nf at E;rw[hv,Bool.false_or]at E;split at h
  ·rename_i e C;obtain⟨d,D,h⟩:=jT h;obtain⟨x,y,I,_,O⟩:=aoy h;injection I with I;have T:eS o d=true:=by unfold eS;rw[D,C];exact Nat.beq_refl d
   refine qS.new D (Z d T) T x y I.symm λσ2 _=>?_
   rw[Y,C];simp only[gP,D];exact(O σ2).at_ _
  ·rename_i e x C;obtain⟨d,D,h⟩:=jT h;obtain⟨y,u,I,O⟩:=aoD h;injection I with I;have T:eS o d=true:=by unfold eS;rw[D,C];exact Nat.beq_refl d
   refine qS.new D (Z d T) T _ _ I.symm λσ2 L=>?_
   rw[Y,C];simp only[gP,D];rw[L x (by rw[C];simp[Op.operands])];exact(O σ2).at_ _
  ·rename_i t len parts C;obtain⟨d,D,h⟩:=jT h;have T:eS o d=true:=by unfold eS;rw[D,C];exact Nat.beq_refl d
   cases hn:pO t with
   | true=>
    rw[hn,aq]at h;obtain⟨y,u,I,O⟩:=aoG h;injection I with I
    refine qS.new D (Z d T) T _ _ I.symm λσ2 L=>?_
    rw[Y,C];simp only[gP,D,hn,aq]
    refine(O σ2 λq hq=>L _ ?_).at_ _
    rw[C];simp only[Op.operands];exact List.mem_toArray.2 (List.mem_map_of_mem (f:=(·.2)) hq)
   | false=>
    rw[hn,au]at h;obtain⟨y,I,O⟩:=abh h;injection I with I
    refine qS.new D (Z d T) T _ _ I.symm λσ2 L=>?_
    rw[Y,C];simp only[gP,D,hn,au]
    refine(O σ2 λq hq=>L _ ?_).at_ _
    rw[C];simp only[Op.operands];exact List.mem_toArray.2 (List.mem_map_of_mem (f:=(·.2)) hq)
  next t x y C=>rw[C]at E;cases E
  ·rename_i t l c C;obtain⟨d,D,h⟩:=jT h;obtain⟨y,I,O⟩:=abg h;injection I with I;have T:eS o d=true:=by unfold eS;rw[D,C];exact Nat.beq_refl d
   refine qS.new D (Z d T) T _ _ I.symm λσ2 L=>?_
   rw[Y,C];simp only[gP,D];rw[L l (by rw[C];simp[Op.operands]),L c (by rw[C];simp[Op.operands])];exact(O σ2).at_ _
  ·rename_i f args jR C;have abR:∀ σ2:S,(∀ x∈o.op.operands,aK σ2 x=aK σ x)->∀ x∈args.toList,aK σ2 x=aK σ x:=λσ2 L x hx=>L x (by
    rw[C];simp only[Op.operands,Call.operands,Array.mem_append]
    first
     |exact .inr (by simpa using hx)
     |exact .inl (by simpa using hx))
   have nm:∀d,o.dst=some d->∀n,1000000000100000+1000*d<=n->eS o n=true:=λd D n hn=>by unfold eS;rw[D,C];exact ja hn
   split at h
   next c U=>obtain⟨d,D,h⟩:=jT h;exact abQ D (nm d D) Z (Hu dS U) (ev:=λσ X k=>rV σ args.toList k) DO (λσ2 L hm X k=>apm hm _ _ (abR σ2 L)) (λσ2=>by rw[Y,C];simp only[U,gP,D];rfl) h
   iterate 5 (rename_i c U;rw[C]at E;simp[U]at E)
   next c U=>obtain⟨d,D,h⟩:=jT h;exact abQ D (nm d D) Z (qOK dS U) (ev:=λσ X k=>Bd σ args.toList k) abl (λσ2 L hm X k=>apo hm _ _ (abR σ2 L)) (λσ2=>by rw[Y,C];simp only[U,gP,D];rfl) h
   next c U=>rw[C]at E;simp[U]at E
   ·cases h
  next x y t t' C=>rw[C]at E;cases E
  next t C=>rw[C]at E;cases E
  next t x i C=>rw[C]at E;cases E
  next t x i v C=>rw[C]at E;cases E
  next t args jR C=>rw[C]at E;cases E
  next f abF C=>rw[C]at E;cases E
  next x t C=>rw[C]at E;cases E
  ·cases h
def abS(C:fL P Φ){ops:Array Oper}:cI λX k=>dw (X:=X) P N Φ ops σ o k:=λX Y k g=>by
 unfold dw;split
 ·exact abP C _ _ _ _
 ·exact wS _ _ _ _
 ·rfl
theorem UY[Inhabited Wd](D:fL P Φ){ops:Array Oper}{k:S->ah X}(h:dw P N Φ ops σ o k=some r):∃ C,k C=some r/\dw P N Φ ops σ o some=some C:=
 let ⟨C,E,I⟩:=(abS D).lZ h
 ⟨C,E,I S some⟩
def UZ{ops:Array Oper}{b:Bool}(h:fX σ ops o=some b):∀ g c t,o.guard=some (g,c) -> (ops[g]?).bind (·.dst)=some t -> (σ.t t).n5 p pb=true:=by
 intro g c t C D;unfold fX at h;rw[C]at h;simp[D]at h;split at h
 next hb=>rw[hb];rfl
 next hb=>rw[hb];rfl
 ·cases h
def DU{ops:Array Oper}{d:Nat}(h:d ∉ o.looksAt ops)(v:A){x:Operand}(C:x∈o.op.operands):aK (σ.set d v) x=aK σ x:=by
 cases x with
 | tmp t=>
  have:t≠d:=by
   rintro rfl;exact h (List.mem_append_left _ (List.mem_filterMap.2 ⟨.tmp t,by simpa using C,rfl⟩))
  exact cH _ _ _ this
 |_=>rfl
def U0{ops:Array Oper}{d:Nat}(h:d ∉ o.looksAt ops)(v:A):∀ g b t,o.guard=some (g,b) -> (ops[g]?).bind (·.dst)=some t -> (σ.set d v).t t=σ.t t:=by
 intro g b t C D;have:t≠d:=by
  rintro rfl;refine h (List.mem_append_right _ ?_);simp_all
 exact cH _ _ _ this
def mN(P:Program)(ops:Array Oper)(C:Oper)(p pb:Nat->Bool)(v:A)(σ:S):Prop:=
 (fX σ ops C=some true/\fM C.op=true/\mF (λX k=>mJ (X:=X) P σ C.op k) v/\(∀y∈C.op.operands,(aK σ y).n5 p pb=true)/\v.n5 p pb=true/\∀t y r j,C.op = .load t y->aK σ y = .aO r j->p r=false)\/(fX σ ops C=some false/\v = .skip)
def mN.grow{ops:Array Oper}{T:Oper}{v:A}(h:mN P ops T p pb v σ){U:S}(C:hU p pb σ U):mN P ops T p pb v U:=by
 rcases h with ⟨D,I,h3,E,Y,Z⟩|⟨D,I⟩
 ·refine .inl ⟨?_,I,C.val h3 E Y Z,λy hy=>?_,Y,λt y r j e h=>?_⟩
  ·rw[zz λg b t L O=>C.t (UZ D g b t L O)];exact D
  ·rw[C.UU (E y hy)];exact E y hy
  ·exact Z t y r j e (by rw[<-C.UU (E y (by rw[e];simp[Op.operands]))];exact h)
 ·refine .inr ⟨?_,I⟩;rw[zz λg b t L O=>C.t (UZ D g b t L O)];exact D
def mN.set{ops:Array Oper}{D:Oper}{v u:A}(h:mN P ops D p pb v σ){d:Nat}(C:d ∉ D.looksAt ops):mN P ops D p pb v (σ.set d u):=by
 rcases h with ⟨E,I,O,T,U,Y⟩|⟨E,I⟩
 ·refine .inl ⟨?_,I,λX k=>?_,λy L=>?_,U,λt y r j e h=>?_⟩
  ·rw[zz (U0 C u)];exact E
  ·exact(abH (σ:=σ) (σ2:=σ.set d u) D.op rfl (λx Z=>DU C u Z) k).trans (O.at_ k)
  ·rw[DU C u L];exact T y L
  ·exact Y t y r j e (by rw[<-DU C u (by rw[e];simp[Op.operands])];exact h)
 ·refine .inr ⟨?_,I⟩;rw[zz (U0 C u)];exact E
def mN.put{ops:Array Oper}{C:Oper}{v u:A}(h:mN P ops C p pb v σ){D:ah Tmp}(E:∀ d,D=some d->d ∉ C.looksAt ops):mN P ops C p pb v (gz σ D u):=by
 cases D with
 |none=>exact h
 |some d=>exact h.set (E d rfl)
def mN.nr{ops:Array Oper}{C:Oper}{v:A}(h:mN P ops C p pb v σ):v.n5 p pb=true:=by
 rcases h with ⟨_,_,_,_,D,_⟩|⟨_,E⟩
 ·exact D
 ·rw[E];rfl
def abU{x y:ah Tmp}(v u:A)(h:∀ d,x=some d->y≠some d):gz (gz σ x v) y u=gz (gz σ y u) x v:=by
 cases x with
 |none=>rfl
 | some d=>cases y with
  |none=>rfl
  |some e=>exact S.set_set (λC=>h d rfl (bx some C)) v u
def apz(x:ah Tmp)(v:A):(gz σ x v).m=σ.m:=by cases x<;>rfl
def Nm{ops:Array Oper}{C:ah Tmp}(h:∀ d,C=some d->d ∉ o.looksAt ops)(v:A){x:Operand}(D:x∈o.op.operands):aK (gz σ C v) x=aK σ x:=by
 cases C with
 |none=>rfl
 |some d=>exact DU (h d rfl) v D
def apA{ops:Array Oper}{C:ah Tmp}(h:∀ d,C=some d->d ∉ o.looksAt ops)(v:A):fX (gz σ C v) ops o=fX σ ops o:=by
 cases C with
 |none=>rfl
 |some d=>exact zz (U0 (h d rfl) v)
/-! Calls that write blocks alone. -/
def abV{σ2:S}(C:σ2.m=σ.m)(ns:aa Nat):∀ (xs:aa Lf) (k:aa V -> ah X),rZ σ2 ns xs k=rZ σ ns xs k
 |[],k=>rfl
 | x :: xs,k=>by
  simp[rZ,UN C];congr 2;funext y;exact abV C ns xs _
def apB{σ2:S}(C:σ2.m=σ.m)(ns:aa Nat)(x:A)(k:Pt->ah X):qO σ2 ns x k=qO σ ns x k:=by
 unfold qO;split<;>simp only[abV C,C]
def apC{σ2:S}(C:σ2.m=σ.m)(p:PK)(x:A):uS σ2 p x=uS σ p x:=by
 cases p<;>simp only[uS,C]
def abW{σ2:S}(C:σ2.m=σ.m):∀ (ps:aa PK) (xs:aa Operand),(∀ x∈xs,aK σ2 x=aK σ x)->jC σ2 ps xs=jC σ ps xs
 |[],[],_=>rfl
 |[],_::_,_=>rfl
 |_::_,[],_=>rfl
 | p :: ps,x :: xs,h=>by
  simp only[jC];rw[h x (.head _),apC C,abW C ps xs (λy D=>h y (.tail _ D))]
def Nn{σ2:S}(E:σ2.m=σ.m)(ns:aa Nat):∀ (ps:aa PK) (xs:aa Operand) (C:aa Mu) (k:lF ps->ah X),(∀ x∈xs,aK σ2 x=aK σ x)->jD σ2 ns ps xs C k=jD σ ns ps xs C k
 |[],[],[],k,_=>rfl
 | .v b t :: ps,x :: xs,C,k,h=>by
  simp only[jD];rw[h x (.head _),apB E];congr 1;funext p;congr 1;split
  ·exact Nn E ns ps xs C _ (λy D=>h y (.tail _ D))
  ·rfl
 | .p t g off :: ps,x :: xs,.aC I cs L :: C,k,h=>by
  simp only[jD];split
  ·exact Nn E ns ps xs C _ (λy D=>h y (.tail _ D))
  ·rfl
 | .s t g :: ps,x :: xs,.sl q O :: C,k,h=>by
  simp only[jD];split
  ·exact Nn E ns ps xs C _ (λy D=>h y (.tail _ D))
  ·rfl
 |[],[],_::_,k,_=>rfl
 |[],_::_,_,k,_=>rfl
 |.v _ _::_,[],_,k,_=>rfl
 |.p _ _ _::_,[],_,k,_=>rfl
 |.s _ _::_,[],_,k,_=>rfl
 |.p _ _ _::_,_::_,[],k,_=>rfl
 |.s _ _::_,_::_,[],k,_=>rfl
 |.p _ _ _::_,_::_,.sl _ _::_,k,_=>rfl
 |.s _ _::_,_::_,.aC _ _ _::_,k,_=>rfl
def apD{m:Nat -> ah aV}{l:Lf}{v:V}{q:Nat}(h:uR m l=some (v,some q)):v.aI=false:=by
 unfold uR at h
 grind
def abX{m:Nat->ah aV}:∀ {cs:aa Lf} {C:aa (V×ah Nat)},qN m cs=some C->(∀ v∈C,v.1.aI=true)->∀ v∈C,v.2=none
 |[],C,h,_=>by injection h with h;subst h;simp
 | c :: cs,C,h,D=>by
  unfold qN at h;split at h
  ·rename_i v O E I;injection h with h;subst h;intro u hu;rcases gJ.1 hu with rfl | hu
   ·obtain⟨x,q⟩:=u;cases q with
    |none=>rfl
    |some q=>have:=apD E;rw[D _ (.head _)]at this;cases this
   ·exact abX I (λv L=>D v (.tail _ L)) u hu
  ·cases h
def abY{i:Nat}:∀ (C:aa (V×ah Nat)) (j:Nat),(∀ v∈C,v.2=none) -> DE i j C=[]
 |[],_,_=>rfl
 | (x,q) :: C,j,h=>by
  have:=h _ (.head _);subst this;exact abY C _ (λv D=>h v (.tail _ D))
def U1:∀ (C:aa Nat) (xs:aa V),(∀ x∈xs,x.aI=true)->uV C xs=[]/\tj C xs=[]
 |[],[],_=>⟨rfl,rfl⟩
 |[],_::_,_=>⟨rfl,rfl⟩
 |_::_,[],_=>⟨rfl,rfl⟩
 | n :: C,x :: xs,h=>by
  simp only[uV,tj,h x (.head _),aq];exact U1 C xs (λx D=>h x (.tail _ D))
def DV(ps:aa PK):Bool:=ps.all λp=>match p with
 |.v _ _=>true
 |.p _ g _=>Nat.beq g 0
 |.s _ _=>false
def U2{ns:aa Nat}:∀ (ps:aa PK) (xs:aa Operand) (D:aa Mu) (k:lF ps->ah X),DV ps=true->jC σ ps xs=some D->jD σ ns ps xs D k=some r->∀ (i E c0:Nat) (y:qM (eG ps)),
  (∀p∈lG i D,p.1∈iW σ ps xs)/\nB c0 E D (jf (eG ps) y)=[]/\∀(Y cn:aa Nat),∀p∈lH Y cn c0 E D (jf (eG ps) y),p.1∈iW σ ps xs
 | [],[],D,k,_,C,h=>by
  injection C with C;subst C;intro i E c0 y;exact⟨(λp hp=>by cases hp),by simp[nB],(λ_ _ p hp=>by simp[lH]at hp)⟩
 | .v b t :: ps,x :: xs,D,k,T,C,h=>by
  have rS:jC σ ps xs=some D:=by
   unfold jC at C;split at C
   next mu U I L=>exact(uU I).elim
   next U I L=>rw[L];exact C
   ·cases C
  have rR:DV ps=true:=by simpa [DV]using T
  unfold jD at h;obtain⟨p,L,_⟩:=abt.lZ h;cases hb:p.1==b with
  |false=>rw[hb]at L;cases L
  | true=>
   rw[hb,aq]at L;split at L
   ·intro i E c0 y;exact U2 ps xs D _ rR rS L i E c0 y
   ·cases L
 | .p t g off :: ps,x :: xs,D,k,T,C,h=>by
  unfold jC at C;split at C
  ·rename_i mu U I L;injection C with C;subst C;have I:=uU I;cases mu with
   |sl=>exact I.elim
   | aC Z cs O=>
    have I:aK σ x = .aO Z off/\zi σ (.aC Z cs O):=I;have T:Nat.beq g 0=true/\DV ps=true:=by simpa [DV]using T
    have hg:=cB T.1;subst hg;unfold jD at h;split at h
    ·rename_i z hz;have hz:dec t 0 (O.map (·.1))=some z:=hz;have hw:=lW t 0 _ z hz;have U3:∀ v∈O,v.1.aI=true:=by
      intro v hv;obtain⟨j,hj⟩:=List.mem_iff_getElem?.1 hv;have Np:(O.map (·.1))[j]?=some v.1:=by rw[eJ,hj];rfl
      have wu:j<(enc t 0 z).length:=by rw[<-hw.1];exact(dQ.1 Np).1
      have hk:=hw.2 j _ _ Np (bS wu);have pS:=pE t 0 z (by omega) j _ (bS wu);cases U3:v.1.aI with
      |true=>rfl
      |false=>rw[hk.TX U3]at pS;cases pS
     have hn:=abX I.2.2.1 U3;intro i E c0 y;obtain⟨k1,k2,k3⟩:=U2 ps xs U _ T.2 L h (i+1) (E+1+O.length) c0 y.2;have hyf:∀ u∈enc t 0 y.1,u.aI=true:=by
      intro u hu;obtain⟨j,hj⟩:=List.mem_iff_getElem?.1 hu;exact pE t 0 y.1 (by omega) j u hj
     have Bn:iW σ (.p t 0 off::ps) (x::xs)=Z::iW σ ps xs:=by simp only[iW,I.1]
     rw[Bn]
     refine⟨λp hp=>?_,?_,λY cn p hp=>?_⟩
     ·simp only[lG,abY O 0 hn,kZ]at hp;rcases gJ.1 hp with rfl | hp
      ·exact .head _
      ·exact .tail _ (k1 p hp)
     ·show uV (mH c0 (E+1) O) (enc t 0 y.1)++nB c0 (E+1+O.length) U (jf (eG ps) y.2)=[]
      rw[(U1 _ _ hyf).1,k2];rfl
     ·have hp:p∈(Z,aV.aC (oS Y cn (mH c0 (E+1) O) cs (enc t 0 y.1))) :: (tj (mH c0 (E+1) O) (enc t 0 y.1)++lH Y cn c0 (E+1+O.length) U (jf (eG ps) y.2)):=hp;rw[(U1 _ _ hyf).2,kZ]at hp;rcases gJ.1 hp with rfl | hp
      ·exact .head _
      ·exact .tail _ (k3 Y cn p hp)
    ·cases h
  next U I L=>exact(uU I).elim
  ·cases C
 |.s t g::ps,x::xs,D,k,T,C,h=>by simp[DV]at T
 |[],_::_,D,k,_,C,h=>by cases C
 |_::_,[],D,k,_,C,h=>by cases C
def S.U4{ns:aa Nat}{nr:aa (Nat×aV)}(v:A)(h:v.di ns []=v):(σ.set d v).di ns [] nr=(σ.di ns [] nr).set d v:=by
 refine S.ext' (λk=>?_) λ_=>rfl
 show (bW σ.t d v k).di ns []=bW (λk=>(σ.t k).di ns []) d v k;by_cases C:k=d
 ·subst C;rw[bZ,bZ];exact h
 ·rw[cH _ _ _ C,cH _ _ _ C]
def Nq{n:Nat}{x:aV}:∀ {l:aa (Nat×aV)},l.lookup n=some x -> (n,x)∈l
 |[],h=>by cases h
 | q :: l,h=>by
  rw[List.lookup_cons]at h;cases hb:n==q.1 with
  |true =>grind
  |false=>rw[hb]at h;exact .tail _ (Nq h)
theorem apE{τ:S}{f:Nat}{args:Array Operand}{jR:Array TypeId}{c:nA}(Y:o.op = .call { callee:=.value (.func f),args,argTypes:=jR })(hc:Φ f=some (.m c))(hfl:Ng c=true)(hp:∀ n,eS o n=true->p n=true/\pb n=true)(zm:∀ n∈iW σ c.ps args.toList,p n=true)
  (h:dB P N Φ σ o some=some τ):Nonempty (qS P N Φ o p pb σ τ):=by
 have eO:∀ σ2,dB P N Φ σ2 o some=nX N σ2 o.dst c args.toList some:=by
  intro σ2;unfold dB;rw[show fM o.op=false by rw[Y];rfl,au];simp only[iH,Y,hc]
 rw[eO]at h;have abZ:∀ σ2:S,(∀ x∈o.op.operands,aK σ2 x=aK σ x)->∀ x∈args.toList,aK σ2 x=aK σ x:=by
  intro σ2 E x T;refine E x ?_;rw[Y];simp only[Op.operands,Call.operands];simp only[Array.mem_append]
  first
   |exact .inr (by simpa using T)
   |exact .inl (by simpa using T)
 unfold nX at h;split at h
 ·rename_i L tq;cases l9:(once (lG 0 L)&&Nat.ble L.length 40)with
  |false=>rw[l9]at h;cases h
  | true=>
   rw[l9,aq]at h;have apF:=U2 c.ps args.toList L _ hfl tq h;obtain⟨x,C,hd⟩:=(M7 _ _ _).lZ h;split at C
   ·rename_i y hy;obtain⟨k1,k2,k3⟩:=apF 0 (eU c.ro y.1).len (iG o.dst) y.2;unfold DH at C;rw[k2]at C;generalize jg:DG N L (jf (eG c.ps) y.2) []=ok at C;cases ok with
    |false=>cases C
    | true=>
     rw[aq]at C;generalize AY:(lG 0 L).map (·.1)=ns at C hd;generalize GY:lH ns [] (iG o.dst) (eU c.ro y.1).len L (jf (eG c.ps) y.2)=nr at C;have Z:UQ p ns nr:=by
      refine⟨λn D=>?_,λn x T=>?_⟩
      ·rw[<-AY]at D;obtain⟨q,hq,e⟩:=List.mem_map.1 (ta.1 D);rw[<-e];exact zm _ (k1 q hq)
      ·rw[<-GY]at T;exact zm _ (k3 ns [] _ (Nq T))
     have oV:∀ σ2:S,(∀ x∈o.op.operands,aK σ2 x=aK σ x)->σ2.m=σ.m->nX N σ2 o.dst c args.toList some=pL N (σ2.di ns [] nr) o.dst (eU c.ro y.1) some:=by
      intro σ2 E O;simp only[nX];rw[abW O _ _ (abZ σ2 E),tq];simp only[l9,aq];rw[AY,Nn O _ _ _ _ _ (abZ σ2 E)];refine(hd S _).trans ?_;simp only[hy,DH,k2,jg,aq,GY]
     have bp0:∀ (σ:S) t r j,σ.t t = .aO r j->(σ.di ns [] nr).t t = .aO r j:=by
      intro σ t r j U;show A.di ns [] (σ.t t)=_;rw[U];rfl
     generalize kr:eU c.ro y.1=res at C oV;cases I:o.dst with
     | none=>
      rw[I]at C;have C:some (σ.di ns [] nr)=some τ:=C;injection C with C;exact⟨{ G:=λσ=>σ.di ns [] nr,u:=.undef,eq:=by rw[I];exact C.symm,run:=λσ2 E O=>by rw[eO,oV σ2 E O,I];rfl,grow:=λσ=>.di ns nr Z (.refl σ),set:=λσ e v hv=>S.U4 v (A.UT hv Z.ns),bp:=λ_ σ t r j U _=>bp0 σ t r j U }⟩
     | some d=>
      rw[I]at C;have l8:∀n,1000000000100000+1000*d<=n->eS o n=true:=λn D=>by unfold eS;rw[I,Y];exact ja D
      have tC:∀n,1000000000100000+1000*d<=n->p n=true/\pb n=true:=λn D=>hp n (l8 n D)
      cases hN:Nat.blt d N with
      |false=>simp only[pL,hN,au]at C;cases C
      | true=>
       have e:∀σ,pL N σ (some d) res some=nt σ d res some:=λσ=>by simp only[pL,hN,aq]
       rw[e]at C;obtain⟨ps,u,hG⟩:=UX C;rw[hG]at C;injection C with C;exact⟨{ G:=λσ=>nU (1000000000100000+1000*d) (σ.di ns [] nr) ps,u:=u,eq:=by rw[I];exact C.symm,run:=λσ2 E O=>by rw[eO,oV σ2 E O,I,e,hG];rfl,grow:=λσ=>(hU.di ns nr Z (.refl σ)).trans (Hv ps _ _ tC),set:=λσ e v hv=>by rw[S.U4 v (A.UT hv Z.ns),Un v ps _ _ λn D=>A.Bl hv (tC n D).1 (tC n D).2],bp:=λ_ σ t r j U hr=>(Hv (p:=eS o) (pb:=eS o) ps _ _ (λn D=>⟨l8 n D,l8 n D⟩)).bp (bp0 σ t r j U) hr }⟩
   ·cases C
 ·cases h
def Calm(Φ:ez)(ok:Nat->Nat->Bool)(qT mK p pb:Nat->Bool)(σ:S)(o:Oper):Prop:=
 Nf Φ o.op=true\/(∃f args D c,o.op = .call { callee:=.value (.func f),args:=args,argTypes:=D }/\Φ f=some (.m c)/\Ng c=true/\r6 ok σ c.ps args.toList=true/\∀n∈iW σ c.ps args.toList,p n=true)\/
 (∃ty t y,o.op = .store ty (.tmp t) y/\o.dst=none/\qT t=true/\jU p (σ.t t))\/
 ∃x y t C,o.op = .call ⟨.builtin .append,⟨[.tmp x,y]⟩,⟨[t,C]⟩⟩/\mK x=true/\(pO t=false/\Nat.beq t C=true/\Bt o.dst t (.tmp x)=false)/\qR p pb (σ.t x)
theorem apG{Y:S}{ty:TypeId}{t:Tmp}{y:Operand}(I:o.op = .store ty (.tmp t) y)(U:o.dst=none)(C:jU p (σ.t t))(h:dB P N Φ σ o some=some Y):Nonempty (qS P N Φ o p pb σ Y):=by
 have GV:∀ (x:A) (z:A),(∀ k,x ≠ .ptr k) -> wU x z=false:=by
  intro x z E;unfold wU;split
  ·grind
  ·rfl
 have Z:∀ σ2:S,(∀ k,σ2.t t ≠ .ptr k) -> dB P N Φ σ2 o some=pH P σ2 ty (σ2.t t) (aK σ2 y) some:=by
  intro σ2 Nr;unfold dB;rw[show fM o.op=false by rw[I];rfl,au];simp only[iH,I,U];rw[show wU (aK σ2 (.tmp t)) (aK σ2 y)=false from GV _ _ Nr,au];rfl
 rw[Z σ (λk L=>by rw[L]at C;exact C)]at h;cases E:σ.t t with
 | aO D j=>
  rw[E]at h C;have hp:p D=true:=C;have key:∃ x,∀ σ2:S,σ2.m=σ.m -> ∀ v,v=aK σ y -> pH P σ2 ty (.aO D j) v some=some (σ2.root D x):=by
   unfold pH at h;split at h
   ·rename_i n xs hn oI;split at h
    ·rename_i hlen;simp only at h;split at h
     ·rename_i cs jB;split at h
      ·rename_i hj;cases hl:xs.all Lf.live with
       |false=>grind
       | true=>
        refine⟨.aC (splice cs j xs),λσ2 O v hv=>?_⟩
        subst hv;simp only[pH,hn,oI,bN hlen,O,jB,bN hj,hl,aq];simp only[S.root,O]
      ·cases h
     ·cases h
    ·cases h
   ·cases h
  obtain⟨x,l5⟩:=key;have T:=l5 σ rfl _ rfl;rw[h]at T;injection T with T
  refine⟨{ G:=λσ=>σ.root D x,u:=.undef,eq:=by rw[U];exact T,run:=λσ2 r9 O=>?_,grow:=λσ=>.rt D x hp (.refl σ),set:=λσ d v hv=>rfl,bp:=λ_ σ t r j ht _=>ht }⟩
  have e1:σ2.t t = .aO D j:=(r9 (.tmp t) (by rw[I];simp[Op.operands])).trans E;rw[Z σ2 (λk L=>by rw[e1]at L;cases L),e1,l5 σ2 O _ (r9 y (by rw[I];simp[Op.operands])),U];rfl
 |ptr k=>rw[E]at C;exact C.elim
 | _=>
  rw[E]at h;exfalso;revert h;unfold pH;split
  ·grind
  ·grind
def cJ(e:Nat)(x:aV)(u:A)(σ:S):S:=((σ.drop e).root e x).set e u
def mO(e:Nat)(u:A):Prop:=u = .aO e 0\/u = .lf (.own [e])
structure kA (x:aV):Prop where
 cE:∀K:nh,x.cE K=x
def kA.drop{x:aV}(h:kA x)(n:Nat):x.drop n=x:=h.cE _
def kA.di{x:aV}(h:kA x)(ns cn:aa Nat):x.di ns cn=x:=h.cE _
def kA.zero(C:aa Value):kA (.aC (C.map nR)):=⟨λK=>bx aV.aC (qz.oC (cv.2 λc D=>by
 obtain⟨v,_,rfl⟩:=List.mem_map.1 D;unfold nR;split<;>rfl))⟩
def ab0(h:uX o=true):∃ t,∃ e:Nat,o.op = .alloc t/\o.guard=none/\o.dst=some e/\e<20000:=by
 unfold uX at h;rw[aQ,aQ]at h;obtain⟨⟨C,E⟩,D⟩:=h;split at C
 ·rename_i t I;split at D
  ·simp_all
  ·cases D
 ·cases C
def apH{ops:Array Oper}{t:TypeId}{e:Nat}(D:o.op = .alloc t)(L:o.guard=none)(O:o.dst=some e){E:S}(h:dw P N Φ ops σ o some=some E):∃ x,kA x/\E=cJ e x (.aO e 0) σ/\∀ σ2,dw P N Φ ops σ2 o some=some (cJ e x (.aO e 0) σ2):=by
 have I:∀ σ2,dw P N Φ ops σ2 o some=qD P N σ2 e t some:=by
  intro σ2;unfold dw fX;rw[L];simp only;unfold dB;rw[show fM o.op=false by rw[D];rfl,au];simp only[iH,D,gP,O]
 rw[I]at h;unfold qD at h;split at h
 ·rename_i z T;unfold iw at h;cases C:Nat.blt e N with
  |false=>rw[C]at h;cases h
  | true=>
   rw[C,aq]at h;injection h with h
   refine⟨_,.zero _,h.symm,λσ2=>(I σ2).trans ?_⟩
   unfold qD iw;rw[T,C];rfl
 ·cases h
def Hw{σ2:S}:∀ (ps:aa PK) (xs:aa Operand),(∀ x∈xs,aK σ2 x=aK σ x) -> iW σ2 ps xs=iW σ ps xs
 |[],[],_=>rfl
 |[],_::_,_=>rfl
 |.v _ _::_,[],_=>rfl
 |.p _ _ _::_,[],_=>rfl
 |.s _ _::_,[],_=>rfl
 |.v _ _::ps,x::xs,h=>by simp[iW];exact Hw ps xs (λy C=>h y (.tail _ C))
 |.s _ _::ps,x::xs,h=>by simp only[iW];exact Hw ps xs (λy C=>h y (.tail _ C))
 | .p _ _ _ :: ps,x :: xs,h=>by
  simp only[iW];rw[h x (.head _),Hw ps xs (λy C=>h y (.tail _ C))]
def U5{ok:Nat -> Nat -> Bool}{σ2:S}(D:∀ t r j,σ.t t = .aO r j -> ok t r=true -> σ2.t t = .aO r j):∀ (ps:aa PK) (xs:aa Operand),r6 ok σ ps xs=true -> r6 ok σ2 ps xs=true/\iW σ2 ps xs=iW σ ps xs
 |[],[],_=>⟨rfl,rfl⟩
 | .v _ _ :: ps,x :: xs,h=>by
  exact U5 D ps xs h
 | .p _ _ _ :: ps,x :: xs,h=>by
  cases x with
  | tmp t=>
   simp[r6,aQ]at h;obtain⟨C,I⟩:=h;obtain⟨L,O⟩:=U5 D ps xs I;split at C
   ·rename_i T j E;have e:=D t T j E C;refine⟨?_,?_⟩
    ·simp only[r6,aQ];exact⟨by rw[e];exact C,L⟩
    ·simp only[iW,aK,e,E,O]
   ·cases C
  |const v=>simp[r6]at h
  |global g=>simp[r6]at h
  |func f=>simp[r6]at h
def Calm.lz{ok:Nat->Nat->Bool}{qT mK:Nat->Bool}{σ2:S}(h:Calm Φ ok qT mK p pb σ o)(L:∀ t r j,σ.t t = .aO r j->ok t r=true->σ2.t t = .aO r j)(O:∀ t,qT t=true->jU p (σ.t t)->jU p (σ2.t t))(T:∀ t,mK t=true->qR p pb (σ.t t)->qR p pb (σ2.t t)):Calm Φ ok qT mK p pb σ2 o:=by
 rcases h with h|⟨f,args,U,c,E,C,D,I,Y⟩|⟨ty,t,y,E,C,D,I⟩|⟨x,y,t,Z,E,C,hn,D⟩
 ·exact .inl h
 ·obtain⟨k1,k2⟩:=U5 L _ _ I;exact .inr (.inl ⟨f,args,U,c,E,C,D,k1,by rw[k2];exact Y⟩)
 ·exact .inr (.inr (.inl ⟨ty,t,y,E,C,D,O t D I⟩))
 ·exact .inr (.inr (.inr ⟨x,y,t,Z,E,C,hn,T x C D⟩))
def Ns{ops:Array Oper}(T:nZ o=true)(U:fX σ ops o=some true){τ:S}(h:dw P N Φ ops σ o some=some τ):∃ (e:Nat) (x:aV) (u:A),o.dst=some e/\e<20000/\kA x/\mO e u/\τ=cJ e x u σ/\
  ∀σ2,fX σ2 ops o=some true->(∀y∈o.op.operands,aK σ2 y=aK σ y)->dw P N Φ ops σ2 o some=some (cJ e x u σ2):=by
 have Y:fM o.op=false->∀ σ2,fX σ2 ops o=some true->dw P N Φ ops σ2 o some=iH P N Φ σ2 o some:=by
  intro hv σ2 I;unfold dw;rw[I];simp only;unfold dB;rw[hv,au]
 have bsl:∀y:V,kA (.sl y):=λy=>⟨λ_=>rfl⟩
 unfold nZ at T;rw[aQ]at T;obtain⟨Z,zB⟩:=T;split at zB
 ·rename_i e D;have dW:e<20000:=cK zB;split at Z
  ·rename_i t C;have E:=Y (by rw[C];rfl);rw[E σ U]at h;simp only[iH,C,gP,D]at h;unfold qD at h;split at h
   ·rename_i z hz;unfold iw at h;cases hN:Nat.blt e N with
    |false=>rw[hN]at h;cases h
    | true=>
     rw[hN,aq]at h;injection h with h
     refine⟨e,.aC (z.cells.toList.map nR),.aO e 0,D,dW,.zero _,.inl rfl,h.symm,λσ2 I _=>(E σ2 I).trans ?_⟩
     simp only[iH,C,gP,D];unfold qD iw;rw[hz,hN];rfl
   ·cases h
  ·rename_i t len parts C;have E:=Y (by rw[C];rfl);rw[E σ U]at h;have hn:pO t=false:=by simpa using Z
   simp only[iH,C,gP,D,hn,au]at h;obtain⟨y,L,h2⟩:=abh h;injection L with L
   refine⟨e,.sl y,.lf (.own [e]),D,dW,bsl y,.inr rfl,L.symm,λσ2 I O=>(E σ2 I).trans ?_⟩
   simp only[iH,C,gP,D,hn,au]
   refine(h2 σ2 λq hq=>O _ ?_).at_ _
   rw[C];simp only[Op.operands];exact List.mem_toArray.2 (List.mem_map_of_mem (f:=(·.2)) hq)
  ·rename_i t l c C;have E:=Y (by rw[C];rfl);rw[E σ U]at h;simp only[iH,C,gP,D]at h;obtain⟨y,L,h2⟩:=abg h;injection L with L
   refine⟨e,.sl y,.lf (.own [e]),D,dW,bsl y,.inr rfl,L.symm,λσ2 I O=>(E σ2 I).trans ?_⟩
   simp only[iH,C,gP,D];rw[O l (by rw[C];simp[Op.operands]),O c (by rw[C];simp[Op.operands])];exact(h2 σ2).at_ _
  ·cases Z
 ·cases zB
def Nt{d:Nat}{t:TypeId}{y z:A}{U:S}(h:sV P N σ d t y z some=some U):∃ (r:Nat) (v:V),U=((σ.drop r).root r (.sl v)).set d (.lf (.own [r]))/\(r=d\/y = .lf (.own [r]))/\
  ∀σ2:S,(∀(k:V->ah S),rQ σ2 z k=rQ σ z k)->(∀r v,y = .lf (.own [r])->σ.m r=some (.sl v)->σ2.m r=some (.sl v))->sV P N σ2 d t y z some=some (((σ2.drop r).root r (.sl v)).set d (.lf (.own [r]))):=by
 unfold sV at h;split at h
 ·rename_i e L Y;cases I:(Nat.beq (full L) 0&&(zeroOf P e).any (λz=>Nat.beq z.cells.size (aG L)))with
  |false=>rw[I]at h;cases h
  | true=>
   rw[I,aq]at h;obtain⟨yv,C,Z⟩:=Ui.lZ h;clear h;split at C
   ·cases C
   ·rename_i l2 kM;split at C
    ·cases D:bF l2.length with
     |false=>rw[D]at C;cases C
     | true=>
      rw[D,aq]at C;cases O:Nat.blt d N with
      |false=>unfold iw at C;rw[O]at C;cases C
      | true=>
       have E:=C;unfold iw at E;rw[O,aq]at E;injection E with E
       refine⟨d,.sl L 2 false l2,E.symm,.inl rfl,λσ2 T zB=>?_⟩
       simp only[sV,Y,I,aq];refine(T _).trans ((Z.at_ _).trans ?_);simp only[kM,D,aq];unfold iw;rw[O,aq]
    ·rename_i rr;split at C
     ·rename_i t' o q l hm;split at C
      ·rename_i nj;cases D:(Nat.blt d N&&(Nat.blt rr N || Nat.ble 60000 rr)&&bF (l.length+l2.length))with
       |false=>rw[D]at C;cases C
       | true=>
        rw[D,aq]at C;injection C with C
        refine⟨rr,_,C.symm,.inr rfl,λσ2 T zB=>?_⟩
        simp only[sV,Y,I,aq];refine(T _).trans ((Z.at_ _).trans ?_);simp only[kM,zB rr _ rfl hm,aA nj,D,aq]
      ·cases C
     ·cases C
    ·cases C
 ·cases h
def U6(h:isApp o=true):∃ x y t C,o.op = .call ⟨.builtin .append,⟨[x,y]⟩,⟨[t,C]⟩⟩/\pO t=false/\Nat.beq t C=true/\Bt o.dst t x=false:=by
 unfold isApp at h
 grind
def Hx{x y:Operand}{t D:TypeId}(E:o.op = .call ⟨.builtin .append,⟨[x,y]⟩,⟨[t,D]⟩⟩)(I:pO t=false)(L:Nat.beq t D=true)(C:Bt o.dst t x=false)(σ:S):dB P N Φ σ o some=gP o λd=>sV P N σ d t (aK σ x) (aK σ y) some:=by
 unfold dB;rw[show fM o.op=false by rw[E];rfl];simp[iH,E,I,L,aq];unfold gP;cases O:o.dst with
 |none=>rfl
 | some d=>
  rw[O]at C;have C:Nd t d x=false:=C;simp_all
theorem apI{T:S}{x:Tmp}{y:Operand}{t U:TypeId}(C:o.op = .call ⟨.builtin .append,⟨[.tmp x,y]⟩,⟨[t,U]⟩⟩)(E:pO t=false)(I:Nat.beq t U=true)(L:Bt o.dst t (.tmp x)=false)(hp:∀ n,eS o n=true->p n=true/\pb n=true)(ko:qR p pb (σ.t x))(h:dB P N Φ σ o some=some T):Nonempty (qS P N Φ o p pb σ T):=by
 rw[Hx C E I L]at h;obtain⟨d,O,h⟩:=jT h;obtain⟨r,v,jh,hr,oV⟩:=Nt h;have D:p r=true/\pb r=true:=by
  rcases hr with hr|hr
  ·rw[hr];exact hp d (by unfold eS;rw[O,C];exact Nat.beq_refl d)
  ·exact ko r hr
 refine⟨{ G:=λσ=>(σ.drop r).root r (.sl v),u:=.lf (.own [r]),eq:=by rw[O];exact jh,run:=λσ2 Y Z=>?_,grow:=λσ=>.root r _ D.1 D.2 (.refl σ),set:=λσ e v' hv=>(by rw[S.drop_set r (A.Bl hv D.1 D.2)];rfl),bp:=λha=>(by rw[isApp,C]at ha;simp[E,I,L]at ha) }⟩
 rw[Hx C E I L];unfold gP;rw[O];simp only;rw[Y (.tmp x) (by rw[C];simp[Op.operands,Call.operands]),Y y (by rw[C];simp[Op.operands,Call.operands]),oV σ2 (λk=>apl Z _ k) (λr' v' _ h'=>by rw[Z];exact h')];rfl
theorem apJ[Inhabited Wd](dS:fL P Φ){ok:Nat->Nat->Bool}{qT mK mL:Nat->Bool}(hX:∀ x,mL x=true->jU p (σ.t x)){ops:Array Oper}{oi D:Oper}{v:A}{τ:S}(hF:mN P ops oi p pb v σ)(ha:oi.apart ops D=true)(L:Calm Φ ok qT mK p pb σ D)(hp:∀ n,eS D n=true->p n=true/\pb n=true)
  (h:dw P N Φ ops (gz σ oi.dst v) D some=some τ):∃ T,dw P N Φ ops σ D some=some T/\τ=gz T oi.dst v/\mN P ops oi p pb v T/\(isApp D=false->∀ t r j,σ.t t = .aO r j->D.dst≠some t->eS D r=false->T.t t = .aO r j)/\
   (∀t,jU p (σ.t t)->(D.dst≠some t\/(uX D=true/\p t=true)\/∃s x f,D.op = .fieldAddr s (.tmp x) f/\mL x=true)->jU p (T.t t))/\
   ∀t,qR p pb (σ.t t)->(D.dst≠some t\/(nZ D=true/\p t=true/\pb t=true)\/(isApp D=true\/zy Φ D=true))->qR p pb (T.t t):=by
 obtain⟨a1,a2,a3⟩:=Oper.apart_spec ha;have DW:∀ (σ:S) (u:A) t,D.dst≠some t->(gz σ D.dst u).t t=σ.t t:=by
  intro σ u t L;cases O:D.dst with
  |none=>rfl
  |some d=>exact cH _ _ _ (by rintro rfl;exact L O)
 have DX:∀ T,dw P N Φ ops σ D some=some T->∀ t,uX D=true->D.dst=some t->p t=true->jU p (T.t t):=by
  intro T C t DX O Uy;obtain⟨ty,e,E,U,h3,_⟩:=ab0 DX;rw[h3]at O;injection O with O;subst O;obtain⟨x,_,e1,_⟩:=apH E U h3 C;rw[e1];show jU p (bW _ e (.aO e 0) e);rw[bZ];exact Uy
 have fin:∀ T,dw P N Φ ops σ D some=some T->(∀ t,D.dst≠some t->jU p (σ.t t)->jU p (T.t t))->∀ t,jU p (σ.t t)->(D.dst≠some t\/(uX D=true/\p t=true)\/∃ s x f,D.op = .fieldAddr s (.tmp x) f/\mL x=true)->jU p (T.t t):=by
  intro T C hk t L U7;rcases U7 with cL|⟨E,U⟩|⟨s,x,f,E,U⟩
  ·exact hk t cL L
  ·by_cases O:D.dst=some t
   ·exact DX T C t E O U
   ·exact hk t O L
  ·by_cases O:D.dst=some t
   ·unfold dw at C;split at C
    ·unfold dB at C;rw[show fM D.op=true by rw[E];rfl,aq]at C;rw[E]at C;simp only[mJ]at C;have hx:=hX x U;have hx:jU p (aK σ (.tmp x)):=hx;generalize aK σ (.tmp x)=z at hx C;have key:∀ v,ir N σ D.dst v some=some T->jU p v->jU p (T.t t):=by
      intro v hv hA;obtain⟨I,_⟩:=r8 hv;injection I with I;rw[<-I,O];show jU p (bW σ.t t v t);rw[bZ];exact hA
     unfold Dj at C;split at C
     ·cases C
     ·split at C
      ·split at C
       ·exact key _ C hx
       ·exact key _ C trivial
       ·exact hx.elim
       ·cases C
      ·cases C
    ·obtain⟨I,_⟩:=r8 C;injection I with I;rw[<-I,O];show jU p (bW σ.t t .skip t);rw[bZ];trivial
    ·cases C
   ·exact hk t O L
 have apK:=L;have ab1:∀ T,dw P N Φ ops σ D some=some T->(∀ t,D.dst≠some t->qR p pb (σ.t t)->qR p pb (T.t t))->∀ t,qR p pb (σ.t t)->(D.dst≠some t\/(nZ D=true/\p t=true/\pb t=true)\/(isApp D=true\/zy Φ D=true))->qR p pb (T.t t):=by
  intro T C hk t L U7;rcases U7 with cL|⟨E,U⟩|apL|By
  ·exact hk t cL L
  ·by_cases O:D.dst=some t
   ·cases hw:fX σ ops D with
    |none=>unfold dw at C;rw[hw]at C;cases C
    | some b=>
     cases b with
     | true=>
      obtain⟨e,x,u,I,g2,g3,g4,g5,_⟩:=Ns E hw C;rw[O]at I;injection I with I;subst I;rw[g5];intro r hr;have hr:bW _ t u t = .lf (.own [r]):=hr;rw[bZ]at hr;rcases g4 with g4|g4
      ·rw[g4]at hr;cases hr
      ·rw[g4]at hr;injection hr with hr;injection hr with hr;injection hr with hr;subst hr;exact U
     | false=>
      unfold dw at C;rw[hw]at C;obtain⟨I,_⟩:=r8 C;injection I with I;rw[<-I,O];intro r hr;have hr:bW σ.t t .skip t = .lf (.own [r]):=hr;rw[bZ]at hr;cases hr
   ·exact hk t O L
  ·by_cases O:D.dst=some t
   ·obtain⟨x,y,t1,t2,I,g2,g3,g4⟩:=U6 apL;have hT:qR p pb (aK σ x):=by
     rcases apK with q|⟨f,args,jR,c,Z,_⟩|⟨ty,tt,yy,Z,_⟩|⟨x',y',t1',t2',Z,q2,q3,q4⟩
     ·rw[I]at q;cases q
     ·rw[I]at Z;cases Z
     ·rw[I]at Z;cases Z
     ·rw[I]at Z;injection Z with Z;injection Z with _ Z _;injection Z with Z;injection Z with Z _;subst Z;exact q4
    cases hw:fX σ ops D with
    |none=>unfold dw at C;rw[hw]at C;cases C
    | some b=>
     cases b with
     | true=>
      unfold dw at C;rw[hw]at C;have C:dB P N Φ σ D some=some T:=C;rw[Hx I g2 g3 g4]at C;obtain⟨d,tD,C⟩:=jT C;rw[O]at tD;injection tD with tD;subst tD;obtain⟨r,v,jh,hr,_⟩:=Nt C;rw[jh];intro r' fJ;have fJ:bW ((σ.drop r).root r (.sl v)).t t (.lf (.own [r])) t = .lf (.own [r']):=fJ;rw[bZ]at fJ;injection fJ with fJ;injection fJ with fJ;injection fJ with fJ;subst fJ;rcases hr with hr|hr
      ·rw[hr];exact hp t (by unfold eS;rw[O,I];exact Nat.beq_refl t)
      ·exact hT r hr
     | false=>
      unfold dw at C;rw[hw]at C;obtain⟨I,_⟩:=r8 C;injection I with I;rw[<-I,O];intro r hr;have hr:bW σ.t t .skip t = .lf (.own [r]):=hr;rw[bZ]at hr;cases hr
   ·exact hk t O L
  ·by_cases O:D.dst=some t
   ·cases hw:fX σ ops D with
    |none=>unfold dw at C;rw[hw]at C;cases C
    | some b=>
     cases b with
     | true=>
      unfold dw at C;rw[hw]at C;have C:dB P N Φ σ D some=some T:=C;unfold zy at By;split at By
      ·rename_i f args jR ho;split at By
       ·rename_i c hc;unfold dB at C;rw[show fM D.op=false by rw[ho];rfl,au]at C;simp only[iH,ho,hc]at C;obtain⟨d,tD,C⟩:=jT C;rw[O]at tD;injection tD with tD;subst tD;obtain⟨res,rT,E,U,_⟩:=M0 (Hu dS hc) DO C;injection U with U;subst U;have l8:∀ n,1000000000100000+1000*t<=n->p n=true/\pb n=true:=λn hn=>hp n (by unfold eS;rw[O,ho];exact ja hn)
        intro r hr;unfold nt at E;cases res with
        | one q=>
         simp only at E;split at E
         ·rename_i y Y;injection E with E;rw[<-E]at hr;have hr:bW _ t y t=A.lf (Lf.own [r]):=hr;rw[bZ]at hr;subst hr;obtain⟨b,vs⟩:=q;cases b with
          |true=>cases Y
          | false=>
           match vs,Y with
           | [v],Y=>
            have Y:some (A.lf (bif v.aI then Lf.v v else Lf.own [1000000000100000+1000*t]))=some (A.lf (Lf.own [r])):=Y;injection Y with Y;injection Y with Y;cases hf:v.aI with
            |true=>rw[hf]at Y;cases Y
            | false=>
             rw[hf]at Y;injection Y with Y;injection Y with Y;subst Y;exact l8 _ (dJ _)
         ·cases E
        | eX ps=>
         injection E with E;rw[<-E]at hr;have hr:bW _ t _ t=A.lf (Lf.own [r]):=hr;rw[bZ]at hr;cases hr
       ·cases By
      ·cases By
     | false=>
      unfold dw at C;rw[hw]at C;obtain⟨I,_⟩:=r8 C;injection I with I;rw[<-I,O];intro r hr;have hr:bW σ.t t .skip t = .lf (.own [r]):=hr;rw[bZ]at hr;cases hr
   ·exact hk t O L
 unfold dw at h;rw[apA a1]at h;split at h
 ·rename_i hw;have apM:Nonempty (qS P N Φ D p pb (gz σ oi.dst v) τ):=by
   rcases L with L|⟨f,args,jR,c,E,U,h3,h4,h5⟩|⟨ty,t,y,E,U,h3,h4⟩|⟨x,y,t1,t2,E,U,hn,h3⟩
   ·exact apy dS L hp h
   ·refine apE E U h3 hp ?_ h;rw[Hw]
    ·exact h5
    ·intro x hx;refine Nm a1 v ?_;rw[E];simp only[Op.operands,Call.operands];simp only[Array.mem_append]
     first
      |exact .inr (by simpa using hx)
      |exact .inl (by simpa using hx)
   ·refine apG E U ?_ h;have e1:aK (gz σ oi.dst v) (.tmp t)=aK σ (.tmp t):=Nm a1 v (by rw[E];simp[Op.operands]);have e1:(gz σ oi.dst v).t t=σ.t t:=e1;rw[e1];exact h4
   ·refine apI E hn.1 hn.2.1 hn.2.2 hp ?_ h;have e1:aK (gz σ oi.dst v) (.tmp x)=aK σ (.tmp x):=Nm a1 v (by rw[E];simp[Op.operands,Call.operands]);have e1:(gz σ oi.dst v).t x=σ.t x:=e1;rw[e1];exact h3
  obtain⟨G,u,e,hr,hg,hs,hbp⟩:=apM;have qU:dw P N Φ ops σ D some=some (gz (G σ) D.dst u):=by
   unfold dw;rw[hw];exact hr σ (λx hx=>(Nm a1 v hx).symm) (apz _ _).symm
  refine⟨gz (G σ) D.dst u,qU,?_,(hF.grow (hg σ)).put a3,λBz t r j L cL l8=>?_,fin _ qU λt cL L=>?_,ab1 _ qU λt cL L=>?_⟩
  ·refine e.trans ?_;have:∀ dst,G (gz σ dst v)=gz (G σ) dst v:=by
    intro dst;cases dst with
    |none=>rfl
    |some d=>exact hs σ d v hF.nr
   rw[this];exact abU _ _ a2
  ·rw[DW _ _ t cL];exact hbp Bz σ t r j L l8
  ·rw[DW _ _ t cL];exact(hg σ).st L
  ·rw[DW _ _ t cL];exact(hg σ).tg L
 ·rename_i hw;obtain⟨E,U⟩:=r8 h;injection E with E;have qU:dw P N Φ ops σ D some=some (gz σ D.dst .skip):=by
   unfold dw;rw[hw];exact(U σ).at_ _
  exact⟨gz σ D.dst .skip,qU,by rw[<-E];exact abU _ _ a2,hF.put a3,λ_ t r j L cL _=>(by rw[DW _ _ t cL];exact L),fin _ qU λt cL L=>(by rw[DW _ _ t cL];exact L),ab1 _ qU λt cL L=>(by rw[DW _ _ t cL];exact L)⟩
 ·cases h
def Any(P:Program)(N:Nat)(Φ:ez)(ops:Array Oper)(K:S->Prop):Nat->Nat->S->Prop
 |0,L,σ=>(∀j,mb ops L j=false)/\K σ
 |f+1,L,σ=>((∀j,mb ops L j=false)->K σ)/\∀j,mb ops L j=true->∃o C,ops[j]?=some o/\dw P N Φ ops σ o some=some C/\Any P N Φ ops K f (L |||2 ^ j) C
def zC(L i j:Nat):(L ||| 2 ^ i).testBit j=(L.testBit j || decide (i=j)):=by
 rw[Nat.testBit_or,Nat.testBit_two_pow]
def Hy{ops:Array Oper}{L j:Nat}:mb ops L j=true ↔ L.testBit j=false /\ ∃ o,ops[j]?=some o /\ ∀ e∈o.after,Region.binds .any e=true -> L.testBit e.on=true:=by
 unfold mb
 grind
def U8{ops:Array Oper}{L i j:Nat}(h:mb ops L j=true)(C:j≠i):mb ops (L ||| 2 ^ i) j=true:=by
 rw[Hy]at h ⊢
 grind
def mN.step{ops:Array Oper}{C:Oper}{v:A}(I:mN P ops C p pb v σ)(L:∀ σ:S,ir N σ C.dst v some=some (gz σ C.dst v)):dw P N Φ ops σ C some=some (gz σ C.dst v):=by
 unfold dw;rcases I with ⟨D,E,O,_,_,_⟩|⟨D,E⟩
 ·rw[D];unfold dB;rw[E,aq];exact(O.at_ _).trans (L σ)
 ·simp_all
def U9{K:S -> Prop}{ops:Array Oper}{i W:Nat}{U:Oper}(hi:ops[i]?=some U)(hW:∀ j C,ops[j]?=some C -> W.testBit j=true -> ∃ e∈C.after,Region.binds .any e=true/\(e.on=i \/ W.testBit e.on=true))(E:S -> S)(I:Nat -> S -> Prop)
  (r1:∀L σ,I L σ -> dw P N Φ ops σ U some=some (E σ))
  (r2:∀L σ j C Y,I L σ -> ops[j]?=some C -> j≠i -> L.testBit j=false -> W.testBit j=false -> dw P N Φ ops (E σ) C some=some Y -> ∃O,dw P N Φ ops σ C some=some O/\Y=E O/\I (L |||2 ^ j) O):
  ∀(f L:Nat) (σ:S),(∀j,W.testBit j=true -> L.testBit j=false) -> mb ops L i=true -> I L σ -> Any P N Φ ops K f (L |||2 ^ i) (E σ) -> Any P N Φ ops K (f+1) L σ:=by
 intro f
 induction f with
 | zero=>
  intro L σ uY T Z H
  refine⟨λh=>absurd (h i) (by rw[T];simp),λj hj=>?_⟩
  by_cases D:j=i
  ·subst D;exact⟨U,_,hi,r1 L σ Z,H⟩
  ·have:=U8 hj D;rw[H.1]at this;cases this
 | succ f ih=>
  intro L σ uY T Z H
  refine⟨λh=>absurd (h i) (by rw[T];simp),λj hj=>?_⟩
  by_cases D:j=i
  ·subst D;exact⟨U,_,hi,r1 L σ Z,H⟩
  ·obtain⟨C,Y,wY,jh,H'⟩:=H.2 j (U8 hj D);obtain⟨DY,oj',Nu,oV⟩:=Hy.1 hj;rw[wY]at Nu;injection Nu with Nu;subst Nu;have zD:W.testBit j=false:=by
    cases zD:W.testBit j with
    |false=>rfl
    | true=>
     obtain⟨e,he,hb,l9⟩:=hW j C wY zD;have h1:=oV e he hb;rcases l9 with l9|l9
     ·rw[l9,(Hy.1 T).1]at h1;cases h1
     ·rw[uY _ l9]at h1;cases h1
   obtain⟨O,hs,zE,hI'⟩:=r2 L σ j C Y Z wY D DY zD jh
   refine⟨C,O,wY,hs,ih (L |||2 ^ j) O (λk hk=>?_) (U8 T (Ne.symm D)) hI' ?_⟩
   ·grind
   ·rw[<- zE]
    grind
theorem apN[Inhabited Wd](dS:fL P Φ){ok:Nat -> Nat -> Bool}{qT mK mL:Nat -> Bool}{K:S -> Prop}{ops:Array Oper}{i W:Nat}{I:Oper}{v:A}(hi:ops[i]?=some I)(hN:∀ σ:S,ir N σ I.dst v some=some (gz σ I.dst v))
  (hW:∀j C,ops[j]?=some C -> W.testBit j=true -> ∃e∈C.after,Region.binds .any e=true/\(e.on=i \/ W.testBit e.on=true)) (f L:Nat) (σ:S)
  (jg:∀t r,ok t r=true -> ∀j C,ops[j]?=some C -> j≠i -> L.testBit j=false -> W.testBit j=false -> C.dst≠some t/\eS C r=false/\isApp C=false)
  (Nv:∀x,mL x=true -> ∀j C,ops[j]?=some C -> j≠i -> L.testBit j=false -> W.testBit j=false -> C.dst≠some x) (hX:∀x,mL x=true -> jU p (σ.t x))
  (Nw:∀t,qT t=true -> ∀j C,ops[j]?=some C -> j≠i -> L.testBit j=false -> W.testBit j=false -> C.dst≠some t \/ (uX C=true/\p t=true) \/ ∃s x f,C.op = .fieldAddr s (.tmp x) f/\mL x=true)
  (Ny:∀t,mK t=true -> ∀j C,ops[j]?=some C -> j≠i -> L.testBit j=false -> W.testBit j=false -> C.dst≠some t \/ (nZ C=true/\p t=true/\pb t=true) \/ (isApp C=true \/ zy Φ C=true))
  (BA:∀j C,ops[j]?=some C -> j≠i -> L.testBit j=false -> W.testBit j=false -> I.apart ops C=true/\Calm Φ ok qT mK p pb σ C /\ ∀n,eS C n=true -> p n=true/\pb n=true)
  (uY:∀j,W.testBit j=true -> L.testBit j=false) (hr:mb ops L i=true) (hF:mN P ops I p pb v σ) (H:Any P N Φ ops K f (L |||2 ^ i) (gz σ I.dst v)):Any P N Φ ops K (f+1) L σ:=by
 refine U9 hi hW (λσ=>gz σ I.dst v)
  (λL σ=>mN P ops I p pb v σ/\(∀ t r,ok t r=true -> ∀ j C,ops[j]?=some C -> j≠i -> L.testBit j=false -> W.testBit j=false -> C.dst≠some t/\eS C r=false/\isApp C=false) /\
   ((∀x,mL x=true -> ∀j C,ops[j]?=some C -> j≠i -> L.testBit j=false -> W.testBit j=false -> C.dst≠some x) /\ ∀x,mL x=true -> jU p (σ.t x)) /\
   (∀t,qT t=true -> ∀j C,ops[j]?=some C -> j≠i -> L.testBit j=false -> W.testBit j=false -> C.dst≠some t \/ (uX C=true/\p t=true) \/ ∃s x f,C.op = .fieldAddr s (.tmp x) f/\mL x=true) /\
   (∀t,mK t=true -> ∀j C,ops[j]?=some C -> j≠i -> L.testBit j=false -> W.testBit j=false -> C.dst≠some t \/ (nZ C=true/\p t=true/\pb t=true) \/ (isApp C=true \/ zy Φ C=true)) /\
   ∀j C,ops[j]?=some C -> j≠i -> L.testBit j=false -> W.testBit j=false -> I.apart ops C=true/\Calm Φ ok qT mK p pb σ C /\ ∀n,eS C n=true -> p n=true/\pb n=true)
  (λL σ h=>h.1.step hN) (λL σ j C τ h wY Hz DY zD jh=>?_) f L σ uY hr ⟨hF,jg,⟨Nv,hX⟩,Nw,Ny,BA⟩ H
 obtain⟨hF,jg,⟨Nv,hX⟩,Nw,Ny,BA⟩:=h;obtain⟨c1,c2,c3⟩:=BA j C wY Hz DY zD;obtain⟨cY,hs,zE,hF',Ut,ko,hta⟩:=apJ (mL:=mL) dS hX hF c1 c2 c3 jh;have Z:∀ k,(L ||| 2 ^ j).testBit k=false -> L.testBit k=false:=by
  intro k D;rw[zC,pq]at D;exact D.1
 refine⟨cY,hs,zE,hF',λt r E k O D T U Y=>jg t r E k O D T (Z k U) Y,⟨λx hx k O D T U Y=>Nv x hx k O D T (Z k U) Y,λx hx=>ko x (hX x hx) (.inl (Nv x hx j C wY Hz DY zD))⟩,λt E k O D T U Y=>Nw t E k O D T (Z k U) Y,λt E k O D T U Y=>Ny t E k O D T (Z k U) Y,λk O D T U Y=>?_⟩
 obtain⟨d1,d2,d3⟩:=BA k O D T (Z k U) Y
 refine⟨d1,d2.lz (λt r j' E h=>?_) (λt h E=>ko t E (Nw t h j C wY Hz DY zD)) (λt h E=>hta t E (Ny t h j C wY Hz DY zD)),d3⟩
 grind
def A.Va(y:A)(a b:Nat):(y.drop a).drop b=(y.drop b).drop a:=A.oD y _ _
def aV.Va(y:aV)(a b:Nat):(y.drop a).drop b=(y.drop b).drop a:=aV.oD y _ _
def mO.drop(h:mO e u){n:Nat}(C:e≠n):u.drop n=u:=by
 rcases h with rfl|rfl
 ·simp only[A.drop,oE C,au,A.cE,wm]
 ·have:cR n [e]=false:=by simp[cR,C]
  simp only[A.drop,Lf.drop,this,au,A.cE,wm,Lf.cE]
def mO.di(h:mO e u){ns cn:aa Nat}(D:cW e ns=false)(C:cW e cn=false):u.di ns cn=u:=by
 rcases h with rfl|rfl
 ·simp only[A.di,C,au,A.cE,uQ]
 ·have E:fW [e] ns=false:=D;have I:fW [e] cn=false:=C;simp only[A.di,Lf.di,E,I,A.cE,uQ,Lf.cE];rfl
def qV(k:Nat):(cJ e x u σ).t k=if k=e then u else (σ.t k).drop e:=by
 by_cases C:k=e
 ·subst C;rw[bN rfl];exact bZ _ _ _
 ·rw[bO C];exact cH _ _ _ C
def oW(n:Nat):(cJ e x u σ).m n=if n=e then some x else (σ.m n).map (aV.drop e):=by
 show bW (λr=>bif Nat.beq r e then none else (σ.m r).map (aV.drop e)) e (some x) n=_;by_cases C:n=e
 ·subst C;rw[bN rfl,bZ]
 ·rw[bO C,cH _ _ _ C,oE C];rfl
def Vb(c:Nat)(y:aV)(k:Nat):((σ.drop c).root c y).t k=(σ.t k).drop c:=rfl
def ab2(c:Nat)(y:aV)(n:Nat):((σ.drop c).root c y).m n=if n=c then some y else (σ.m n).map (aV.drop c):=by
 show bW (λr=>bif Nat.beq r c then none else (σ.m r).map (aV.drop c)) c (some y) n=_;by_cases C:n=c
 ·subst C;rw[bN rfl,bZ]
 ·rw[bO C,cH _ _ _ C,oE C];rfl
def ab3{c:Nat}(z:V)(I:kA x)(L:mO e u)(O:e≠c):((cJ e x u σ).drop c).root c (.sl z)=cJ e x u ((σ.drop c).root c (.sl z)):=by
 refine S.ext' (λk=>?_) λn=>?_
 ·rw[Vb,qV,qV,Vb];by_cases C:k=e
  ·rw[bN C,bN C];exact L.drop O
  ·rw[bO C,bO C];exact A.oD _ _ _
 ·rw[ab2,oW,oW,ab2];by_cases D:n=c
  ·rw[bN D,bO,bN D];rfl
  ·rw[bO D];by_cases E:n=e
   ·rw[bN E,bN E];simp only[Option.map_some,I.drop]
   ·rw[bO E,bO E,bO D,Option.map_map,Option.map_map];congr 1;funext y;exact aV.oD y _ _
def Nz(C:kA x)(D:mO e u):∀ (xs:aa V) (c:Nat) (σ:S),e<c -> mG c (cJ e x u σ) xs=cJ e x u (mG c σ xs)
 |[],c,σ,_=>rfl
 | y :: xs,c,σ,h=>by
  simp[mG];cases E:y.aI with
  |true=>exact Nz C D xs _ σ (by omega)
  | false=>
   rw[ab3 y C D (by omega)];exact Nz C D xs _ _ (by omega)
def ab4(C:kA x)(D:mO e u):∀ (ps:aa Pt) (c:Nat) (σ:S),e<c -> nU c (cJ e x u σ) ps=cJ e x u (nU c σ ps)
 |[],c,σ,_=>rfl
 | q :: ps,c,σ,h=>by
  simp[nU];rw[Nz C D _ _ _ h];exact ab4 C D ps _ _ (by omega)
def NA{v:A}(D:d≠e)(E:v.drop e=v):(cJ e x u σ).set d v=cJ e x u (σ.set d v):=by
 refine S.ext' (λk=>?_) λn=>?_
 ·show bW (cJ e x u σ).t d v k=_;rw[qV];show _=if k=e then u else (bW σ.t d v k).drop e;by_cases C:k=d
  ·subst C;rw[bZ,bO D,bZ,E]
  ·rw[cH _ _ _ C,cH _ _ _ C,qV]
 ·rfl
def apO{v:A}{C:ah Tmp}(D:C≠some e)(E:v.drop e=v):gz (cJ e x u σ) C v=cJ e x u (gz σ C v):=by
 cases C with
 |none=>rfl
 |some d=>exact NA (by rintro rfl;exact D rfl) E
def apP{ns cn:aa Nat}{nr:aa (Nat×aV)}(O:kA x)(T:mO e u)(E:cW e ns=false)(I:cW e cn=false)(L:∀ q∈nr,q.1≠e/\q.2.drop e=q.2):(cJ e x u σ).di ns cn nr=cJ e x u (σ.di ns cn nr):=by
 have hl:nr.lookup e=none:=by
  cases hl:nr.lookup e with
  |none=>rfl
  |some y=>exact absurd rfl (L _ (Nq hl)).1
 refine S.ext' (λk=>?_) λn=>?_
 ·show ((cJ e x u σ).t k).di ns cn=_;rw[qV,qV];by_cases C:k=e
  ·rw[bN C,bN C];exact T.di E I
  ·rw[bO C,bO C];exact A.oD _ _ _
 ·rw[oW];show (match nr.lookup n with | some x=>some x | none=>bif cW n ns || cW n cn then none else ((cJ e x u σ).m n).map (aV.di ns cn))=if n=e then some x else (match nr.lookup n with | some x=>some x | none=>bif cW n ns || cW n cn then none else (σ.m n).map (aV.di ns cn)).map (aV.drop e);by_cases D:n=e
  ·subst D;rw[bN rfl,hl,E,I];simp only[Bool.or_false,au,oW,if_true,Option.map_some,O.di]
  ·rw[bO D];cases U:nr.lookup n with
   |some y=>simp only[Option.map_some];rw[(L _ (Nq U)).2]
   | none=>
    simp only;cases (cW n ns ||cW n cn)with
    |true=>rfl
    | false=>
     simp only[au];rw[oW,bO D,Option.map_map,Option.map_map];congr 1;funext y;exact aV.oD y _ _
/-! What a call reads. -/
def ab5{q:aa Nat}{k:V->ah X}(h:cR e q=false):jr (cJ e x u σ).m q k=jr σ.m q k:=aps q k h
def wZ{y:Operand}(h:(aK σ y).nr p=true)(C:p e=true)(D:y ≠ .tmp e):aK (cJ e x u σ) y=aK σ y:=by
 cases y with
 | tmp t=>
  show (cJ e x u σ).t t=σ.t t;rw[qV,bO (by rintro rfl;exact D rfl)];exact A.zn h C
 |_=>rfl
def Vc{l:Lf}{k:V->ah X}(h:l.nr p=true)(C:p e=true):oH (cJ e x u σ) l k=oH σ l k:=by
 cases l with
 |own q=>exact ab5 (abn h C)
 |_=>rfl
def ab6{q:aa Nat}{s i j:Nat}{k:V->ah X}(h:nY p q=true)(C:p e=true):uH (cJ e x u σ) q s i j k=uH σ q s i j k:=by
 unfold uH;exact ab5 (abn h C)
def apQ{y:A}{k:V->ah X}(h:y.nr p=true)(C:p e=true):rQ (cJ e x u σ) y k=rQ σ y k:=by
 cases y with
 |lf l=>exact Vc h C
 |view q s i j=>exact ab6 h C
 |_=>rfl
def Vd(C:p e=true):∀ (xs:aa Lf) (k:aa V -> ah X),xs.all (Lf.nr p)=true -> qH (cJ e x u σ) xs k=qH σ xs k
 |[],k,_=>rfl
 | y :: xs,k,h=>by
  rw[List.all_cons,aQ]at h;simp[qH,Vc h.1 C];congr 1;funext z;exact Vd C xs _ h.2
def apR{y:A}{k:Pt->ah X}(h:y.nr p=true)(C:p e=true):nS (cJ e x u σ) y k=nS σ y k:=by
 cases y with
 |lf l=>simp only[nS];exact Vd C _ _ (by rw[List.all_cons,show l.nr p=true from h];rfl)
 |agg cs=>simp only[nS];exact Vd C _ _ h
 |view q s i j=>simp only[nS];exact ab6 h C
 |jo cs=>cases cs<;>rfl
 |_=>rfl
def ab7(C:p e=true):∀ (xs:aa Operand) (k:aa Pt->ah X),(∀ y∈xs,(aK σ y).nr p=true/\y ≠ .tmp e)->rV (cJ e x u σ) xs k=rV σ xs k
 |[],k,_=>rfl
 | y :: xs,k,h=>by
  obtain⟨D,E⟩:=h y (.head _);unfold rV uM;rw[wZ D C E,apR D C];congr 1;funext z;exact ab7 C xs _ (λy I=>h y (.tail _ I))
def Ve{ns:aa Nat}(C:p e=true):∀ (xs:aa Lf) (k:aa V -> ah X),xs.all (Lf.nr p)=true -> rZ (cJ e x u σ) ns xs k=rZ σ ns xs k
 |[],k,_=>rfl
 | y :: xs,k,h=>by
  rw[List.all_cons,aQ]at h;simp[rZ,Vc h.1 C];congr 2;funext z;exact Ve C xs _ h.2
def ab8{d:Nat}:∀ (xs:aa Lf),qC (xs.map (Lf.drop d))=qC xs
 |[]=>rfl
 | x :: xs=>by
  have C:(x.drop d).pl=x.pl:=by
   cases x with
   | own k=>
    show (bif cR d k then _ else Lf.own k).pl=_;cases cR d k<;>rfl
   |_=>rfl
  simp[List.map_cons,qC,C,ab8]
def apS{ns:aa Nat}{y:A}{k:Pt->ah X}(h:y.nr p=true)(C:p e=true):qO (cJ e x u σ) ns y k=qO σ ns y k:=by
 cases y with
 |lf l=>simp only[qO];exact Ve C _ _ (by rw[List.all_cons,show l.nr p=true from h];rfl)
 |agg cs=>simp only[qO];exact Ve C _ _ h
 |ng f cs=>cases cs<;>rfl
 | fn f cap=>
  match cap,h with
  |[],_=>rfl
  |_::_::_,_=>rfl
  | [(D,j)],h=>
   have E:p D=false:=by simpa [A.nr,A.fr,tu]using h
   have I:D≠e:=by rintro rfl;rw[C]at E;cases E
   simp only[qO,oW,bO I];cases σ.m D with
   |none=>rfl
   | some z=>
    cases z with
    |aC cs=>simp only[Option.map_some,aV.Hs,<-List.map_drop,ab8]
    |_=>rfl
 |_=>rfl
def apT{l:Lf}(h:l.nr p=true)(C:p e=true):uR (cJ e x u σ).m l=uR σ.m l:=by
 cases l with
 | own k=>
  match k with
  |[]=>rfl
  | [q]=>
   have D:q≠e:=by
    have h:(!p q)=true:=by simpa [Lf.nr,Lf.fr,nY,jc]using h
    rintro rfl;rw[C]at h;cases h
   simp only[uR];rw[oW,bO D];cases σ.m q with
   |none=>rfl
   |some y=>cases y<;>rfl
  |_::_::_=>rfl
 |v x=>rfl
 |dead=>rfl
def ab9(C:p e=true):∀ (ls:aa Lf),ls.all (Lf.nr p)=true -> qN (cJ e x u σ).m ls=qN σ.m ls
 |[],_=>rfl
 | l :: ls,h=>by
  rw[List.all_cons,aQ]at h;simp[qN,apT h.1 C,ab9 C ls h.2]
def acd{m:Nat->ah aV}:∀ {cs:aa Lf} {E:aa (V×ah Nat)},qN m cs=some E->cs.all (Lf.nr p)=true->∀ v∈E,∀ q,v.2=some q->p q=false
 |[],E,h,_=>by injection h with h;subst h;simp
 | c :: cs,E,h,I=>by
  rw[List.all_cons,aQ]at I;unfold qN at h;split at h
  ·rename_i v U C O;injection h with h;subst h;intro u hu q D;rcases gJ.1 hu with rfl | hu
   ·unfold uR at C;split at C
    ·injection C with C;rw[<-C]at D;cases D
    ·rename_i Y;split at C
     ·rename_i y _;cases L:y.aI with
      |true=>rw[L]at C;injection C with C;rw[<-C]at D;cases D
      | false=>
       rw[L,au]at C;injection C with C;rw[<-C]at D;injection D with D;subst D;have T:=I.1
       simpa [Lf.nr,Lf.fr,nY,jc]using T
     ·cases C
    ·cases C
   ·exact acd O I.2 u hu q D
  ·cases h
def NB(p:Nat->Bool):Mu->Prop
 |.aC r cs C=>p r=false/\cs.all (Lf.nr p)=true/\∀v∈C,∀q,v.2=some q->p q=false
 |.sl q _=>p q=false
def Vf(I:p e=true):∀ (ps:aa PK) (xs:aa Operand) (L:aa Mu),(∀ y∈xs,(aK σ y).nr p=true/\y ≠ .tmp e)->(∀ n∈iW σ ps xs,wW σ p n=true)->jC σ ps xs=some L->jC (cJ e x u σ) ps xs=some L/\∀ C∈L,NB p C
 |[],[],L,_,_,h=>⟨h,by injection h with h;subst h;simp⟩
 |[],_::_,L,_,_,h=>by cases h
 |_::_,[],L,_,_,h=>by cases h
 | q :: ps,y :: xs,L,hy,hl,h=>by
  obtain⟨E,h2⟩:=hy y (.head _);have yY:∀ n∈iW σ ps xs,wW σ p n=true:=by
   intro n Y;refine hl n ?_;cases q with
   |v=>exact Y
   |s=>exact Y
   | p t g off=>
    simp only[iW];split
    ·exact .tail _ Y
    ·exact Y
  unfold jC at h;have D:∀ z,uS σ q (aK σ y)=some z->uS (cJ e x u σ) q (aK (cJ e x u σ) y)=some z/\∀ C,z=some C->NB p C:=by
   intro z hz;rw[wZ E I h2];have O:=uU hz;cases q with
   | v=>
    cases z with
    |some C=>exact O.elim
    |none=>exact⟨hz,by simp⟩
   | p t g off=>
    cases z with
    |none=>exact O.elim
    | some C=>
     cases C with
     |sl=>exact O.elim
     | aC U cs vs=>
      obtain⟨T,hm,hg,hlen⟩:=O;have fJ:p U=false:=by
       rw[T]at E;have E:(!p U)=true:=E
       simpa using E
      have cL:U≠e:=by rintro rfl;rw[I]at fJ;cases fJ
      have Z:cs.all (Lf.nr p)=true:=by
       have:=hl U (by simp only[iW,T];exact .head _);unfold wW at this;rw[hm]at this;exact this
      have rS:(cJ e x u σ).m U=some (.aC cs):=by
       rw[oW,bO cL,hm];simp only[Option.map_some,aV.Hs,qz.zn Z I]
      refine⟨?_,λC D=>?_⟩
      ·rw[T];simp only[uS,Nat.beq_refl,aq,rS,ab9 I cs Z,hg];have:Nat.blt cs.length 999=true:=ja hlen;rw[this];rfl
      ·injection D with D;subst D;exact⟨fJ,Z,acd hg Z⟩
   | s t g=>
    cases z with
    |none=>exact O.elim
    | some C=>
     cases C with
     |aC=>exact O.elim
     | sl q y0=>
      obtain⟨T,hm,hf⟩:=O;have hq:p q=false:=by
       rw[T]at E;have E:(!p q)=true:=by simpa [A.nr,A.fr,tu,Lf.nr,Lf.fr,nY,jc]using E
       simpa using E
      have cL:q≠e:=by rintro rfl;rw[I]at hq;cases hq
      refine⟨?_,λC D=>?_⟩
      ·rw[T];simp only[uS];rw[oW,bO cL,hm];simp only[Option.map_some,aV.drop,hf,au,aV.cE]
      ·injection D with D;subst D;exact hq
  split at h
  ·rename_i C Na k1 k2;injection h with h;subst h;obtain⟨g1,g2⟩:=D _ k1;obtain⟨f1,f2⟩:=Vf I ps xs Na (λy h=>hy y (.tail _ h)) yY k2
   refine⟨by simp only[jC,g1,f1],λm hm=>?_⟩
   rcases gJ.1 hm with rfl|hm
   ·exact g2 _ rfl
   ·exact f2 m hm
  next Na k1 k2=>injection h with h;subst h;obtain⟨g1,g2⟩:=D _ k1;obtain⟨f1,f2⟩:=Vf I ps xs Na (λy h=>hy y (.tail _ h)) yY k2;exact⟨by simp only[jC,g1,f1],f2⟩
  ·cases h
def NC(D:p e=true)(ns:aa Nat):∀ (ps:aa PK) (xs:aa Operand) (C:aa Mu) (k:lF ps->ah X),(∀ y∈xs,(aK σ y).nr p=true/\y ≠ .tmp e)->jD (cJ e x u σ) ns ps xs C k=jD σ ns ps xs C k
 |[],[],[],k,_=>rfl
 | .v b t :: ps,y :: xs,C,k,h=>by
  obtain⟨I,L⟩:=h y (.head _);simp only[jD];rw[wZ I D L,apS I D];congr 1;funext z;congr 1;split
  ·exact NC D ns ps xs C _ (λy E=>h y (.tail _ E))
  ·rfl
 | .p t g off :: ps,y :: xs,.aC O cs T :: C,k,h=>by
  simp only[jD];split
  ·exact NC D ns ps xs C _ (λy E=>h y (.tail _ E))
  ·rfl
 | .s t g :: ps,y :: xs,.sl q U :: C,k,h=>by
  simp only[jD];split
  ·exact NC D ns ps xs C _ (λy E=>h y (.tail _ E))
  ·rfl
 |[],[],_::_,k,_=>rfl
 |[],_::_,_,k,_=>rfl
 |.v _ _::_,[],_,k,_=>rfl
 |.p _ _ _::_,[],_,k,_=>rfl
 |.s _ _::_,[],_,k,_=>rfl
 |.p _ _ _::_,_::_,[],k,_=>rfl
 |.s _ _::_,_::_,[],k,_=>rfl
 |.p _ _ _::_,_::_,.sl _ _::_,k,_=>rfl
 |.s _ _::_,_::_,.aC _ _ _::_,k,_=>rfl
def Vg{i:Nat}:∀ (C:aa (V×ah Nat)) (j:Nat),(∀ v∈C,∀ q,v.2=some q -> p q=false) -> ∀ u∈DE i j C,p u.1=false
 |[],_,_,u,hu=>by cases hu
 |(y,none)::C,j,h,u,hu=>Vg C (j+1) (λv D=>h v (.tail _ D)) u hu
 | (y,some q) :: C,j,h,u,hu=>by
  rcases gJ.1 hu with rfl|hu
  ·simp_all
  ·exact Vg C (j+1) (λv D=>h v (.tail _ D)) u hu
def Vh:∀ (C:aa Mu) (i:Nat),(∀ E∈C,NB p E) -> ∀ u∈lG i C,p u.1=false
 |[],_,_,u,hu=>by cases hu
 | .aC T cs I :: C,i,h,u,hu=>by
  obtain⟨L,U,O⟩:=h _ (.head _);rcases gJ.1 hu with rfl|hu
  ·exact L
  ·rcases List.mem_append.1 hu with hu | hu
   ·exact Vg I 0 O u hu
   ·exact Vh C _ (λm D=>h m (.tail _ D)) u hu
 | .sl q y :: C,i,h,u,hu=>by
  rcases gJ.1 hu with rfl|hu
  ·exact h _ (.head _)
  ·exact Vh C (i+1) (λm D=>h m (.tail _ D)) u hu
def Vi{c0:Nat}(E:∀ n,c0 <= n -> p n=false):∀ (C:aa (V×ah Nat)) (n:Nat),(∀ v∈C,∀ q,v.2=some q -> p q=false) -> ∀ u∈mH c0 n C,p u=false
 |[],_,_,u,hu=>by cases hu
 | (y,none) :: C,n,h,u,hu=>by
  rcases gJ.1 hu with rfl|hu
  ·simp_all
  ·exact Vi E C (n+1) (λv D=>h v (.tail _ D)) u hu
 | (y,some q) :: C,n,h,u,hu=>by
  rcases gJ.1 hu with rfl|hu
  ·simp_all
  ·exact Vi E C (n+1) (λv D=>h v (.tail _ D)) u hu
def Vj:∀ (C:aa Nat) (xs:aa V),∀ u∈uV C xs,u∈C
 |[],[],u,hu=>by cases hu
 | n :: C,y :: xs,u,hu=>by
  simp[uV]at hu;cases D:y.aI with
  |true=>rw[D]at hu;exact .tail _ (Vj C xs u hu)
  | false=>
   rw[D]at hu;rcases gJ.1 hu with rfl|hu
   ·simp_all
   ·exact .tail _ (Vj C xs u hu)
def ace{ns cn:aa Nat}:∀ (C:aa Nat) (ls:aa Lf) (xs:aa V),(∀ n∈C,p n=false)->ls.all (Lf.nr p)=true->(oS ns cn C ls xs).all (Lf.nr p)=true
 |[],_,_,_,_=>by simp[oS]
 |_::_,[],_,_,_=>by simp[oS]
 |_::_,_::_,[],_,_=>by simp[oS]
 | n :: C,l :: ls,y :: xs,E,D=>by
  rw[List.all_cons,aQ]at D;simp only[oS,List.all_cons,aQ]
  refine⟨?_,ace C ls xs (λn I=>E n (.tail _ I)) D.2⟩
  cases y.plain with
  |true=>rfl
  | false=>
   simp only[au];cases y.aI with
   | true=>
    simp only[aq];cases l with
    | own k=>
     have L:Lf.di ns cn (.own k)=(bif fW k cn ||(fW k ns && !(Nat.beq k.length 1))then .dead else .own k):=rfl;rw[L];cases (fW k cn ||(fW k ns && !(Nat.beq k.length 1)))with
     |true=>rfl
     |false=>exact D.1
    |v x=>rfl
    |dead=>rfl
   | false=>
    show (!p n)=true;rw[E n (.head _)];rfl
def Vk:∀ (C:aa Nat) (xs:aa V),∀ u∈tj C xs,u.1∈C /\ ∃ y,u.2 = .sl y
 |[],[],u,hu=>by cases hu
 |[],_::_,u,hu=>by cases hu
 | n :: C,y :: xs,u,hu=>by
  simp[tj]at hu;cases I:y.aI with
  |true=>rw[I]at hu;obtain⟨D,E⟩:=Vk C xs u hu;exact⟨.tail _ D,E⟩
  | false=>
   rw[I]at hu;rcases gJ.1 hu with rfl|hu
   ·simp_all
   ·obtain⟨D,E⟩:=Vk C xs u hu;exact⟨.tail _ D,E⟩
def Vl{c0:Nat}{ns cn:aa Nat}(E:p e=true)(O:∀ n,c0<=n->p n=false):∀ (D:aa Mu) (outs:aa In) (C:Nat),(∀ mu∈D,NB p mu)->(∀ u∈nB c0 C D outs,p u=false)/\∀ u∈lH ns cn c0 C D outs,u.1≠e/\u.2.drop e=u.2
 |[],outs,C,_=>⟨(λu hu=>by simp[nB]at hu),(λu hu=>by simp[lH]at hu)⟩
 |.aC _ _ _::_,[],C,_=>⟨(λu hu=>by cases hu),(λu hu=>by cases hu)⟩
 |.sl _ _::_,[],C,_=>⟨(λu hu=>by cases hu),(λu hu=>by cases hu)⟩
 |.aC _ _ _::_,.sl _::_,C,_=>⟨(λu hu=>by cases hu),(λu hu=>by cases hu)⟩
 |.sl _ _::_,.aC _::_,C,_=>⟨(λu hu=>by cases hu),(λu hu=>by cases hu)⟩
 | .aC r' cs Z :: D,.aC xs :: outs,C,h=>by
  obtain⟨I,h2,h3⟩:=h _ (.head _);obtain⟨T,L⟩:=Vl (ns:=ns) (cn:=cn) E O D outs (C+1+Z.length) (λm U=>h m (.tail _ U));have cL:∀n,p n=false->n≠e:=by rintro n hn rfl;rw[E]at hn;cases hn
  have Y:=Vi O Z (C+1) h3
  refine⟨λu hu=>?_,λu hu=>?_⟩
  ·simp only[nB]at hu;rcases List.mem_append.1 hu with hu | hu
   ·exact Y u (Vj _ _ u hu)
   ·exact T u hu
  ·simp only[lH]at hu;rcases gJ.1 hu with rfl | hu
   ·refine⟨cL _ I,?_⟩;rw[aV.Hs,qz.zn (ace _ _ _ Y h2) E]
   ·rcases List.mem_append.1 hu with hu | hu
    ·obtain⟨g1,y,g2⟩:=Vk _ _ u hu;exact⟨cL _ (Y _ g1),by rw[g2];rfl⟩
    ·exact L u hu
 | .sl q y :: D,.sl y' :: outs,C,h=>by
  have I:p q=false:=h _ (.head _);obtain⟨T,L⟩:=Vl (ns:=ns) (cn:=cn) E O D outs (C+1) (λm U=>h m (.tail _ U))
  refine⟨λu hu=>T u (by simpa [nB]using hu),λu hu=>?_⟩
  simp only[lH]at hu;cases hy:y'.ki with
  |false=>rw[hy]at hu;exact L u hu
  |true=>
  rw[hy]at hu;rcases gJ.1 hu with rfl|hu
  ·exact⟨(by rintro rfl;rw[E]at I;cases I),rfl⟩
  ·exact L u hu
def Vm:∀ (xs:aa V) (c:Nat),e<c->(nT c xs).map (Lf.drop e)=nT c xs
 |[],_,_=>rfl
 | y :: xs,c,h=>by
  simp only[nT,List.map_cons];rw[Vm xs (c+1) (by omega)];cases y.aI with
  |true=>rfl
  | false=>
   have:cR e [c]=false:=by simp[cR];omega
   simp only[au,Lf.drop,this,Lf.cE]
def apU{b:Bool}{xs:aa Lf}{y:A}(h:yM (b,xs)=some y)(C:xs.map (Lf.drop e)=xs):y.drop e=y:=by
 unfold yM at h;split at h
 next D=>injection h with h;subst h;obtain⟨_,rfl⟩:=D;exact bx A.agg C
 next z D=>injection h with h;subst h;obtain⟨_,rfl⟩:=D;simp at C;exact bx A.lf C
 ·cases h
def acf:∀ (ps:aa Pt) (c:Nat),e<c->(rW c ps).map (λq=>(q.1,q.2.map (Lf.drop e)))=rW c ps
 |[],_,_=>rfl
 | q :: ps,c,h=>by
  simp only[rW,List.map_cons];rw[Vm _ _ h,acf ps _ (by omega)]
def apV(ps:aa Pt)(c:Nat)(h:e<c):A.drop e (.eX (rW c ps)) = .eX (rW c ps):=bx A.eX (acf ps c h)
def acg(C:kA x)(D:mO e u)(T:e<20000)(E:d≠e){I:gf}{L:S}(h:nt σ d I some=some L):nt (cJ e x u σ) d I some=some (cJ e x u L):=by
 unfold nt at h ⊢;split at h
 ·split at h
  next y O=>injection h with h;subst h;rw[Nz C D _ _ _ (by omega),NA E (apU O (Vm _ _ (by omega)))]
  ·cases h
 ·injection h with h;subst h;rw[ab4 C D _ _ _ (by omega),NA E (apV _ _ (by omega))]
def apW(L:kA x)(O:mO e u)(T:e<20000){C:ah Tmp}(U:C≠some e){E:gf}{D:S}(h:pL N σ C E some=some D):pL N (cJ e x u σ) C E some=some (cJ e x u D):=by
 cases C with
 | none=>
  have h:some σ=some D:=h;injection h with h;rw[<-h];rfl
 | some d=>
  unfold pL at h ⊢;cases I:Nat.blt d N with
  |false=>simp only[I,au]at h;cases h
  | true=>
   simp only[I,aq]at h ⊢;exact acg L O T (by rintro rfl;exact U rfl) h
def apX(dS:fL P Φ)(Z:kA x)(U:mO e u)(he:e<20000)(O:p e=true)(HA:∀ n,20000<=n->p n=false)(C:nE Φ o=true)(hd:o.dst≠some e)(r9:∀ y∈o.op.operands,(aK σ y).nr p=true/\y ≠ .tmp e)(hl:∀ n∈oT Φ σ o,wW σ p n=true){τ:S}
  (h:dB P N Φ σ o some=some τ):dB P N Φ (cJ e x u σ) o some=some (cJ e x u τ):=by
 have zF:∃ f args jR,o.op = .call { callee:=.value (.func f),args:=args,argTypes:=jR }:=by
  unfold nE at C;split at C
  ·exact⟨_,_,_,by assumption⟩
  ·cases C
 obtain⟨f,args,jR,D⟩:=zF;have oQ:∀ y∈args.toList,(aK σ y).nr p=true/\y ≠ .tmp e:=by
  intro y hy;refine r9 y ?_;rw[D];simp only[Op.operands,Call.operands];simp only[Array.mem_append]
  first
   |exact .inr (by simpa using hy)
   |exact .inl (by simpa using hy)
 have eO:∀ σ2,dB P N Φ σ2 o some=iH P N Φ σ2 o some:=by
  intro σ2;unfold dB;rw[show fM o.op=false by rw[D];rfl,au]
 rw[eO]at h ⊢;cases I:Φ f with
 |none=>simp only[iH,D,I]at h;cases h
 | some c=>
  cases c with
  |n F=>rw[nE,D]at C;simp[I]at C
  |v c=>rw[nE,D]at C;simp[I]at C
  |i c=>rw[nE,D]at C;simp[I]at C
  |d c=>rw[nE,D]at C;simp[I]at C
  |q c=>rw[nE,D]at C;simp[I]at C
  |c c=>rw[nE,D]at C;simp[I]at C
  | p c=>
   simp only[iH,D,I]at h ⊢;obtain⟨d,Y,h⟩:=jT h;have hde:d≠e:=by rintro rfl;exact hd Y
   obtain⟨res,rT,h1,E,h3⟩:=M0 (Hu dS I) DO h;injection E with E;subst E;simp only[gP,Y];exact(h3 (cJ e x u σ) (cJ e x u rT) (λX k=>rV (cJ e x u σ) args.toList k) (λX k=>ab7 O _ k oQ) (acg Z U he hde h1)).at_ _
  | m c=>
   simp only[iH,D,I]at h ⊢;have zm:∀ n∈iW σ c.ps args.toList,wW σ p n=true:=by
    intro n T;refine hl n ?_;simp only[oT,D,I];exact T
   unfold nX at h;split at h
   ·rename_i L tq;obtain⟨g1,g2⟩:=Vf (x:=x) (u:=u) O c.ps args.toList L oQ zm tq;cases l9:(once (lG 0 L)&&Nat.ble L.length 40)with
    |false=>rw[l9]at h;cases h
    | true=>
     rw[l9,aq]at h;obtain⟨z,E,ach⟩:=(M7 _ _ _).lZ h;simp only[nX,g1,l9,aq];rw[NC O _ _ _ _ _ oQ];refine(ach S _).trans ?_;split at E
     ·rename_i y hy;unfold DH at E ⊢;generalize oO:nB (iG o.dst) (eU c.ro y.1).len L (jf (eG c.ps) y.2)=cn at E;generalize jg:DG N L (jf (eG c.ps) y.2) cn=ok at E;cases ok with
      |false=>cases E
      | true=>
       rw[aq]at E;have s9:∀ n,iG o.dst<=n->p n=false:=by
        intro n T;refine HA n ?_;cases Y:o.dst with
        |none=>rw[Y]at T;simp only[iG]at T;omega
        |some d=>rw[Y]at T;simp only[iG]at T;omega
       obtain⟨k1,k2⟩:=Vl (ns:=(lG 0 L).map (·.1)) (cn:=cn) O s9 L (jf (eG c.ps) y.2) (eU c.ro y.1).len g2;rw[oO]at k1;rw[aq,apP Z U ?_ ?_ k2]
       ·exact apW Z U he hd E
       ·cases hm:cW e ((lG 0 L).map (·.1))with
        |false=>rfl
        | true=>
         obtain⟨u,U,e1⟩:=List.mem_map.1 (ta.1 hm);have:=Vh L 0 g2 u U;rw[e1,O]at this;cases this
       ·cases hm:cW e cn with
        |false=>rfl
        |true=>have:=k1 e (ta.1 hm);rw[O]at this;cases this
     ·cases E
   ·cases h
def A.aci{y:A}(h:y.fM=true)(K:nh):y.cE K=y:=by
 refine A.oC ?_;cases y with
 |lf l=>cases l<;>first|rfl|cases h
 | agg cs=>
  refine cv.2 λl hl=>?_
  have:=cv.1 h l hl;cases l<;>first|rfl|cases this
 |_=>cases h
def A.ND{y:A}(h:y.fM=true)(n:Nat):y.drop n=y:=A.aci h _
def A.apY{y:A}(h:y.fM=true)(ns cn:aa Nat):y.di ns cn=y:=A.aci h _
def Vn:∀ (xs:aa V) (c:Nat) (σ:S) {t:Nat},(σ.t t).fM=true -> (mG c σ xs).t t=σ.t t
 |[],c,σ,t,h=>rfl
 | y :: xs,c,σ,t,h=>by
  simp[mG];cases y.aI with
  |true=>exact Vn xs _ σ h
  | false=>
   simp;have C:(((σ.drop c).root c (.sl y)).t t)=σ.t t:=by rw[Vb];exact A.ND h c
   rw[Vn xs _ _ (by rw[C];exact h),C]
def acj:∀ (ps:aa Pt) (c:Nat) (σ:S) {t:Nat},(σ.t t).fM=true -> (nU c σ ps).t t=σ.t t
 |[],c,σ,t,h=>rfl
 | q :: ps,c,σ,t,h=>by
  simp[nU];have C:=Vn q.2 c σ h;rw[acj ps _ _ (by rw[C];exact h),C]
def ack{D:gf}{C:S}(h:nt σ d D some=some C){t:Nat}(E:(σ.t t).fM=true)(I:t≠d):C.t t=σ.t t:=by
 obtain⟨ps,u,L⟩:=UX h;rw[L]at h;injection h with h;rw[<-h];exact(cH _ _ _ I).trans (acj _ _ _ E)
def apZ{C:ah Tmp}{I:gf}{D:S}(h:pL N σ C I some=some D){t:Nat}(L:(σ.t t).fM=true)(O:C≠some t):D.t t=σ.t t:=by
 cases C with
 | none=>
  have h:some σ=some D:=h;injection h with h;rw[<-h]
 | some d=>
  unfold pL at h;cases E:Nat.blt d N with
  |false=>simp only[E,au]at h;cases h
  | true=>
   simp only[E,aq]at h;exact ack h L (by rintro rfl;exact O rfl)
def ap0(dS:fL P Φ)(C:nE Φ o=true){T:S}(h:dB P N Φ σ o some=some T){t:Nat}(O:(σ.t t).fM=true)(U:o.dst≠some t):T.t t=σ.t t:=by
 have zF:∃ f args Y,o.op = .call { callee:=.value (.func f),args:=args,argTypes:=Y }:=by
  unfold nE at C;split at C
  ·exact⟨_,_,_,by assumption⟩
  ·cases C
 obtain⟨f,args,Y,E⟩:=zF;have eO:dB P N Φ σ o some=iH P N Φ σ o some:=by
  unfold dB;rw[show fM o.op=false by rw[E];rfl,au]
 rw[eO]at h;cases I:Φ f with
 |none=>simp only[iH,E,I]at h;cases h
 | some c=>
  cases c with
  |n F=>rw[nE,E]at C;simp[I]at C
  |v c=>rw[nE,E]at C;simp[I]at C
  |i c=>rw[nE,E]at C;simp[I]at C
  |d c=>rw[nE,E]at C;simp[I]at C
  |q c=>rw[nE,E]at C;simp[I]at C
  |c c=>rw[nE,E]at C;simp[I]at C
  | p c=>
   simp only[iH,E,I]at h;obtain⟨d,tD,h⟩:=jT h;obtain⟨res,rT,h1,D,h3⟩:=M0 (Hu dS I) DO h;injection D with D;subst D;exact ack h1 O (by rintro rfl;exact U tD)
  | m c=>
   simp only[iH,E,I]at h;unfold nX at h;split at h
   ·rename_i L tq;cases Z:(once (lG 0 L)&&Nat.ble L.length 40)with
    |false=>rw[Z]at h;cases h
    | true=>
     rw[Z,aq]at h;obtain⟨z,D,ach⟩:=(M7 _ _ _).lZ h;split at D
     ·rename_i y hy;unfold DH at D;generalize DG N L (jf (eG c.ps) y.2) (nB (iG o.dst) (eU c.ro y.1).len L (jf (eG c.ps) y.2))=ok at D;cases ok with
      |false=>cases D
      | true=>
       rw[aq]at D;have e1:∀ns cn nr,(σ.di ns cn nr).t t=σ.t t:=λns cn nr=>A.apY O ns cn
       have:=apZ (t:=t) D (by rw[e1];exact O) U;rw[this,e1]
     ·cases D
   ·cases h
def ap1{E:Nat}{I:aV}{L:A}(O:kA x)(T:mO e u)(U:kA I)(Y:mO E L)(h:e≠E):cJ E I L (cJ e x u σ)=cJ e x u (cJ E I L σ):=by
 refine S.ext' (λk=>?_) λn=>?_
 ·simp only[qV];by_cases C:k=E
  ·subst C;rw[bN rfl,bO (Ne.symm h),bN rfl,Y.drop (Ne.symm h)]
  ·rw[bO C];by_cases D:k=e
   ·subst D;rw[bN rfl,bN rfl,T.drop h]
   ·rw[bO D,bO D,bO C,A.Va]
 ·simp only[oW];by_cases C:n=E
  ·subst C;rw[bN rfl,bO (Ne.symm h),bN rfl,Option.map_some,U.drop]
  ·rw[bO C];by_cases D:n=e
   ·subst D;rw[bN rfl,bN rfl,Option.map_some,O.drop]
   ·rw[bO D,bO D,bO C];cases σ.m n with
    |none=>rfl
    |some y=>simp only[Option.map_some,aV.Va]
def ap2(L:kA x)(O:mO e u)(T:p e=true)(U:nZ o=true)(Y:o.dst≠some e)(C:∀ y∈o.op.operands,(aK σ y).nr p=true/\y ≠ .tmp e){D:S}
  (h:dB P N Φ σ o some=some D):dB P N Φ (cJ e x u σ) o some=some (cJ e x u D):=by
 obtain⟨Z,x',u',hd',GP,l5,uI,jh,oV⟩:=Ns (o:={ o with guard:=none }) (ops:=#[]) U rfl h;have cL:e≠Z:=by rintro rfl;exact Y hd'
 have E:=oV (cJ e x u σ) rfl λy I=>wZ (C y I).1 T (C y I).2
 rw[ap1 L O l5 uI cL,<- jh]at E;exact E
def ap3(D:nZ o=true){C:S}(h:dB P N Φ σ o some=some C){t:Nat}(E:(σ.t t).fM=true)(I:o.dst≠some t):C.t t=σ.t t:=by
 obtain⟨L,Y,Z,O,GP,l5,uI,T,oV⟩:=Ns (o:={ o with guard:=none }) (ops:=#[]) D rfl h;have U:t≠L:=by rintro rfl;exact I O
 rw[T,qV,bO U,A.ND E]
def ap4(Z:kA x)(hu:mO e u)(C:p e=true)(hm:isApp o=true)(hd:o.dst≠some e)(L:∀ y∈o.op.operands,(aK σ y).nr p=true/\y ≠ .tmp e){O:S}
  (h:dB P N Φ σ o some=some O):dB P N Φ (cJ e x u σ) o some=some (cJ e x u O):=by
 obtain⟨a,b,t,t',I,hn,nj,hk⟩:=U6 hm;have E:=L a (by rw[I];simp[Op.operands,Call.operands]);have hb:=L b (by rw[I];simp[Op.operands,Call.operands]);rw[Hx I hn nj hk]at h ⊢;obtain⟨d,T,h⟩:=jT h;obtain⟨r,v,jh,hr,oV⟩:=Nt h;have U:d≠e:=by rintro rfl;exact hd T
 have Y:r≠e:=by
  rcases hr with h1|h1
  ·rw[h1];exact U
  ·rintro rfl;have D:=E.1;rw[h1]at D;simp[A.nr,A.fr,tu,Lf.nr,Lf.fr,nY,jc,C]at D
 unfold gP;rw[T];simp only;rw[wZ E.1 C E.2,wZ hb.1 C hb.2,oV (cJ e x u σ) (λk=>apQ hb.1 C) (λr' v' fJ rS=>?_)]
 ·rw[ab3 v Z hu (Ne.symm Y),NA U ?_,jh];have:cR e [r]=false:=by simp[cR,Y]
  simp only[A.drop,Lf.drop,this,au,A.cE,wm,Lf.cE]
 ·have cL:r'≠e:=by
   rintro rfl;have D:=E.1;rw[fJ]at D;simp[A.nr,A.fr,tu,Lf.nr,Lf.fr,nY,jc,C]at D
  rw[oW,bO cL,rS];rfl
def ap5(D:isApp o=true){C:S}(h:dB P N Φ σ o some=some C){t:Nat}(E:(σ.t t).fM=true)(I:o.dst≠some t):C.t t=σ.t t:=by
 obtain⟨a,b,t1,t2,L,O,T,U⟩:=U6 D;rw[Hx L O T U]at h;obtain⟨d,Y,h⟩:=jT h;obtain⟨r,v,Z,hr,oV⟩:=Nt h;have cL:t≠d:=by rintro rfl;exact I Y
 rw[Z];show bW ((σ.drop r).root r _).t d _ t=_;rw[cH _ _ _ cL];exact A.ND E r
def acm(C:∃ ty t y,o.op = .store ty (.tmp t) y/\o.dst=none /\ ∃ r j,σ.t t = .aO r j){I:S}(h:dB P N Φ σ o some=some I):∃ t y r j cs xs,o.op.operands = #[.tmp t,y]/\σ.t t = .aO r j/\(aK σ y).yK=some xs/\σ.m r=some (.aC cs)/\I=σ.root r (.aC (splice cs j xs)) /\
  ∀(σ2:S) (D:aa Lf),σ2.t t = .aO r j -> aK σ2 y=aK σ y -> σ2.m r=some (.aC D) -> D.length=cs.length -> dB P N Φ σ2 o some=some (σ2.root r (.aC (splice D j xs))):=by
 obtain⟨ty,t,y,C,U,r,j,L⟩:=C;have O:∀ σ2:S,σ2.t t = .aO r j -> dB P N Φ σ2 o some=pH P σ2 ty (.aO r j) (aK σ2 y) some:=by
  intro σ2 E;unfold dB;rw[show fM o.op=false by rw[C];rfl,au];simp[iH,C,U];have Y:aK σ2 (.tmp t) = .aO r j:=E;rw[Y,show wU _ _=false from rfl,au]
 rw[O σ L]at h;unfold pH at h;split at h
 ·rename_i n xs Z T;split at h
  ·rename_i hlen;simp only at h;split at h
   ·rename_i cs jB;split at h
    ·rename_i hj;cases hl:xs.all Lf.live with
     |false=>simp_all
     | true=>
      rw[hl,aq]at h;injection h with h
      refine⟨t,y,r,j,cs,xs,by rw[C];rfl,L,T,jB,h.symm,λσ2 D h1 E h3 h4=>?_⟩
      rw[O σ2 h1,E];simp only[pH,Z,T,bN hlen,h3];rw[bN (by rw[h4];exact hj),hl];rfl
    ·cases h
   ·cases h
  ·cases h
 ·cases h
def acn(C:Hp o=true)(E:wV σ o=true):∃ ty t y,o.op = .store ty (.tmp t) y/\o.dst=none /\ ∃ r j,σ.t t = .aO r j:=by
 unfold Hp at C;rw[aQ]at C;obtain⟨D,I⟩:=C;split at D
 ·rename_i ty t y L;refine⟨ty,t,y,L,Option.isNone_iff_eq_none.1 I,?_⟩;unfold wV at E
  grind
 ·cases D
def ap6{y:A}{xs:aa Lf}(h:y.yK=some xs)(C:y.nr p=true):xs.all (Lf.nr p)=true:=by
 cases y with
 |lf l=>injection h with h;subst h;rw[List.all_cons,show l.nr p=true from C];rfl
 |agg cs=>injection h with h;subst h;exact C
 |_=>cases h
def ap7(hx:kA x)(hu:mO e u)(C:p e=true)(hm:Hp o=true)(hs:wV σ o=true)(L:∀ y∈o.op.operands,(aK σ y).nr p=true/\y ≠ .tmp e){O:S}
  (h:dB P N Φ σ o some=some O):dB P N Φ (cJ e x u σ) o some=some (cJ e x u O):=by
 obtain⟨t,y,r,j,cs,xs,T,U,g3,g4,g5,g6⟩:=acm (acn hm hs) h;have D:=L (.tmp t) (by rw[T];simp);have E:=L y (by rw[T];simp);have e1:(cJ e x u σ).t t = .aO r j:=(wZ D.1 C D.2).trans U;have Y:r≠e:=by
  have Z:(aK σ (.tmp t)).nr p=true:=D.1;have h3:aK σ (.tmp t) = .aO r j:=U;rw[h3]at Z;exact apt Z C
 have e3:(cJ e x u σ).m r=some (.aC (cs.map (Lf.drop e))):=by
  rw[oW,bO Y,g4];rfl
 have oI:=qz.zn (ap6 g3 E.1) C;rw[g6 (cJ e x u σ) _ e1 (wZ E.1 C E.2) e3 (by rw[eM]),g5];congr 1
 refine S.ext' (λk=>?_) λn=>?_
 ·show (cJ e x u σ).t k=(cJ e x u (σ.root r (.aC (splice cs j xs)))).t k;rw[qV,qV];rfl
 ·show bW (cJ e x u σ).m r (some (.aC (splice (cs.map (Lf.drop e)) j xs))) n=(cJ e x u (σ.root r (.aC (splice cs j xs)))).m n;rw[oW];by_cases I:n=r
  ·subst I;rw[bZ,bO Y];show _=(bW σ.m n (some (aV.aC (splice cs j xs))) n).map (aV.drop e);rw[bZ];simp only[Option.map_some,aV.Hs,splice,List.map_append,List.map_take,List.map_drop,oI]
  ·rw[cH _ _ _ I,oW];have:(σ.root r (.aC (splice cs j xs))).m n=σ.m n:=cH _ _ _ I;rw[this]
def ap8(D:Hp o=true)(E:wV σ o=true){C:S}(h:dB P N Φ σ o some=some C)(t:Nat):C.t t=σ.t t:=by
 obtain⟨_,_,r,j,cs,xs,_,_,_,_,I,_⟩:=acm (acn D E) h;rw[I];rfl
def ap9(U:fL P Φ)(C:kA x)(D:mO e u)(Y:e<20000)(E:p e=true)(Z:∀ n,20000<=n->p n=false)(L:Hq Φ o=true)(ko:wV σ o=true)(O:o.dst≠some e)(I:∀ y∈o.op.operands,(aK σ y).nr p=true/\y ≠ .tmp e)(hl:∀ n∈oT Φ σ o,wW σ p n=true){T:S}
  (h:dB P N Φ σ o some=some T):dB P N Φ (cJ e x u σ) o some=some (cJ e x u T):=by
 unfold Hq at L;rw[eA,eA,eA]at L;rcases L with ((hc|hc)|hc)|hc
 ·exact apX U C D Y E Z hc O I hl h
 ·exact ap2 C D E hc O I h
 ·exact ap4 C D E hc O I h
 ·exact ap7 C D E hc ko I h
def aqa(L:fL P Φ)(C:Hq Φ o=true)(O:wV σ o=true){I:S}(h:dB P N Φ σ o some=some I){t:Nat}(D:(σ.t t).fM=true)(E:o.dst≠some t):I.t t=σ.t t:=by
 unfold Hq at C;rw[eA,eA,eA]at C;rcases C with ((hc|hc)|hc)|hc
 ·exact ap0 L hc h D E
 ·exact ap3 hc h D E
 ·exact ap5 hc h D E
 ·exact ap8 hc O h t
def aco{i W j:Nat}{C:Oper}(D:ops[j]?=some C)(h:Hj ops i W j=true):∃ e∈C.after,Region.binds .any e=true/\(e.on=i\/W.testBit e.on=true):=by
 unfold Hj at h;rw[D]at h;obtain⟨e,E,hb⟩:=List.any_eq_true.1 h;rw[aQ,eA]at hb
 refine⟨e,by simpa using E,hb.1,hb.2.imp (λh=>cB h) id⟩
def Vo{g:Oper -> Bool}{C:Oper}{i L W:Nat}:∀ (n j:Nat),Hl g ops C i L W n j=true -> ∀ k,j <= k -> k<j+n -> k=i \/ L.testBit k=true \/ (W.testBit k=true/\Hj ops i W k=true) \/ (W.testBit k=false /\ ∀ ok,ops[k]?=some ok -> g ok=true/\C.apart ops ok=true)
 |0,j,_,k,D,E=>by omega
 | n+1,j,h,k,D,E=>by
  unfold Hl at h;rw[aQ,eA,eA]at h;by_cases I:k=j
  ·subst I;rcases h.1 with (h | h) | h
   ·exact .inl (cB h)
   ·exact .inr (.inl h)
   ·grind
  ·exact Vo n (j+1) h.2 k (by omega) (by omega)
def oX{g:Oper -> Bool}{i L W:Nat}:∀ (n j:Nat) (k:Nat),j <= k -> k<j+n -> k≠i -> L.testBit k=false -> W.testBit k=false -> ∀ ok,ops[k]?=some ok -> g ok=true -> iy g ops i L W n j=true
 |0,j,k,C,D,_,_,_,_,_,_=>by omega
 | n+1,j,k,C,D,hi,E,I,ok,O,T=>by
  unfold iy;rw[eA];by_cases U:k=j
  ·subst U;refine .inl ?_;have hb:Nat.beq k i=false:=by
    cases hb:Nat.beq k i with
    |false=>rfl
    |true=>simp_all
   simp_all
  ·exact .inr (oX n _ k (by omega) (by omega) hi E I ok O T)
def acp{g:Oper -> Bool}{i L W:Nat}:∀ (n j:Nat),iy g ops i L W n j=true -> ∃ k ok,ops[k]?=some ok/\k≠i/\L.testBit k=false/\W.testBit k=false/\g ok=true
 |0,j,h=>by cases h
 | n+1,j,h=>by
  unfold iy at h;rw[eA]at h;rcases h with h|h
  ·rw[aQ,iq,pq,pq]at h;obtain⟨⟨⟨D,E⟩,I⟩,C⟩:=h;split at C
   next ok O=>exact⟨j,ok,O,(by rintro rfl;rw[Nat.beq_refl]at D;cases D),E,I,C⟩
   ·cases C
  ·exact acp n _ h
theorem aqb[Inhabited Wd]{L i:Nat}{k:S -> ah X}(E:fM o.op=true \/ fX σ ops o=some false)(I:UG σ (zx Φ ops i L (waits ops i ops.size 0 0) σ) (Bv σ ops i L (waits ops i ops.size 0 0)) o=true)(h:Ho P N Φ ops L i σ o k=some r):
  ∃v,k (gz σ o.dst v)=some r/\mN P ops o (zx Φ ops i L (waits ops i ops.size 0 0) σ) (Bv σ ops i L (waits ops i ops.size 0 0)) v σ /\ ∀σ:S,ir N σ o.dst v some=some (gz σ o.dst v):=by
 unfold Ho at h;unfold UG at I;rw[aQ]at I;split at h
 ·rename_i C;obtain⟨v,D,Z,_⟩:=UL (w0:=default) (N:=N) h;cases O:v.n5 _ _ with
  |false=>rw[O]at D;cases D
  | true=>
   rw[O,aq]at D;obtain⟨T,U⟩:=r8 D;have E:=E.resolve_right (by rw[C];simp)
   refine⟨v,T,.inl ⟨C,E,Z,λy Y=>cv.1 I.1 y (by simpa using Y),O,λt y r j e Y=>?_⟩,λσ=>(U σ).at_ _⟩
   simp_all
 next C=>obtain⟨T,U⟩:=r8 h;exact⟨.skip,T,.inr ⟨C,rfl⟩,λσ=>(U σ).at_ _⟩
 ·cases h
def DZ{i L W n:Nat}(h:zu Φ ops i L W σ n=true):zx Φ ops i L W σ n=true:=by unfold zx;rw[h];rfl
def aqc{i L W:Nat}(h:Ga Φ ops i L W σ o=true):∃ ty t y,o.op = .store ty (.tmp t) y/\o.dst=none/\Nj Φ ops i L W σ t=true/\(∀ k,σ.t t ≠ .ptr k) /\ ∀ r j,σ.t t = .aO r j -> zq σ o=[r]:=by
 unfold Ga at h;split at h
 ·rename_i ty t y C;rw[aQ,aQ]at h
  refine⟨ty,t,y,C,by simpa using h.1.1,h.1.2,λk E=>?_,λr j D=>by simp[zq,C,D]⟩
  simp_all
 ·cases h
def aqd{i L W:Nat}(h:UE Φ ops i L W o=true):∃ x y t C,o.op = .call ⟨.builtin .append,⟨[.tmp x,y]⟩,⟨[t,C]⟩⟩/\mK Φ ops i L W x=true/\(pO t=false/\Nat.beq t C=true/\Bt o.dst t (.tmp x)=false):=by
 unfold UE at h
 grind
def aqe{i L W:Nat}(h:UD Φ ops i L W σ o=true):∃ f args C c,o.op = .call { callee:=.value (.func f),args:=args,argTypes:=C } /\ Φ f=some (.m c)/\Ng c=true/\r6 (λt r=>!iy (kz t) ops i L W ops.size 0 && !iy (λok=>eS ok r) ops i L W ops.size 0 && !iy isApp ops i L W ops.size 0) σ c.ps args.toList=true/\oT Φ σ o=iW σ c.ps args.toList:=by
 unfold UD at h;split at h
 ·rename_i f args C D;split at h
  next c E=>rw[aQ]at h;exact⟨f,args,C,c,D,E,h.1,h.2,by simp[oT,D,E]⟩
  ·cases h
 ·cases h
def HB{p:Nat -> Bool}:∀ (ps:aa PK) (xs:aa Operand),(∀ x∈xs,(aK σ x).nr p=true) -> ∀ n∈iW σ ps xs,p n=false
 |[],[],_,n,hn=>by cases hn
 |.v _ _::ps,x::xs,h,n,hn=>HB ps xs (λy C=>h y (.tail _ C)) n hn
 |.s _ _::ps,x::xs,h,n,hn=>HB ps xs (λy C=>h y (.tail _ C)) n hn
 | .p _ _ _ :: ps,x :: xs,h,n,hn=>by
  simp[iW]at hn;split at hn
  ·rename_i I j E;rcases gJ.1 hn with rfl | hn
   ·have D:=h x (.head _);rw[E]at D;have D:(!p n)=true:=D
    simpa using D
   ·exact HB ps xs (λy C=>h y (.tail _ C)) n hn
  ·exact HB ps xs (λy C=>h y (.tail _ C)) n hn
def NF{D:ah Tmp}{g:Bool}{k:S -> ah X}(h:r5 σ D g k=some r):k σ=some r:=by
 unfold r5 at h;cases g with
 |false=>exact h
 | true=>
  rw[aq]at h;split at h
  ·rename_i d;split at h
   ·rename_i b hb;have:∀ c,b=c -> σ.set d (.lf (.v (.bool c)))=σ:=by
     rintro c rfl
     refine S.ext' (λk=>?_) λ_=>rfl
     show bW _ _ _ _=_;by_cases C:k=d
     ·subst C;rw[bZ,hb]
     ·rw[cH _ _ _ C]
    grind
   ·exact h
  ·exact h
def acq{L j:Nat}(h:mb ops L j=true):j<ops.size:=by
 obtain⟨_,o,C,_⟩:=Hy.1 h
 grind
def BB{L j:Nat}:j∈(List.range ops.size).filter (mb ops L) ↔ mb ops L j=true:=by
 rw[List.mem_filter,fz];exact⟨λh=>h.2,λh=>⟨acq h,h⟩⟩
structure acr (ops:Array Oper) (p:Nat->Bool) (σ:S) (o:Oper):Prop where
 is:nZ o=true
 want:fX σ ops o=some true
 aFU:∀y∈o.op.operands,(aK σ y).fM=true/\∀t,y = .tmp t->p t=false
 guard:∀g c t,o.guard=some (g,c)->(ops[g]?).bind (·.dst)=some t->p t=false
def aqf{x:A}{n:Nat}{z:V}(h:qP x n=some z)(X:Type)(k:A -> ah X):A4 x n k=k (.lf (.v z)):=by
 unfold qP at h;split at h
 ·split at h
  next xs _ _ C=>injection h with h;subst h;simp[A4,C,Option.bind_some,yM]
  ·cases h
 ·cases h
def acs{x:A}{n:Nat}{z:V}{g:Lf -> Lf}{G:A -> A}(C:∀ xs,G (.eX xs) = .eX (xs.map λp=>(p.1,p.2.map g)))(D:∀ z,g (.v z) = .v z)(h:qP x n=some z):qP (G x) n=some z:=by
 unfold qP at h;split at h
 ·split at h
  next xs _ _ E=>injection h with h;subst h;rw[C];simp[qP,eJ,E,Option.map_some,List.map_cons,List.map_nil,D]
  ·cases h
 ·cases h
def Vp{v:A}(C:∀ q,v.drop q=v){rr d:Nat}{key:Nat -> aa Nat}:∀ (f j:Nat) (xs:aa Lf) (σ:S),iu rr key f j xs (σ.set d v)=(iu rr key f j xs σ).map λp=>(p.1,p.2.set d v)
 |_,_,[],σ=>by simp[iu]
 |0,j,x::xs,σ=>by cases x<;>simp[iu]
 | f+1,j,.v x :: xs,σ=>by
  simp only[iu,Vp C f];cases iu rr key f (j+1) xs σ<;>rfl
 | f+1,j,.own [q] :: xs,σ=>by
  simp only[iu];show (match σ.m q with
   |some (.sl z)=>_
   |_=>none)=_
  cases D:σ.m q with
  |none=>rfl
  | some y=>
   cases y with
   | sl z=>
    cases Nat.beq q rr with
    |true=>rfl
    | false=>
     simp only[au];rw[S.drop_set q (C q),Vp C f];cases iu rr key f (j+1) (xs.map (Lf.drop q)) (σ.drop q)<;>rfl
   |_=>rfl
 |f+1,j,.own []::xs,σ=>rfl
 |f+1,j,.own (_::_::_)::xs,σ=>rfl
 |f+1,j,.dead::xs,σ=>rfl
def Vq{rr:Nat}{key:Nat -> aa Nat}{x n:Nat}{z:V}:∀ (f j:Nat) (xs:aa Lf) (σ C:S) (D:aa V),iu rr key f j xs σ=some (D,C) -> qP (σ.t x) n=some z -> qP (C.t x) n=some z
 | _,_,[],σ,C,D,h,E=>by
  simp only[iu]at h;simp_all
 |0,j,y::xs,σ,C,D,h,E=>by cases y<;>simp[iu]at h
 | f+1,j,.v y :: xs,σ,C,D,h,E=>by
  simp only[iu]at h;cases I:iu rr key f (j+1) xs σ with
  |none=>simp_all
  | some p=>
   rw[I]at h;injection h with h;injection h with _ h;subst h;exact Vq f (j+1) xs σ p.2 p.1 I E
 | f+1,j,.own [q] :: xs,σ,C,D,h,E=>by
  simp only[iu]at h;split at h
  ·cases hb:Nat.beq q rr with
   |true=>simp_all
   | false=>
    rw[hb,au]at h;cases I:iu rr key f (j+1) (xs.map (Lf.drop q)) (σ.drop q)with
    |none=>simp_all
    | some p=>
     rw[I]at h;injection h with h;injection h with _ h;subst h;refine Vq f (j+1) _ (σ.drop q) p.2 p.1 I ?_;exact acs (G:=A.drop q) (g:=Lf.drop q) (λ_=>rfl) (λ_=>rfl) E
  ·cases h
def aqg{d:Nat}{v:V}{t:TypeId}{x y:A}{I:S}(h:tv P (σ.set d (.lf (.v v))) t x y some=some I):∃ D,tv P σ t x y some=some D/\I=D.set d (.lf (.v v)) /\ ∀ (e n:Nat) (z:V),qP (σ.t e) n=some z -> qP (D.t e) n=some z:=by
 unfold tv at h;split at h
 ·rename_i n xs j i s rr Z oI;split at h
  ·rename_i hlen;cases L:xs.all Lf.live with
   |false=>simp_all
   | true=>
    rw[L,aq]at h;split at h
    ·rename_i vs τ1 C;rw[Vp (v:=.lf (.v v)) (λ_=>rfl)]at C;cases E:iu rr (λm=>(j+m) :: i :: s :: [rr]) xs.length 0 xs σ with
     |none=>simp_all
     | some p=>
      rw[E]at C;obtain⟨vs0,O⟩:=p;injection C with C;injection C with e1 e2;subst e1 e2;split at h
      ·rename_i T U Y l jh;have aqh:O.m rr=some (.sl (.sl T (U+2) Y l)):=jh;split at h
       ·rename_i oG;split at h
        ·rename_i hi;split at h
         ·rename_i hj;split at h
          ·rename_i e he;injection h with h
           refine⟨O.di [rr] [] [(rr,.sl (.sl T (U+2) Y (l.set i e)))],?_,?_,λex nx z hz=>?_⟩
           ·simp[tv,Z,oI,bN hlen,L,aq,E,aqh,bN oG,aA hi,bN hj,he]
           ·rw[<- h];exact S.U4 _ rfl
           ·exact acs (G:=A.di [rr] []) (λ_=>rfl) (λ_=>rfl) (Vq _ _ _ _ _ _ E hz)
          ·cases h
         ·cases h
        ·cases h
       ·cases h
      ·cases h
    ·cases h
  ·cases h
 ·cases h
def acu{t:TypeId}{a b:Operand}(C:o.op = .store t a b)(D:o.dst=none)(E:wU (aK σ a) (aK σ b)=true):dB P N Φ σ o some=tv P σ t (aK σ a) (aK σ b) some:=by
 unfold dB;rw[show fM o.op=false by rw[C];rfl,au];simp[iH,C,D,E,aq]
theorem aqi[Inhabited Wd](dS:fL P Φ){K:S -> Prop}{f L i:Nat}{U:Oper}{τ:S}(hi:ops[i]?=some U)(hr:mb ops L i=true)(D:UI ops L σ i=true)(jh:dw P N Φ ops σ U some=some τ)(H:Any P N Φ ops K f (L ||| 2 ^ i) τ):Any P N Φ ops K (f+1) L σ:=by
 unfold UI at D;rw[hi]at D;split at D
 ·rename_i oi' j0 e1 aqj;injection e1 with e1;subst e1;split at D
  ·rename_i x n d oj zF zG BE hj0;split at D
   ·rename_i ty a b Y acv acw;rw[aQ,aQ]at D;obtain⟨⟨c1,c2⟩,c3⟩:=D;obtain⟨z,hz⟩:=Option.isSome_iff_exists.1 c1;obtain⟨a1,a2,a3⟩:=Oper.apart_spec c3;have hpd:∀ j,j<ops.size -> j≠i -> L.testBit j=false -> j=j0:=by
     intro j E I O;have:j∈(List.range ops.size).filter (λj=>!(Nat.beq j i || L.testBit j)):=by
      rw[List.mem_filter];refine⟨fz.2 E,?_⟩;rw[O,Bool.or_false];cases hb:Nat.beq j i with
      |false=>rfl
      |true=>exact absurd (cB hb) I
     rw[aqj]at this;exact oy.1 this
    have qU:∀ σ2:S,qP (σ2.t x) n=some z -> dw P N Φ ops σ2 U some=ir N σ2 (some d) (.lf (.v z)) some:=by
     intro σ2 h2;unfold dw;simp only[fX,BE];unfold dB;rw[show fM U.op=true by rw[zF];rfl,aq,zF];simp only[mJ];rw[show aK σ2 (.tmp x)=σ2.t x from rfl,aqf h2,zG]
    have hN:∀ σ2:S,ir N σ2 (some d) (.lf (.v z)) some=some (σ2.set d (.lf (.v z))):=by
     intro σ2;rw[qU σ hz]at jh;obtain⟨_,g2⟩:=r8 jh;exact(g2 σ2).at_ _
    have hE:τ=σ.set d (.lf (.v z)):=by
     grind
    rw[hE]at H
    refine U9 (W:=0) hi (λj oj _ E=>by rw[Nat.zero_testBit]at E;cases E) (λσ=>σ.set d (.lf (.v z)))
     (λL' C=>qP (C.t x) n=some z /\ ∀j,j<ops.size -> j≠i -> L'.testBit j=false -> j=j0/\wU (aK C a) (aK C b)=true)
     (λL' C Z=>(qU C Z.1).trans (hN C)) (λL' C j oj' rT Z T I O _ zE=>?_) f L σ (λj E=>by rw[Nat.zero_testBit]at E;cases E) hr
     ⟨hz,λj E I O=>⟨hpd j E I O,c2⟩⟩ H
    obtain⟨rfl,hg⟩:=Z.2 j (iO.1 T).1 I O;rw[hj0]at T;injection T with T;subst T;have ha:aK (C.set d (.lf (.v z))) a=aK C a:=DU (a1 d zG) _ (by rw[Y];simp[Op.operands]);have hb:aK (C.set d (.lf (.v z))) b=aK C b:=DU (a1 d zG) _ (by rw[Y];simp[Op.operands]);have ko:dw P N Φ ops (C.set d (.lf (.v z))) oj some=tv P (C.set d (.lf (.v z))) ty (aK C a) (aK C b) some:=by
     unfold dw;simp only[fX,acw];rw[acu Y acv (by rw[ha,hb];exact hg),ha,hb]
    rw[ko]at zE;obtain⟨σ2,h1,h2,h3⟩:=aqg zE
    refine⟨σ2,?_,h2,h3 _ _ _ Z.1,λk hk hki hkL=>?_⟩
    ·unfold dw;simp only[fX,acw];rw[acu Y acv hg];exact h1
    ·grind
   ·cases D
  ·cases D
 ·cases D
theorem HC[Inhabited Wd](dS:fL P Φ):∀ (f L:Nat) (σ:S) (k:S->ah X),qQ P N Φ ops f L σ k=some r->Any P N Φ ops (λτ=>k τ=some r) f L σ
 | 0,L,σ,k,h=>by
  unfold qQ at h;split at h
  ·rename_i hr
   refine⟨λj=>?_,h⟩
   cases Y:mb ops L j with
   |false=>rfl
   |true=>have:=BB.2 Y;rw[hr]at this;cases this
  ·cases h
 | f+1,L,σ,k,h=>by
  unfold qQ at h;split at h
  ·rename_i hr
   refine⟨λ_=>h,λj Y=>?_⟩
   have:=BB.2 Y;rw[hr]at this;cases this
  ·rename_i i hr;have hi:mb ops L i=true:=BB.1 (by rw[hr];exact .head _)
   refine⟨λh=>absurd (h i) (by rw[hi];simp),λj Y=>?_⟩
   have Y:=BB.2 Y;rw[hr]at Y;obtain rfl:=oy.1 Y;split at h
   next o ho=>obtain⟨τ,h1,h2⟩:=UY dS h;exact⟨o,τ,ho,h2,HC dS f _ τ k (NF h1)⟩
   ·cases h
  ·rename_i rs hn hs;split at h
   ·rename_i i hf;have hc:=List.find?_some hf;have hm:=List.mem_of_find?_eq_some hf;have hi:=BB.1 hm;split at h
    ·rename_i o ho;unfold abC at hc;rw[ho,aQ,aQ,aQ]at hc;obtain⟨⟨⟨c1,c2⟩,c3⟩,c4⟩:=hc;have c1:fM o.op=true\/fX σ ops o=some false:=by
      rw[eA]at c1
      refine c1.imp id λc1=>?_
      split at c1
      next b hb=>rw[hb];cases b<;>first|rfl|cases c1
      ·cases c1
     obtain⟨v,h1,hF,hN⟩:=aqb c1 c4 h;have pS:=Vo _ _ c3;have c2:=cB c2;have HD:∀ j,(waits ops i ops.size 0 0).testBit j=true->(L ||| 2 ^ i).testBit j=false:=by
      intro j Y;have:((L |||2 ^ i) &&& waits ops i ops.size 0 0).testBit j=false:=by rw[c2];exact Nat.zero_testBit j
      rw[Nat.testBit_and,Y,Bool.and_true]at this;exact this
     have uY:∀ j,(waits ops i ops.size 0 0).testBit j=true->L.testBit j=false:=by
      intro j Y;have:=HD j Y;rw[zC,pq]at this;exact this.1
     refine apN (W:=waits ops i ops.size 0 0) (ok:=λt r=>!iy (kz t) ops i L (waits ops i ops.size 0 0) ops.size 0 && !iy (λok=>eS ok r) ops i L (waits ops i ops.size 0 0) ops.size 0 && !iy isApp ops i L (waits ops i ops.size 0 0) ops.size 0) (qT:=Nj Φ ops i L (waits ops i ops.size 0 0) σ) (mL:=mL Φ ops i L (waits ops i ops.size 0 0) σ) (mK:=mK Φ ops i L (waits ops i ops.size 0 0)) dS ho hN (λj C D Y=>?_) f L σ (λt r jg j C D O T U=>?_) (λx hx j C D O T U=>?_) (λx hx=>?_) (λt jg j C D O T U=>?_) (λt jg j C D O T U=>?_) (λj C D O T U=>?_) uY hi hF (HC dS f _ _ k (NF h1))
     ·have dW:=(iO.1 D).1;rcases pS j (by omega) (by omega)with e | e | e | e
      ·subst e;have:=HD j Y;rw[zC]at this;simp at this
      ·rw[uY j Y]at e;cases e
      ·exact aco D e.2
      ·rw[Y]at e;cases e.1
     ·have dW:=(iO.1 D).1;rw[aQ,aQ,iq,iq,iq]at jg
      refine⟨λZ=>?_,?_,?_⟩
      ·have:=oX (g:=kz t) ops.size 0 j (by omega) (by omega) O T U C D (by unfold kz;rw[Z];exact Nat.beq_refl t);rw[jg.1.1]at this;cases this
      ·cases hn:eS C r with
       |false=>rfl
       | true=>
        have:=oX (g:=λok=>eS ok r) ops.size 0 j (by omega) (by omega) O T U C D hn;rw[jg.1.2]at this;cases this
      ·cases hn:isApp C with
       |false=>rfl
       | true=>
        have:=oX (g:=isApp) ops.size 0 j (by omega) (by omega) O T U C D hn;rw[jg.2]at this;cases this
     ·have dW:=(iO.1 D).1;unfold mL at hx;rw[aQ]at hx;intro Z;have:=oX (g:=kz x) ops.size 0 j (by omega) (by omega) O T U C D (by unfold kz;rw[Z];exact Nat.beq_refl x);rw[this]at hx;cases hx.1
     ·unfold mL at hx;rw[aQ]at hx;have hx:=hx.2;cases hz:σ.t x with
      |aO r j=>rw[hz]at hx;exact hx
      |jo cs=>trivial
      |_=>rw[hz]at hx;cases hx
     ·have dW:=(iO.1 D).1;by_cases Z:C.dst=some t
      ·refine .inr ?_;have Vr:kz t C=true:=by unfold kz;rw[Z];exact Nat.beq_refl t
       cases DX:uX C with
       | false=>
        cases HE:Ni Φ ops i L (waits ops i ops.size 0 0) σ C with
        | false=>
         have:=oX (g:=λok=>kz t ok && !(uX ok ||Ni Φ ops i L (waits ops i ops.size 0 0) σ ok)) ops.size 0 j (by omega) (by omega) O T U C D (by rw[Vr,DX,HE];rfl);unfold Nj at jg;rw[this]at jg;cases jg
        | true=>
         unfold Ni at HE;split at HE
         next s x f zH=>exact .inr ⟨s,x,f,zH,HE⟩
         ·cases HE
       | true=>
        refine .inl ⟨rfl,?_⟩;refine DZ ?_;unfold zu;rw[eA]
        refine .inl (oX (g:=λo=>eS o t) _ 0 j (by omega) (by omega) O T U C D ?_)
        obtain⟨ty,e,h1,_,h3,_⟩:=ab0 DX;unfold eS;rw[Z,h1];exact Nat.beq_refl t
      ·exact .inl Z
     ·have dW:=(iO.1 D).1;by_cases Z:C.dst=some t
      ·refine .inr ?_;have Vr:kz t C=true:=by unfold kz;rw[Z];exact Nat.beq_refl t
       cases uN:nZ C with
       | false=>
        cases hma:isApp C with
        |true=>exact .inr (.inl rfl)
        | false=>
         cases By:zy Φ C with
         |true=>exact .inr (.inr rfl)
         | false=>
          have:=oX (g:=λok=>kz t ok && !(nZ ok ||isApp ok ||zy Φ ok)) ops.size 0 j (by omega) (by omega) O T U C D (by rw[Vr,uN,hma,By];rfl);unfold mK at jg;rw[this]at jg;cases jg
       | true=>
        refine .inl ?_;have l8:eS C t=true:=by
         unfold nZ at uN;rw[aQ]at uN;have h1:=uN.1;unfold eS;rw[Z];split at h1
         next Be=>simp only[Be];exact Nat.beq_refl t
         next Be=>simp only[Be];exact Nat.beq_refl t
         next Be=>simp only[Be];exact Nat.beq_refl t
         ·cases h1
        have h9:=oX (g:=λo=>eS o t) ops.size 0 j (by omega) (by omega) O T U C D l8;refine⟨rfl,?_,?_⟩
        ·refine DZ ?_;unfold zu;rw[eA];exact .inl h9
        ·unfold Bv;rw[eA];exact .inl h9
      ·exact .inl Z
     ·have dW:=(iO.1 D).1;rcases pS j (by omega) (by omega)with e | e | e | e
      ·exact absurd e O
      ·rw[T]at e;cases e
      ·rw[U]at e;cases e.1
      ·obtain⟨e1,e2⟩:=e.2 C D
       refine⟨e2,?_,λn hn=>?_⟩
       ·rw[eA,eA,eA]at e1;rcases e1 with ((e1 | e1) | e1) | e1
        ·exact .inl e1
        ·obtain⟨f',args,jR,c,g1,g2,g3,g4,g5⟩:=aqe e1
         refine .inr (.inl ⟨f',args,jR,c,g1,g2,g3,g4,λn hn=>?_⟩)
         refine DZ ?_;unfold zu;rw[eA]
         refine .inr (oX (g:=λo=>cW n (oT Φ σ o) ||cW n (zq σ o)) _ 0 j (by omega) (by omega) O T U C D ?_)
         rw[g5,ta.2 hn];rfl
        ·obtain⟨ty,t,y,g1,g2,g3,g4,g5⟩:=aqc e1;refine .inr (.inr (.inl ⟨ty,t,y,g1,g2,g3,?_⟩));cases hx:σ.t t with
         | aO r' j'=>
          show zx Φ ops i L (waits ops i ops.size 0 0) σ r'=true;refine DZ ?_;unfold zu;rw[eA]
          refine .inr (oX (g:=λo=>cW r' (oT Φ σ o) ||cW r' (zq σ o)) _ 0 j (by omega) (by omega) O T U C D ?_)
          rw[g5 r' j' hx,eA];exact .inr (ta.2 (.head _))
         |ptr k=>exact absurd hx (g4 k)
         |_=>trivial
        ·obtain⟨x,y,t1,t2,g1,g2,g3⟩:=aqd e1
         refine .inr (.inr (.inr ⟨x,y,t1,t2,g1,g2,g3,λr' fJ=>⟨?_,?_⟩⟩))
         ·refine DZ ?_;unfold zu;rw[eA]
          refine .inr (oX (g:=λo=>cW r' (oT Φ σ o) ||cW r' (zq σ o)) _ 0 j (by omega) (by omega) O T U C D ?_)
          have:zq σ C=[r']:=by simp only[zq,g1,fJ]
          rw[this,eA];exact .inr (ta.2 (.head _))
         ·unfold Bv;rw[eA]
          refine .inr (oX (g:=λo=>cW r' (Nh σ o)) _ 0 j (by omega) (by omega) O T U C D ?_)
          have:Nh σ C=[r']:=by simp only[Nh,g1,fJ]
          rw[this];exact ta.2 (.head _)
       ·have h9:=oX (g:=λo=>eS o n) ops.size 0 j (by omega) (by omega) O T U C D hn;refine⟨?_,?_⟩
        ·refine DZ ?_;unfold zu;rw[eA];exact .inl h9
        ·unfold Bv;rw[eA];exact .inl h9
    ·cases h
   ·split at h
    ·rename_i i hf;have hc:=List.find?_some hf;have hm:=List.mem_of_find?_eq_some hf;have hi:=BB.1 hm;split at h
     ·rename_i o ho;unfold abD at hc;rw[ho,aQ,aQ,aQ,aQ,aQ]at hc;obtain⟨⟨⟨⟨⟨c1,c2⟩,c3⟩,c4⟩,c5⟩,c6⟩:=hc;have pS:=Vo _ _ c3;have c2:=cB c2;have HD:∀ j,(waits ops i ops.size 0 0).testBit j=true->(L ||| 2 ^ i).testBit j=false:=by
       intro j Y;have:((L |||2 ^ i) &&& waits ops i ops.size 0 0).testBit j=false:=by rw[c2];exact Nat.zero_testBit j
       rw[Nat.testBit_and,Y,Bool.and_true]at this;exact this
      have uY:∀ j,(waits ops i ops.size 0 0).testBit j=true->L.testBit j=false:=by
       intro j Y;have:=HD j Y;rw[zC,pq]at this;exact this.1
      obtain⟨τ,h1,h2⟩:=UY dS h;generalize hp:(λn=>iy (λo=>DT o n) ops i L (waits ops i ops.size 0 0) ops.size 0)=p at c4 c5;have hpe:∀ j C e,ops[j]?=some C->j≠i->L.testBit j=false->(waits ops i ops.size 0 0).testBit j=false->C.dst=some e->p e=true:=by
       intro j C e D O T U Z;have dW:=(iO.1 D).1;rw[<-hp];exact oX (g:=λo=>DT o e) _ 0 j (by omega) (by omega) O T U C D (by unfold DT kz;rw[Z];exact Nat.beq_refl e)
      have BA:∀ j C,ops[j]?=some C->j≠i->L.testBit j=false->(waits ops i ops.size 0 0).testBit j=false->UH ops i L (waits ops i ops.size 0 0) σ C=true/\o.apart ops C=true:=by
       intro j C D O T U;have dW:=(iO.1 D).1;rcases pS j (by omega) (by omega)with e|e|e|e
       ·exact absurd e O
       ·rw[T]at e;cases e
       ·rw[U]at e;cases e.1
       ·exact e.2 C D
      have uN:∀ j C,ops[j]?=some C->j≠i->L.testBit j=false->(waits ops i ops.size 0 0).testBit j=false->acr ops p σ C:=by
       intro j C D O T U;have hb:=(BA j C D O T U).1;unfold UH at hb;rw[aQ,aQ,aQ]at hb;obtain⟨⟨⟨b1,b2⟩,b3⟩,b4⟩:=hb;have Nr:∀t,iy (kz t) ops i L (waits ops i ops.size 0 0) ops.size 0=false->p t=false:=λt ht=>by rw[<-hp];exact ht
       refine⟨b1,?_,λy I=>?_,λg c t hg ht=>?_⟩
       ·split at b2
        next b A7=>rw[A7,b2]
        ·cases b2
       ·have:=cv.1 b3 y (by simpa using I);rw[aQ]at this
        refine⟨this.1,λt ht=>?_⟩
        have h2:=this.2;rw[ht]at h2;exact Nr t (by simpa using h2)
       ·rw[hg]at b4;simp only[ht]at b4;exact Nr t (by simpa using b4)
      have HA:∀ n,20000<=n->p n=false:=by
       intro n hn;cases tC:p n with
       |false=>rfl
       | true=>
        rw[<-hp]at tC;obtain⟨k',Vs,HF,uZ,va,vb,BF⟩:=acp _ _ tC;have hm:=(uN k' Vs HF uZ va vb).is;unfold nZ at hm;rw[aQ]at hm;have hm:=hm.2;unfold DT kz at BF;split at BF
        next e he=>rw[he]at hm;have h1:e=n:=cB BF;subst h1;exact absurd (cK hm) (Nat.not_le_of_gt (Nat.lt_succ_of_le hn))
        ·cases BF
      have hE:τ=(dw P N Φ ops σ o some).getD σ:=by rw[h2];rfl
      refine U9 (W:=waits ops i ops.size 0 0) ho (λj C D Y=>?_) (λσ=>(dw P N Φ ops σ o some).getD σ)
       (λL' E=>((dw P N Φ ops E o some).isSome=true/\UF E p o=true/\(oT Φ E o).all (wW E p)=true/\wV E o=true)/\(∀ j,L'.testBit j=false->L.testBit j=false)/\
        ∀j C,ops[j]?=some C->j≠i->L'.testBit j=false->(waits ops i ops.size 0 0).testBit j=false->acr ops p E C)
       (λL' E hI=>?_) (λL' E j C rT hI D O T U jh=>?_) f L σ uY hi ⟨⟨by rw[h2];rfl,c4,c5,c6⟩,λ_ h=>h,uN⟩ (by rw[<-hE];exact HC dS f _ τ k (NF h1))
      ·have dW:=(iO.1 D).1;rcases pS j (by omega) (by omega)with e | e | e | e
       ·subst e;have:=HD j Y;rw[zC]at this;simp at this
       ·rw[uY j Y]at e;cases e
       ·exact aco D e.2
       ·rw[Y]at e;cases e.1
      ·obtain⟨z,hz⟩:=Option.isSome_iff_exists.1 hI.1.1;rw[hz];rfl
      ·obtain⟨⟨i1,i2,i3,i6⟩,i4,i5⟩:=hI;have ap:=(BA j C D O (i4 j T) U).2;obtain⟨m1,m2,m3,m4⟩:=i5 j C D O T U;obtain⟨a1,a2,a3⟩:=Oper.apart_spec ap;obtain⟨z,hz⟩:=Option.isSome_iff_exists.1 i1;have hEz:(dw P N Φ ops E o some).getD E=z:=by rw[hz];rfl
       have jh:dw P N Φ ops z C some=some rT:=by rw[<-hEz];exact jh
       have acy:∀ t,(E.t t).fM=true->o.dst≠some t->z.t t=E.t t:=by
        intro t ht Z;unfold dw at hz;split at hz
        ·exact aqa dS c1 i6 hz ht Z
        ·obtain⟨g1,_⟩:=r8 hz;injection g1 with g1;rw[<-g1];cases zG:o.dst with
         |none=>rfl
         |some d=>exact cH _ _ _ (by rintro rfl;exact Z zG)
        ·cases hz
       have aqk:∀ g c t,C.guard=some (g,c)->(ops[g]?).bind (·.dst)=some t->(E.t t).fM=true\/E.t t = .skip:=by
        intro g c t hg ht;unfold fX at m2;rw[hg]at m2;simp only[ht]at m2;split at m2
        next b hb=>left;rw[hb];rfl
        next hb=>exact .inr hb
        ·cases m2
       have BE:∀ g c t,C.guard=some (g,c)->(ops[g]?).bind (·.dst)=some t->o.dst≠some t:=by
        intro g c t hg ht Z;refine a1 t Z (List.mem_append_right _ ?_);rw[hg];simp only[ht];simp
       have hwz:fX z ops C=some true:=by
        rw[zz (σ:=E) λg c t hg ht=>?_]
        ·exact m2
        ·rcases aqk g c t hg ht with h | h
         ·exact acy t h (BE g c t hg ht)
         ·exfalso;unfold fX at m2;rw[hg]at m2;simp only[ht,h]at m2;cases m2
       have aql:∀ y∈C.op.operands,aK z y=aK E y:=by
        intro y I;cases y with
        | tmp t=>
         refine acy t (m3 _ I).1 λZ=>?_
         exact a1 t Z (List.mem_append_left _ (List.mem_filterMap.2 ⟨.tmp t,by simpa using I,rfl⟩))
        |_=>rfl
       obtain⟨e,x,u,Z,he,hx,hu,zE,oV⟩:=Ns m1 hwz jh;have BG:=hpe j C e D O (i4 j T) U Z;have qF:=a3 e Z;have r9:∀ y∈o.op.operands,(aK E y).nr p=true/\y ≠ .tmp e:=by
        intro y I;refine⟨cv.1 i2 y (by simpa using I),?_⟩;rintro rfl;exact qF (List.mem_append_left _ (List.mem_filterMap.2 ⟨.tmp e,by simpa using I,rfl⟩))
       have zG:o.dst≠some e:=λh=>a2 e h Z
       have aqm:fX (cJ e x u E) ops o=fX E ops o:=by
        have hw:∃ b,fX E ops o=some b:=by
         unfold dw at hz;cases hw:fX E ops o with
         |none=>rw[hw]at hz;cases hz
         |some b=>exact⟨b,rfl⟩
        obtain⟨b,hw⟩:=hw
        refine zz λg c t' Df ht'=>?_
        rw[qV,bO ?_]
        ·exact A.Bl (p:=p) (pb:=p) (UZ hw g c t' Df ht') BG BG
        ·rintro rfl;refine qF (List.mem_append_right _ ?_);rw[Df];simp only[ht'];simp
       have qU:dw P N Φ ops (cJ e x u E) o some=some (cJ e x u z):=by
        unfold dw at hz ⊢;rw[aqm];split at hz
        next hw=>exact ap9 dS hx hu he BG HA c1 i6 zG r9 (λn hn=>cv.1 i3 n hn) hz
        next hw=>obtain⟨g1,g2⟩:=r8 hz;injection g1 with g1;refine((g2 (cJ e x u E)).at_ _).trans ?_;rw[<-g1,apO zG rfl]
        ·cases hz
       have Vt:∀y∈o.op.operands,aK (cJ e x u E) y=aK E y:=λy I=>wZ (r9 y I).1 BG (r9 y I).2
       have hL:∀ k,(L' ||| 2 ^ j).testBit k=false->L'.testBit k=false/\k≠j:=by
        intro k hk;rw[zC,pq]at hk;refine⟨hk.1,?_⟩;rintro rfl;simp at hk
       refine⟨cJ e x u E,oV E m2 (λy I=>(aql y I).symm),?_,⟨by rw[qU];rfl,?_,?_,?_⟩,λk hk=>i4 k (hL k hk).1,λk Vs hk hki hkL hkW=>?_⟩
       ·rw[zE,qU];rfl
       ·unfold UF;rw[cv];intro y I;rw[Vt y (by simpa using I)];exact(r9 y (by simpa using I)).1
       ·have hrj:oT Φ (cJ e x u E) o=oT Φ E o:=by
         unfold oT;split
         ·rename_i f' args jR zH;split
          ·refine Hw _ _ λy I=>Vt y ?_
           rw[zH];simp only[Op.operands,Call.operands];simp only[Array.mem_append]
           first
            |exact .inr (by simpa using I)
            |exact .inl (by simpa using I)
          ·rfl
         ·rfl
        rw[hrj,cv];intro n hn;have h3:=cv.1 i3 n hn;have cL:n≠e:=by
         rintro rfl;have tC:p n=false:=by
          unfold oT at hn;split at hn
          ·rename_i f' args jR zH;split at hn
           ·refine HB _ _ (λy I=>(r9 y ?_).1) n hn
            rw[zH];simp only[Op.operands,Call.operands];simp only[Array.mem_append]
            first
             |exact .inr (by simpa using I)
             |exact .inl (by simpa using I)
           ·cases hn
          ·cases hn
         rw[BG]at tC;cases tC
        unfold wW at h3 ⊢;rw[oW,bO cL];cases hm:E.m n with
        |none=>rfl
        | some y=>
         cases y with
         |sl=>rfl
         |mp=>rfl
         |gh=>rfl
         | aC cs=>
          rw[hm]at h3;simp only[Option.map_some,aV.Hs,qz.zn h3 BG];exact h3
       ·unfold wV at i6 ⊢;split
        next ty t y zH=>rw[zH]at i6;have e1:(cJ e x u E).t t=E.t t:=Vt (.tmp t) (by rw[zH];simp[Op.operands]);rw[e1];exact i6
        ·rfl
       ·obtain⟨n1,n2,n3,n4⟩:=i5 k Vs hk hki (hL k hkL).1 hkW;have aqn:∀ t,p t=false->t≠e:=by rintro t ht rfl;rw[BG]at ht;cases ht
        have acz:∀ t,(E.t t).fM=true->p t=false->(cJ e x u E).t t=E.t t:=by
         intro t ht htp;rw[qV,bO (aqn t htp)];exact A.ND ht e
        refine⟨n1,?_,λy I=>?_,n4⟩
        ·rw[zz (σ:=E) λg c t hg ht=>?_]
         ·exact n2
         ·unfold fX at n2;rw[hg]at n2;simp only[ht]at n2;split at n2
          next b hb=>exact acz t (by rw[hb];rfl) (n4 g c t hg ht)
          next hb=>cases n2
          ·cases n2
        ·refine⟨?_,(n3 y I).2⟩;cases y with
         | tmp t=>
          show ((cJ e x u E).t t).fM=true;rw[acz t (n3 _ I).1 ((n3 _ I).2 t rfl)];exact(n3 _ I).1
         |const v=>exact(n3 _ I).1
         |global g=>exact(n3 _ I).1
         |func f=>exact(n3 _ I).1
     ·cases h
    ·split at h
     ·rename_i i hf;have hc:=List.find?_some hf;have hm:=List.mem_of_find?_eq_some hf;have hi:=BB.1 hm;split at h
      next o ho=>obtain⟨τ,h1,h2⟩:=UY dS h;exact aqi dS ho hi hc h2 (HC dS f _ τ k (NF h1))
      ·cases h
     ·cases h
def D0{b:Bool}(h:fX σ ops o=some b)(hR:Rl w0 N aj ρ σ a w):Region.wanted o (yielded ops a.tmps)=b:=by
 unfold fX at h;split at h
 next I=>injection h with h;subst h;simp[Region.wanted,I]
 ·rename_i j want I;split at h
  ·rename_i t L;have D:=hR.tmp t;rw[iE]at D;split at h
   ·rename_i c O;rw[O]at D;have E:=D.2.yJ;injection h with h;subst h;cases C:a.tmps[t]? with
    |none=>rw[C]at E;cases E
    | some v=>
     rw[C]at E;subst E;simp only[Region.wanted,I,yielded,L,Option.bind_some,C];simp_all
   ·rename_i O;rw[O]at D;injection h with h;subst h;cases C:a.tmps[t]? with
    |none=>simp[Region.wanted,I,yielded,L,C]
    | some v=>
     rw[C]at D;have E:=D;subst E;simp only[Region.wanted,I,yielded,L,Option.bind_some,C,undef];simp_all
   ·cases h
  ·cases h
structure tE (ops:Array Oper) (acA:Array Bool) (L:Nat):Prop where
 size:acA.size=ops.size
 bit:∀j,j<ops.size->acA[j]?=some (L.testBit j)
 out:∀j,ops.size<=j->L.testBit j=false
def tE.acB{C:Array Bool}{L:Nat}(h:tE ops C L)(j:Nat):C.getD j false=L.testBit j:=by
 rw[iE];by_cases D:j<ops.size
 ·rw[h.bit j D];rfl
 ·rw[h.out j (by omega),Array.getElem?_eq_none (by rw[h.size];omega)];rfl
def tE.ready{T:Array Bool}{L:Nat}(h:tE ops T L)(j:Nat):j∈Region.ready .any ops T ↔ mb ops L j=true:=by
 rw[mem_ready,Hy];constructor
 ·rintro⟨D,o,C,E⟩;have I:=(iO.1 C).1;rw[iE,h.bit j I]at D;exact⟨D,o,C,λe O hb=>by rw[<-h.acB];exact E e O hb⟩
 ·rintro⟨D,o,C,E⟩;have I:=(iO.1 C).1;exact⟨by rw[iE,h.bit j I];exact D,o,C,λe O hb=>by rw[h.acB];exact E e O hb⟩
def tE.set{D:Array Bool}{L i:Nat}(h:tE ops D L)(hi:i<ops.size):tE ops (D.setIfInBounds i true) (L ||| 2 ^ i):=by
 refine⟨by simp[h.size],λj C=>?_,λj C=>?_⟩
 ·rw[zC];by_cases E:i=j
  ·subst E;rw[Array.getElem?_setIfInBounds_self_of_lt (by rw[h.size];exact hi)];simp
  ·rw[Array.getElem?_setIfInBounds_ne E,h.bit j C];simp_all
 ·rw[zC,h.out j C]
  grind
def tE.start:tE ops (Array.replicate ops.size false) 0:=
 ⟨by simp,λj C=>by simp[C],λj _=>Nat.zero_testBit j⟩
def aqo(U:fL P Φ){k:S -> ah X}{i:Nat}(hi:ops[i]?=some o)(h:dw P N Φ ops σ o k=some r):∃ E,k E=some r /\ ∀ a w (K:Act -> World -> Prop) (Q:Exit -> Act -> World -> Prop),R w0 N σ a w -> (∀ O w',R w0 N E O w' -> K O w') -> wpOp P ops Q i K a w:=by
 unfold dw at h;split at h
 ·rename_i I;obtain⟨E,Y,Z⟩:=UM U h
  refine⟨E,Y,λa w K Q hR D=>?_⟩
  obtain⟨aj,ρ,C⟩:=hR;unfold wpOp;rw[hi];simp[D0 I C];exact .inl (Z a w K Q ⟨aj,ρ,C⟩ D)
 ·rename_i I;unfold ir at h;split at h
  ·rename_i L
   refine⟨σ,h,λa w K Q hR D=>?_⟩
   obtain⟨aj,ρ,C⟩:=hR;unfold wpOp;rw[hi];simp[D0 I C,L];exact D _ _ ⟨aj,ρ,C⟩
  ·rename_i d L;cases T:Nat.blt d N with
   |false=>simp_all
   | true=>
    rw[T,aq]at h
    refine⟨_,h,λa w K Q hR D=>?_⟩
    obtain⟨aj,ρ,C⟩:=hR;unfold wpOp;rw[hi];simp only[D0 I C,L];exact D _ _ ⟨aj,ρ,C.set rfl (by have:=cK T;omega)⟩
 ·cases h
def acC(U:fL P Φ){K:S -> Prop}{Q:Exit -> Act -> World -> Prop}(I:∀ O,K O -> ∀ a w,R w0 N O a w -> Q .normal a w):
  ∀(f L:Nat) (σ:S) (E:Array Bool),Any P N Φ ops K f L σ -> tE ops E L -> ∀a w,R w0 N σ a w -> wpAny P .any ops Q f E a w
 | 0,L,σ,E,h,D,a,w,hR=>by
  refine⟨List.eq_nil_iff_forall_not_mem.2 λj C=>?_,I σ h.2 a w hR⟩
  rw[D.ready,h.1]at C;cases C
 | f+1,L,σ,E,h,D,a,w,hR=>by
  refine⟨λhr=>I σ (h.1 λj=>?_) a w hR,λj C=>?_⟩
  ·cases C:mb ops L j with
   |false=>rfl
   | true=>
    have:=(D.ready j).2 C;simp_all
  ·have Y:=(D.ready j).1 C;obtain⟨o,O,Z,hd,hA⟩:=h.2 j Y;obtain⟨rT,T,hw⟩:=aqo U Z hd;injection T with T;subst T;exact hw a w _ Q hR λa' w' dX=>acC U I f _ _ _ hA (D.set (acq Y)) a' w' dX
def R.drawn(hR:R w0 N σ a w):R w0 N σ a { w with drawn:=w.drawn+1 }:=by
 obtain⟨aj,ρ,h⟩:=hR;exact⟨aj,ρ,h.grow ⟨rfl,rfl,rfl,dJ _,λ_ _=>rfl⟩ (λ_ _=>rfl) (λb k hb hl=>absurd (h.cV b k hl).2.1 (Nat.not_lt.2 hb))⟩
theorem aqp[Inhabited Wd](C:fL P Φ){id:Nat}{k:S->ah X}(E:P.follows .mixedOrders=true)(h:qQ P N Φ ops ops.size 0 σ k=some r){Q:Exit->Act->World->Prop}(I:∀ D,k D=some r->∀ a w,R w0 N D a w->Q .normal a w)(hR:R w0 N σ a w):
  (Code.region id ops true).wp P Q a w:=
 wp_region_any E (acC C I _ _ _ _ (HC C _ _ _ _ h) tE.start a _ hR.drawn)
/-! Values. -/
end
end Go.Proofs.YtglnbhiaknohlaaGreat
