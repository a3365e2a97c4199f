/-
  Running the program over pure contents, and that it follows (part 4). Nothing here is a claim.
-/
import Derived.Test.YthmgjjfedieljaaGreatV3
set_option linter.unusedSimpArgs false
namespace Go.Proofs.YthmgjjfedieljaaGreat
set_option linter.defProp false
open Go.RowKit
set_option linter.unusedVariables false
def gY(σ:S):ah Tmp->A->S
 |none,_=>σ
 |some d,v=>σ.set d v
section
variable {P:Program} {w w':World} {w0:Wd} {B N:Nat} {af aC:bB} {ρ ρ':Nat->Loc} {σ:S} {a:Act} {X:Type} {d:Nat} {r:X} {o:Oper} {Φ:fo} {p pb:Nat->Bool} {e:Nat} {x:aU} {u:A} {ops:Array Oper}
def vB{C:ah Tmp}{x:A}{k:S -> ah X}(h:jm N σ C x k=some r):k (gY σ C x)=some r /\ ∀ (σ2:S),oM (λX k=>jm (X:=X) N σ2 C x k) (gY σ2 C x):=by
 unfold jm at h;split at h
 ·exact⟨h,λ_ X k=>rfl⟩
 ·rename_i d;cases D:Nat.blt d N with
  |false=>simp_all
  |true=>rw[D]at h;exact⟨h,λ_ X k=>by simp[jm,D];rfl⟩
def J0{f:Nat}{c:kP}(C:gL P Φ)(h:Φ f=some (.p c)):jZ P f c:=(C f _ h).2
def qOK{f:Nat}{c:kP}(C:gL P Φ)(h:Φ f=some (.q c)):jZ P f c:=(C f _ h).2
def amK{f:Nat}{C:ah Tmp}{c:xq}{xs:aa A}(D:gL P Φ)(h:Φ f=some (.i c)):cE λX k=>JJ (X:=X) N σ C c xs k:=λX Y k g=>
 ((D f _ h).2.1 N σ xs X Y _ g).trans (bE (c.run Y N σ xs) (funext λE=>funext λy=>Au X Y k g))
def abR(C:gL P Φ):cE λX k=>dR (X:=X) P N Φ σ o k:=λX Y k g=>by
 unfold dR
 refine dB ((U0.comp λv=>Au) X Y k g) ?_
 unfold jA iO ud BZ BB yQ Bw
 repeat' first
  |rfl
  |exact NK _ _ _ _
  |exact abk _ _ _ _
  |exact al2 _ _ _ _
  |exact abo (J0 C (by assumption)) F5 _ _ _ _
  |exact UJ _ _ _ _
  |exact al7 _ _ _ _
  |exact al4 _ _ _ _
  |exact amK C (by assumption) _ _ _ _
  |exact alw (λ_=>UJ) _ _ _ _
  |exact abo (qOK C (by assumption)) abn _ _ _ _
  |exact ame _ _ _ _
  |exact al0 _ _ _ _
  |exact amv _ _ _ _
  |exact alK _ _ _ _
  |exact amk _ _ _ _
  |exact(aml.comp λv=>Au) X Y k g
  |exact amm _ _ _ _
  |exact Au _ _ _ _
  |exact(aks.comp λv=>Au) X Y k g
  |refine dB ?_ ?_
  |split
def jc.bp{σ C:S}(h:jc p pb σ C){t r j:Nat}(D:σ.t t = .aL r j)(E:pb r=false):C.t t = .aL r j:=by
 rw[<-D];exact h.t (by rw[D];simpa [A.rm,A.fr,xl]using E)
def lF(p:Nat->Bool):A->Prop
 |.aL r _=>p r=true
 |.ptr _=>False
 |_=>True
def jc.st{D:Nat->Bool}{σ C:S}(h:jc p pb σ C){t:Nat}(E:lF D (σ.t t)):lF D (C.t t):=by
 rcases h.nw t with e|e
 ·rw[e];exact E
 ·revert e;cases C.t t<;>simp[A.Ay,lF]
def jc.Va{σ C:S}(h:jc p pb σ C){x:Operand}(D:(aJ σ x).rm p pb=true):aJ C x=aJ σ x:=by
 cases x with
 |tmp t=>exact h.t D
 |const v=>rfl
 |global g=>rfl
 |func f=>rfl
def jc.val{σ U:S}(h:jc p pb σ U){E:Op}{v:A}(D:oM (λX k=>oT (X:=X) P σ E k) v)(T:∀ y∈E.operands,(aJ σ y).rm p pb=true)(Z:v.rm p pb=true)(O:∀ t y r j,E = .load t y->aJ σ y = .aL r j->p r=false):oM (λX k=>oT (X:=X) P U E k) v:=by
 intro X k
 refine(abI E (λy I=>⟨h.Va (T y I),λq e X k=>N6 h.sl q k (abO (T y I) e)⟩) (λt y e k=>?_) k).trans (D X k)
 subst e;have D:oM (λX k=>qR (X:=X) P σ t (aJ σ y) k) v:=D;have I:=T y (by simp[Op.operands]);have O:=λr j=>O t y r j rfl
 generalize aJ σ y=u at D I O;by_cases Y:∃r j,u = .aL r j
 ·obtain⟨r,j,rfl⟩:=Y;have C:qR P σ t (.aL r j) some=some v:=D A some;rw[D.at_ k];simp only[qR]at C ⊢;split at C
  ·cases C
  ·split at C
   next cs jn=>obtain⟨f,e1,e2⟩:=h.aD r (O r j rfl) cs jn;obtain⟨z,⟨⟩,e4⟩:=NJ.nZ C;rw[e1];simp only[];rw[<-List.map_drop,<-List.map_take,rP λl hl=>e2 l (amH C Z l hl),List.map_id'];exact e4.at_ k
   ·cases C
 ·exact Sm.load (λq e X k=>N6 h.sl q k (abO I e)) (λr j e=>absurd ⟨r,j,e⟩ Y) k
def Vb:∀ (xs:aa V) (c:Nat) (σ:S),(∀ n,c <= n -> p n=true/\pb n=true) -> jc p pb σ (oQ c σ xs)
 |[],c,σ,h=>.refl σ
 | x :: xs,c,σ,h=>by
  simp[oQ];cases D:x.aI with
  |true=>exact Vb xs _ σ (λn C=>h n (by omega))
  |false=>exact .trans (.root c (.sl x) (h c (dg _)).1 (h c (dg _)).2 (.refl σ)) (Vb xs (c+1) _ (λn C=>h n (by omega)))
def J1:∀ (ps:aa Pt) (c:Nat) (σ:S),(∀ n,c<=n->p n=true/\pb n=true)->jc p pb σ (qX c σ ps)
 |[],c,σ,h=>.refl σ
 |q::ps,c,σ,h=>(Vb q.2 c σ h).trans (J1 ps _ _ (λn C=>h n (by omega)))
def B5{σ2:S}{ops:Array Oper}(h:∀ g b t,o.guard=some (g,b) -> (ops[g]?).bind (·.dst)=some t -> σ2.t t=σ.t t):gQ σ2 ops o=gQ σ ops o:=by
 unfold gQ
 grind
def uv(p pb:Nat->Bool)(x:A):Prop:=∀r,x = .lf (.own [r])->p r=true/\pb r=true
def jc.tg{C D:Nat->Bool}{σ E:S}(h:jc p pb σ E){t:Nat}(I:uv C D (σ.t t)):uv C D (E.t t):=by
 rcases h.nw t with e|e
 ·rw[e];exact I
 ·intro r O;rw[O]at e;cases e
structure uw (P:Program) (N:Nat) (Φ:fo) (o:Oper) (p pb:Nat->Bool) (tq τ:S) where
 G:S->S
 u:A
 eq:τ=gY (G tq) o.dst u
 run:∀σ2:S,(∀x∈o.op.operands,aJ σ2 x=aJ tq x)->σ2.m=tq.m->dR P N Φ σ2 o some=some (gY (G σ2) o.dst u)
 grow:∀σ,jc p pb σ (G σ)
 set:∀(σ:S) d v,(A.rm p pb v)=true->G (σ.set d v)=(G σ).set d v
 bp:isApp o=false->∀(σ:S) t r j,σ.t t = .aL r j->fK o r=false->(G σ).t t = .aL r j
theorem uw.new{D:S}{d:Nat}(E:o.dst=some d)(C:p d=true/\pb d=true)(T:fK o d=true)(x:aU)(u:A){I:S}(e:I=((D.drop d).root d x).set d u)
  (U:∀σ2:S,(∀x∈o.op.operands,aJ σ2 x=aJ D x)->dR P N Φ σ2 o some=some (((σ2.drop d).root d x).set d u)):Nonempty (uw P N Φ o p pb D I):=
 ⟨{ G:=λσ=>(σ.drop d).root d x,u:=u,eq:=by rw[E];exact e,run:=λσ2 h _=>by rw[U σ2 h,E];rfl,grow:=λσ=>.root d x C.1 C.2 (.refl σ),
    set:=λσ e v Y=>by rw[S.drop_set d (A.DK Y C.1 C.2)];rfl
    bp:=λ_ σ t r j Z O=>by
     show A.drop d (σ.t t)=_;rw[Z];exact A.rS (by simp only[A.fr,zU];rw[rU (by rintro rfl;rw[T]at O;cases O)];rfl) }⟩
def Vc{d:Nat}{C:gU}{D:S}(h:qp σ d C some=some D):∃ (ps:aa Pt) (u:A),∀ σ,qp σ d C some=some ((qX (1000000000100000+1000*d) σ ps).set d u):=by
 unfold qp at h ⊢;split at h
 ·rename_i q;split at h
  next y E=>exact⟨[q],y,λσ=>rfl⟩
  ·cases h
 ·exact⟨_,_,λσ=>rfl⟩
theorem abS{f d:Nat}{c:kP}{T:S}{ev:S->(X:Type)->(aa Pt->ah X)->ah X}(U:o.dst=some d)(E:∀ n,1000000000100000+1000*d<=n->fK o n=true)(Z:∀ n,fK o n=true->p n=true/\pb n=true)(hc:jZ P f c)(C:cE (ev σ))
  (UK:∀σ2:S,(∀x∈o.op.operands,aJ σ2 x=aJ σ x)->σ2.m=σ.m->∀(X:Type) (k:aa Pt->ah X),ev σ2 X k=ev σ X k) (fJ:∀σ2,dR P N Φ σ2 o some=vm N σ2 d c (ev σ2 S) some) (h:vm N σ d c (ev σ S) some=some T):Nonempty (uw P N Φ o p pb σ T):=by
 obtain⟨res,vg,D,I,h3⟩:=NM hc C h;injection I with I;subst I;obtain⟨ps,u,Y⟩:=Vc D;have O:∀n,1000000000100000+1000*d<=n->p n=true/\pb n=true:=λn C=>Z n (E n C)
 rw[Y]at D;injection D with D;exact⟨{ G:=λσ=>qX (1000000000100000+1000*d) σ ps,u:=u,eq:=by rw[U];exact D.symm,run:=λσ2 vC hm=>by rw[fJ,U];exact(h3 σ2 _ _ (UK σ2 vC hm) (Y σ2)).at_ _,grow:=λσ=>J1 ps _ σ O,set:=λσ e v hv=>UA v ps _ σ λn C=>A.DK hv (O n C).1 (O n C).2,bp:=λ_ σ t r j ht hr=>(J1 (p:=fK o) (pb:=fK o) ps _ σ (λn C=>⟨E n C,E n C⟩)).bp ht hr }⟩
theorem amL[Inhabited Wd](eF:gL P Φ){τ:S}(E:N0 Φ o.op=true)(hp:∀ n,fK o n=true->p n=true/\pb n=true)(h:dR P N Φ σ o some=some τ):Nonempty (uw P N Φ o p pb σ τ):=by
 have h0:=h;unfold dR at h;cases hv:gM o.op with
 | true=>
  rw[hv,av]at h;obtain⟨v,I,D,_⟩:=U1 (w0:=default) (N:=N) h;obtain⟨T,h3⟩:=vB I;injection T with T
  refine⟨{ G:=λσ=>σ,u:=v,eq:=T.symm,run:=λσ2 C hm=>?_,grow:=.refl,set:=λ_ _ _ _=>rfl,bp:=λ_ _ _ _ _ h _=>h }⟩
  unfold dR;rw[hv,av,abJ o.op hm C];refine(D.at_ _).trans ?_;exact(h3 σ2).at_ _
 | false=>
  rw[hv,ax]at h;have Z:∀σ2,dR P N Φ σ2 o some=jA P N Φ σ2 o some:=λσ2=>by unfold dR;rw[hv,ax]
  unfold jA at h Z;unfold N0 at E;rw[hv,lK]at E;split at h
  ·rename_i e C;obtain⟨d,D,h⟩:=lE h;obtain⟨x,y,I,_,T⟩:=alJ h;injection I with I;have U:fK o d=true:=by unfold fK;rw[D,C];exact Nat.beq_refl d
   refine uw.new D (hp d U) U x y I.symm λσ2 _=>?_
   rw[Z,C];simp only[iO,D];exact(T σ2).at_ _
  ·rename_i e x C;obtain⟨d,D,h⟩:=lE h;obtain⟨y,u,I,T⟩:=alO h;injection I with I;have U:fK o d=true:=by unfold fK;rw[D,C];exact Nat.beq_refl d
   refine uw.new D (hp d U) U _ _ I.symm λσ2 O=>?_
   rw[Z,C];simp only[iO,D];rw[O x (by rw[C];simp[Op.operands])];exact(T σ2).at_ _
  ·rename_i t len parts C;obtain⟨d,D,h⟩:=lE h;have U:fK o d=true:=by unfold fK;rw[D,C];exact Nat.beq_refl d
   cases hn:tu t with
   | true=>
    rw[hn,av]at h;obtain⟨y,u,I,T⟩:=alU h;injection I with I
    refine uw.new D (hp d U) U _ _ I.symm λσ2 O=>?_
    rw[Z,C];simp only[iO,D,hn,av]
    refine(T σ2 λq hq=>O _ ?_).at_ _
    rw[C];simp only[Op.operands];exact List.mem_toArray.2 (List.mem_map_of_mem (f:=(·.2)) hq)
   | false=>
    rw[hn,ax]at h;obtain⟨y,I,T⟩:=abi h;injection I with I
    refine uw.new D (hp d U) U _ _ I.symm λσ2 O=>?_
    rw[Z,C];simp only[iO,D,hn,ax]
    refine(T σ2 λq hq=>O _ ?_).at_ _
    rw[C];simp only[Op.operands];exact List.mem_toArray.2 (List.mem_map_of_mem (f:=(·.2)) hq)
  next t x y C=>rw[C]at E;cases E
  ·rename_i t l c C;obtain⟨d,D,h⟩:=lE h;obtain⟨y,I,T⟩:=abh h;injection I with I;have U:fK o d=true:=by unfold fK;rw[D,C];exact Nat.beq_refl d
   refine uw.new D (hp d U) U _ _ I.symm λσ2 O=>?_
   rw[Z,C];simp only[iO,D];rw[O l (by rw[C];simp[Op.operands]),O c (by rw[C];simp[Op.operands])];exact(T σ2).at_ _
  ·rename_i f args lC C;have abU:∀ σ2:S,(∀ x∈o.op.operands,aJ σ2 x=aJ σ x)->∀ x∈args.toList,aJ σ2 x=aJ σ x:=λσ2 O x hx=>O x (by
    rw[C];simp only[Op.operands,Call.operands,Array.mem_append]
    first
     |exact .inr (by simpa using hx)
     |exact .inl (by simpa using hx))
   have nm:∀d,o.dst=some d->∀n,1000000000100000+1000*d<=n->fK o n=true:=λd D n hn=>by unfold fK;rw[D,C];exact jI hn
   split at h
   next c Y=>obtain⟨d,D,h⟩:=lE h;exact abS D (nm d D) hp (J0 eF Y) (ev:=λσ X k=>vk σ args.toList k) F5 (λσ2 O hm X k=>amA hm _ _ (abU σ2 O)) (λσ2=>by rw[Z,C];simp only[Y,iO,D];rfl) h
   iterate 5 (rename_i c Y;rw[C]at E;simp[Y]at E)
   next c Y=>obtain⟨d,D,h⟩:=lE h;exact abS D (nm d D) hp (qOK eF Y) (ev:=λσ X k=>DB σ args.toList k) abn (λσ2 O hm X k=>amC hm _ _ (abU σ2 O)) (λσ2=>by rw[Z,C];simp only[Y,iO,D];rfl) h
   next c Y=>rw[C]at E;simp[Y]at E
   ·cases h
  next x y t t' C=>rw[C]at E;cases E
  next t C=>rw[C]at E;cases E
  next t x i C=>rw[C]at E;cases E
  next t x i v C=>rw[C]at E;cases E
  next t args lC C=>rw[C]at E;cases E
  next f abH C=>rw[C]at E;cases E
  next x t C=>rw[C]at E;cases E
  ·cases h
def abV(C:gL P Φ){ops:Array Oper}:cE λX k=>dL (X:=X) P N Φ ops σ o k:=λX Y k g=>by
 unfold dL;split
 ·exact abR C _ _ _ _
 ·exact Au _ _ _ _
 ·rfl
theorem Vd[Inhabited Wd](D:gL P Φ){ops:Array Oper}{k:S->ah X}(h:dL P N Φ ops σ o k=some r):∃ C,k C=some r/\dL P N Φ ops σ o some=some C:=
 let ⟨C,E,I⟩:=(abV D).nZ h
 ⟨C,E,I S some⟩
def Ve{ops:Array Oper}{b:Bool}(h:gQ σ ops o=some b):∀ g c t,o.guard=some (g,c) -> (ops[g]?).bind (·.dst)=some t -> (σ.t t).rm p pb=true:=by
 intro g c t C D;unfold gQ at h;rw[C]at h;simp[D]at h;split at h
 next hb=>rw[hb];rfl
 next hb=>rw[hb];rfl
 ·cases h
def Gd{ops:Array Oper}{d:Nat}(h:d ∉ o.looksAt ops)(v:A){x:Operand}(C:x∈o.op.operands):aJ (σ.set d v) x=aJ σ x:=by
 cases x with
 | tmp t=>
  have:t≠d:=by
   rintro rfl;exact h (List.mem_append_left _ (List.mem_filterMap.2 ⟨.tmp t,by simpa using C,rfl⟩))
  exact cz _ _ _ this
 |_=>rfl
def Vf{ops:Array Oper}{d:Nat}(h:d ∉ o.looksAt ops)(v:A):∀ g b t,o.guard=some (g,b) -> (ops[g]?).bind (·.dst)=some t -> (σ.set d v).t t=σ.t t:=by
 intro g b t C D;have:t≠d:=by
  rintro rfl;refine h (List.mem_append_right _ ?_);simp_all
 exact cz _ _ _ this
def oX(P:Program)(ops:Array Oper)(C:Oper)(p pb:Nat->Bool)(v:A)(σ:S):Prop:=
 (gQ σ ops C=some true/\gM C.op=true/\oM (λX k=>oT (X:=X) P σ C.op k) v/\(∀y∈C.op.operands,(aJ σ y).rm p pb=true)/\v.rm p pb=true/\∀t y r j,C.op = .load t y->aJ σ y = .aL r j->p r=false)\/(gQ σ ops C=some false/\v = .skip)
def oX.grow{ops:Array Oper}{U:Oper}{v:A}(h:oX P ops U p pb v σ){Y:S}(C:jc p pb σ Y):oX P ops U p pb v Y:=by
 rcases h with ⟨D,I,h3,E,Z,h6⟩|⟨D,I⟩
 ·refine .inl ⟨?_,I,C.val h3 E Z h6,λy hy=>?_,Z,λt y r j e h=>?_⟩
  ·rw[B5 λg b t O T=>C.t (Ve D g b t O T)];exact D
  ·rw[C.Va (E y hy)];exact E y hy
  ·exact h6 t y r j e (by rw[<-C.Va (E y (by rw[e];simp[Op.operands]))];exact h)
 ·refine .inr ⟨?_,I⟩;rw[B5 λg b t O T=>C.t (Ve D g b t O T)];exact D
def oX.set{ops:Array Oper}{D:Oper}{v u:A}(h:oX P ops D p pb v σ){d:Nat}(C:d ∉ D.looksAt ops):oX P ops D p pb v (σ.set d u):=by
 rcases h with ⟨E,I,T,U,Y,Z⟩|⟨E,I⟩
 ·refine .inl ⟨?_,I,λX k=>?_,λy O=>?_,Y,λt y r j e h=>?_⟩
  ·rw[B5 (Vf C u)];exact E
  ·exact(abJ (σ:=σ) (σ2:=σ.set d u) D.op rfl (λx hx=>Gd C u hx) k).trans (T.at_ k)
  ·rw[Gd C u O];exact U y O
  ·exact Z t y r j e (by rw[<-Gd C u (by rw[e];simp[Op.operands])];exact h)
 ·refine .inr ⟨?_,I⟩;rw[B5 (Vf C u)];exact E
def oX.put{ops:Array Oper}{C:Oper}{v u:A}(h:oX P ops C p pb v σ){D:ah Tmp}(E:∀ d,D=some d->d ∉ C.looksAt ops):oX P ops C p pb v (gY σ D u):=by
 cases D with
 |none=>exact h
 |some d=>exact h.set (E d rfl)
def oX.nr{ops:Array Oper}{C:Oper}{v:A}(h:oX P ops C p pb v σ):v.rm p pb=true:=by
 rcases h with ⟨_,_,_,_,D,_⟩|⟨_,E⟩
 ·exact D
 ·rw[E];rfl
def abW{x y:ah Tmp}(v u:A)(h:∀ d,x=some d->y≠some d):gY (gY σ x v) y u=gY (gY σ y u) x v:=by
 cases x with
 |none=>rfl
 | some d=>cases y with
  |none=>rfl
  |some e=>exact S.set_set (λC=>h d rfl (bE some C)) v u
def amM(x:ah Tmp)(v:A):(gY σ x v).m=σ.m:=by cases x<;>rfl
def N7{ops:Array Oper}{C:ah Tmp}(h:∀ d,C=some d->d ∉ o.looksAt ops)(v:A){x:Operand}(D:x∈o.op.operands):aJ (gY σ C v) x=aJ σ x:=by
 cases C with
 |none=>rfl
 |some d=>exact Gd (h d rfl) v D
def amN{ops:Array Oper}{C:ah Tmp}(h:∀ d,C=some d->d ∉ o.looksAt ops)(v:A):gQ (gY σ C v) ops o=gQ σ ops o:=by
 cases C with
 |none=>rfl
 |some d=>exact B5 (Vf (h d rfl) v)
/-! Calls that write blocks alone. -/
def abX{σ2:S}(C:σ2.m=σ.m)(ns:aa Nat):∀ (xs:aa Lf) (k:aa V -> ah X),vo σ2 ns xs k=vo σ ns xs k
 |[],k=>rfl
 | x :: xs,k=>by
  simp[vo,U3 C];congr 2;funext y;exact abX C ns xs _
def amO{σ2:S}(C:σ2.m=σ.m)(ns:aa Nat)(x:A)(k:Pt->ah X):um σ2 ns x k=um σ ns x k:=by
 unfold um;split<;>simp only[abX C,C]
def amP{σ2:S}(C:σ2.m=σ.m)(p:PK)(x:A):yM σ2 p x=yM σ p x:=by
 cases p<;>simp only[yM,C]
def abY{σ2:S}(C:σ2.m=σ.m):∀ (ps:aa PK) (xs:aa Operand),(∀ x∈xs,aJ σ2 x=aJ σ x)->kQ σ2 ps xs=kQ σ ps xs
 |[],[],_=>rfl
 |[],_::_,_=>rfl
 |_::_,[],_=>rfl
 | p :: ps,x :: xs,h=>by
  simp only[kQ];rw[h x (.head _),amP C,abY C ps xs (λy D=>h y (.tail _ D))]
def N8{σ2:S}(E:σ2.m=σ.m)(ns:aa Nat):∀ (ps:aa PK) (xs:aa Operand) (C:aa Mu) (k:ni ps->ah X),(∀ x∈xs,aJ σ2 x=aJ σ x)->kR σ2 ns ps xs C k=kR σ ns ps xs C k
 |[],[],[],k,_=>rfl
 | .v b t :: ps,x :: xs,C,k,h=>by
  simp only[kR];rw[h x (.head _),amO E];congr 1;funext p;congr 1;split
  ·exact N8 E ns ps xs C _ (λy D=>h y (.tail _ D))
  ·rfl
 | .p t g off :: ps,x :: xs,.aD r' cs I :: C,k,h=>by
  simp only[kR];split
  ·exact N8 E ns ps xs C _ (λy D=>h y (.tail _ D))
  ·rfl
 | .s t g :: ps,x :: xs,.sl q O :: C,k,h=>by
  simp only[kR];split
  ·exact N8 E ns ps xs C _ (λy D=>h y (.tail _ D))
  ·rfl
 |[],[],_::_,k,_=>rfl
 |[],_::_,_,k,_=>rfl
 |.v _ _::_,[],_,k,_=>rfl
 |.p _ _ _::_,[],_,k,_=>rfl
 |.s _ _::_,[],_,k,_=>rfl
 |.p _ _ _::_,_::_,[],k,_=>rfl
 |.s _ _::_,_::_,[],k,_=>rfl
 |.p _ _ _::_,_::_,.sl _ _::_,k,_=>rfl
 |.s _ _::_,_::_,.aD _ _ _::_,k,_=>rfl
def amQ{m:Nat -> ah aU}{l:Lf}{v:V}{q:Nat}(h:yL m l=some (v,some q)):v.aI=false:=by
 unfold yL at h
 grind
def abZ{m:Nat->ah aU}:∀ {cs:aa Lf} {C:aa (V×ah Nat)},uk m cs=some C->(∀ v∈C,v.1.aI=true)->∀ v∈C,v.2=none
 |[],C,h,_=>by injection h with h;subst h;simp
 | c :: cs,C,h,D=>by
  unfold uk at h;split at h
  ·rename_i v T E I;injection h with h;subst h;intro u hu;rcases ig.1 hu with rfl | hu
   ·obtain⟨x,q⟩:=u;cases q with
    |none=>rfl
    |some q=>have:=amQ E;rw[D _ (.head _)]at this;cases this
   ·exact abZ I (λv O=>D v (.tail _ O)) u hu
  ·cases h
def ab0{i:Nat}:∀ (C:aa (V×ah Nat)) (j:Nat),(∀ v∈C,v.2=none) -> FW i j C=[]
 |[],_,_=>rfl
 | (x,q) :: C,j,h=>by
  have:=h _ (.head _);subst this;exact ab0 C _ (λv D=>h v (.tail _ D))
def Vg:∀ (C:aa Nat) (xs:aa V),(∀ x∈xs,x.aI=true)->yO C xs=[]/\xg C xs=[]
 |[],[],_=>⟨rfl,rfl⟩
 |[],_::_,_=>⟨rfl,rfl⟩
 |_::_,[],_=>⟨rfl,rfl⟩
 | n :: C,x :: xs,h=>by
  simp only[yO,xg,h x (.head _),av];exact Vg C xs (λx D=>h x (.tail _ D))
def Ge(ps:aa PK):Bool:=ps.all λp=>match p with
 |.v _ _=>true
 |.p _ g _=>Nat.beq g 0
 |.s _ _=>false
def Vh{ns:aa Nat}:∀ (ps:aa PK) (xs:aa Operand) (D:aa Mu) (k:ni ps->ah X),Ge ps=true->kQ σ ps xs=some D->kR σ ns ps xs D k=some r->∀ (i E c0:Nat) (y:uj (fF ps)),
  (∀p∈nj i D,p.1∈jO σ ps xs)/\qv c0 E D (ke (fF ps) y)=[]/\∀(Z cn:aa Nat),∀p∈nq Z cn c0 E D (ke (fF ps) y),p.1∈jO σ ps xs
 | [],[],D,k,_,C,h=>by
  injection C with C;subst C;intro i E c0 y;exact⟨(λp hp=>by cases hp),by simp[qv],(λ_ _ p hp=>by simp[nq]at hp)⟩
 | .v b t :: ps,x :: xs,D,k,U,C,h=>by
  have s7:kQ σ ps xs=some D:=by
   unfold kQ at C;split at C
   next mu Y I O=>exact(yN I).elim
   next Y I O=>rw[O];exact C
   ·cases C
  have vf:Ge ps=true:=by simpa [Ge]using U
  unfold kR at h;obtain⟨p,O,_⟩:=abv.nZ h;cases hb:p.1==b with
  |false=>rw[hb]at O;cases O
  | true=>
   rw[hb,av]at O;split at O
   ·intro i E c0 y;exact Vh ps xs D _ vf s7 O i E c0 y
   ·cases O
 | .p t g off :: ps,x :: xs,D,k,U,C,h=>by
  unfold kQ at C;split at C
  ·rename_i mu Y I O;injection C with C;subst C;have I:=yN I;cases mu with
   |sl=>exact I.elim
   | aD r' cs T=>
    have I:aJ σ x = .aL r' off/\BS σ (.aD r' cs T):=I;have U:Nat.beq g 0=true/\Ge ps=true:=by simpa [Ge]using U
    have hg:=c8 U.1;subst hg;unfold kR at h;split at h
    ·rename_i z hz;have hz:dec t 0 (T.map (·.1))=some z:=hz;have hw:=nY t 0 _ z hz;have Vi:∀ v∈T,v.1.aI=true:=by
      intro v hv;obtain⟨j,hj⟩:=List.mem_iff_getElem?.1 hv;have N9:(T.map (·.1))[j]?=some v.1:=by rw[fz,hj];rfl
      have wM:j<(enc t 0 z).length:=by rw[<-hw.1];exact(dW.1 N9).1
      have hk:=hw.2 j _ _ N9 (bL wM);have nB:=sX t 0 z (by omega) j _ (bL wM);cases Vi:v.1.aI with
      |true=>rfl
      |false=>rw[hk.Ub Vi]at nB;cases nB
     have hn:=abZ I.2.2.1 Vi;intro i E c0 y;obtain⟨k1,k2,k3⟩:=Vh ps xs Y _ U.2 O h (i+1) (E+1+T.length) c0 y.2;have hyf:∀ u∈enc t 0 y.1,u.aI=true:=by
      intro u hu;obtain⟨j,hj⟩:=List.mem_iff_getElem?.1 hu;exact sX t 0 y.1 (by omega) j u hj
     have DM:jO σ (.p t 0 off::ps) (x::xs)=r'::jO σ ps xs:=by simp only[jO,I.1]
     rw[DM]
     refine⟨λp hp=>?_,?_,λZ cn p hp=>?_⟩
     ·simp only[nj,ab0 T 0 hn,List.nil_append]at hp;rcases ig.1 hp with rfl | hp
      ·exact .head _
      ·exact .tail _ (k1 p hp)
     ·show yO (oS c0 (E+1) T) (enc t 0 y.1)++qv c0 (E+1+T.length) Y (ke (fF ps) y.2)=[]
      rw[(Vg _ _ hyf).1,k2];rfl
     ·have hp:p∈(r',aU.aD (sg Z cn (oS c0 (E+1) T) cs (enc t 0 y.1))) :: (xg (oS c0 (E+1) T) (enc t 0 y.1)++nq Z cn c0 (E+1+T.length) Y (ke (fF ps) y.2)):=hp;rw[(Vg _ _ hyf).2,List.nil_append]at hp;rcases ig.1 hp with rfl | hp
      ·exact .head _
      ·exact .tail _ (k3 Z cn p hp)
    ·cases h
  next Y I O=>exact(yN I).elim
  ·cases C
 |.s t g::ps,x::xs,D,k,U,C,h=>by simp[Ge]at U
 |[],_::_,D,k,_,C,h=>by cases C
 |_::_,[],D,k,_,C,h=>by cases C
def S.Vj{ns:aa Nat}{nr:aa (Nat×aU)}(v:A)(h:v.dD ns []=v):(σ.set d v).dD ns [] nr=(σ.dD ns [] nr).set d v:=by
 refine S.ext' (λk=>?_) λ_=>rfl
 show (bK σ.t d v k).dD ns []=bK (λk=>(σ.t k).dD ns []) d v k;by_cases C:k=d
 ·subst C;rw[bT,bT];exact h
 ·rw[cz _ _ _ C,cz _ _ _ C]
def Oa{n:Nat}{x:aU}:∀ {l:aa (Nat×aU)},l.lookup n=some x -> (n,x)∈l
 |[],h=>by cases h
 | q :: l,h=>by
  rw[List.lookup_cons]at h;cases hb:n==q.1 with
  |true =>grind
  |false=>rw[hb]at h;exact .tail _ (Oa h)
theorem amR{τ:S}{f:Nat}{args:Array Operand}{lC:Array TypeId}{c:qt}(Z:o.op = .call { callee:=.value (.func f),args,argTypes:=lC })(hc:Φ f=some (.m c))(hfl:N1 c=true)(hp:∀ n,fK o n=true->p n=true/\pb n=true)(BW:∀ n∈jO σ c.ps args.toList,p n=true)
  (h:dR P N Φ σ o some=some τ):Nonempty (uw P N Φ o p pb σ τ):=by
 have fJ:∀ σ2,dR P N Φ σ2 o some=q9 N σ2 o.dst c args.toList some:=by
  intro σ2;unfold dR;rw[show gM o.op=false by rw[Z];rfl,ax];simp only[jA,Z,hc]
 rw[fJ]at h;have ab1:∀ σ2:S,(∀ x∈o.op.operands,aJ σ2 x=aJ σ x)->∀ x∈args.toList,aJ σ2 x=aJ σ x:=by
  intro σ2 E x U;refine E x ?_;rw[Z];simp only[Op.operands,Call.operands];simp only[Array.mem_append]
  first
   |exact .inr (by simpa using U)
   |exact .inl (by simpa using U)
 unfold q9 at h;split at h
 ·rename_i O xj;cases kK:(once (nj 0 O)&&Nat.ble O.length 40)with
  |false=>rw[kK]at h;cases h
  | true=>
   rw[kK,av]at h;have amS:=Vh c.ps args.toList O _ hfl xj h;obtain⟨x,C,hd⟩:=(NT _ _ _).nZ h;split at C
   ·rename_i y hy;obtain⟨k1,k2,k3⟩:=amS 0 (fQ c.ro y.1).len (jy o.dst) y.2;unfold FZ at C;rw[k2]at C;generalize kS:FY N O (ke (fF c.ps) y.2) []=ok at C;cases ok with
    |false=>cases C
    | true=>
     rw[av]at C;generalize Dg:(nj 0 O).map (·.1)=ns at C hd;generalize gG:nq ns [] (jy o.dst) (fQ c.ro y.1).len O (ke (fF c.ps) y.2)=nr at C;have Ob:U6 p ns nr:=by
      refine⟨λn D=>?_,λn x U=>?_⟩
      ·rw[<-Dg]at D;obtain⟨q,hq,e⟩:=iZ.1 (w7.1 D);rw[<-e];exact BW _ (k1 q hq)
      ·rw[<-gG]at U;exact BW _ (k3 ns [] _ (Oa U))
     have sq:∀ σ2:S,(∀ x∈o.op.operands,aJ σ2 x=aJ σ x)->σ2.m=σ.m->q9 N σ2 o.dst c args.toList some=th N (σ2.dD ns [] nr) o.dst (fQ c.ro y.1) some:=by
      intro σ2 E T;simp only[q9];rw[abY T _ _ (ab1 σ2 E),xj];simp only[kK,av];rw[Dg,N8 T _ _ _ _ _ (ab1 σ2 E)];refine(hd S _).trans ?_;simp only[hy,FZ,k2,kS,av,gG]
     have bp0:∀ (σ:S) t r j,σ.t t = .aL r j->(σ.dD ns [] nr).t t = .aL r j:=by
      intro σ t r j Y;show A.dD ns [] (σ.t t)=_;rw[Y];rfl
     generalize lU:fQ c.ro y.1=res at C sq;cases I:o.dst with
     | none=>
      rw[I]at C;have C:some (σ.dD ns [] nr)=some τ:=C;injection C with C;exact⟨{ G:=λσ=>σ.dD ns [] nr,u:=.undef,eq:=by rw[I];exact C.symm,run:=λσ2 E T=>by rw[fJ,sq σ2 E T,I];rfl,grow:=λσ=>.dD ns nr Ob (.refl σ),set:=λσ e v hv=>S.Vj v (A.U9 hv Ob.ns),bp:=λ_ σ t r j Y _=>bp0 σ t r j Y }⟩
     | some d=>
      rw[I]at C;have oa:∀n,1000000000100000+1000*d<=n->fK o n=true:=λn D=>by unfold fK;rw[I,Z];exact jI D
      have iV:∀n,1000000000100000+1000*d<=n->p n=true/\pb n=true:=λn D=>hp n (oa n D)
      cases hN:Nat.blt d N with
      |false=>simp only[th,hN,ax]at C;cases C
      | true=>
       have e:∀σ,th N σ (some d) res some=qp σ d res some:=λσ=>by simp only[th,hN,av]
       rw[e]at C;obtain⟨ps,u,hG⟩:=Vc C;rw[hG]at C;injection C with C;exact⟨{ G:=λσ=>qX (1000000000100000+1000*d) (σ.dD ns [] nr) ps,u:=u,eq:=by rw[I];exact C.symm,run:=λσ2 E T=>by rw[fJ,sq σ2 E T,I,e,hG];rfl,grow:=λσ=>(jc.dD ns nr Ob (.refl σ)).trans (J1 ps _ _ iV),set:=λσ e v hv=>by rw[S.Vj v (A.U9 hv Ob.ns),UA v ps _ _ λn D=>A.DK hv (iV n D).1 (iV n D).2],bp:=λ_ σ t r j Y hr=>(J1 (p:=fK o) (pb:=fK o) ps _ _ (λn D=>⟨oa n D,oa n D⟩)).bp (bp0 σ t r j Y) hr }⟩
   ·cases C
 ·cases h
def Calm(Φ:fo)(ok:Nat->Nat->Bool)(uy oU p pb:Nat->Bool)(σ:S)(o:Oper):Prop:=
 N0 Φ o.op=true\/(∃f args D c,o.op = .call { callee:=.value (.func f),args:=args,argTypes:=D }/\Φ f=some (.m c)/\N1 c=true/\vz ok σ c.ps args.toList=true/\∀n∈jO σ c.ps args.toList,p n=true)\/
 (∃ty t y,o.op = .store ty (.tmp t) y/\o.dst=none/\uy t=true/\lF p (σ.t t))\/
 ∃x y t C,o.op = .call ⟨.builtin .append,⟨[.tmp x,y]⟩,⟨[t,C]⟩⟩/\oU x=true/\(tu t=false/\Nat.beq t C=true/\DT o.dst t (.tmp x)=false)/\uv p pb (σ.t x)
theorem amT{Y:S}{ty:TypeId}{t:Tmp}{y:Operand}(E:o.op = .store ty (.tmp t) y)(U:o.dst=none)(C:lF p (σ.t t))(h:dR P N Φ σ o some=some Y):Nonempty (uw P N Φ o p pb σ Y):=by
 have Jy:∀ (x:A) (z:A),(∀ k,x ≠ .ptr k) -> Av x z=false:=by
  intro x z D;unfold Av;split
  ·grind
  ·rfl
 have Z:∀ σ2:S,(∀ k,σ2.t t ≠ .ptr k) -> dR P N Φ σ2 o some=sZ P σ2 ty (σ2.t t) (aJ σ2 y) some:=by
  intro σ2 Oc;unfold dR;rw[show gM o.op=false by rw[E];rfl,ax];simp only[jA,E,U];rw[show Av (aJ σ2 (.tmp t)) (aJ σ2 y)=false from Jy _ _ Oc,ax];rfl
 rw[Z σ (λk I=>by rw[I]at C;exact C)]at h;cases D:σ.t t with
 | aL r' j=>
  rw[D]at h C;have hp:p r'=true:=C;have key:∃ x,∀ σ2:S,σ2.m=σ.m -> ∀ v,v=aJ σ y -> sZ P σ2 ty (.aL r' j) v some=some (σ2.root r' x):=by
   unfold sZ at h;split at h
   ·rename_i n xs hn rZ;split at h
    ·rename_i hlen;simp only at h;split at h
     ·rename_i cs jn;split at h
      ·rename_i hj;cases hl:xs.all Lf.live with
       |false=>grind
       | true=>
        refine⟨.aD (splice cs j xs),λσ2 O v hv=>?_⟩
        subst hv;simp only[sZ,hn,rZ,aV hlen,O,jn,aV hj,hl,av];simp only[S.root,O]
      ·cases h
     ·cases h
    ·cases h
   ·cases h
  obtain⟨x,n5⟩:=key;have T:=n5 σ rfl _ rfl;rw[h]at T;injection T with T
  refine⟨{ G:=λσ=>σ.root r' x,u:=.undef,eq:=by rw[U];exact T,run:=λσ2 vC O=>?_,grow:=λσ=>.rt r' x hp (.refl σ),set:=λσ d v hv=>rfl,bp:=λ_ σ t r j ht _=>ht }⟩
  have e1:σ2.t t = .aL r' j:=(vC (.tmp t) (by rw[E];simp[Op.operands])).trans D;rw[Z σ2 (λk I=>by rw[e1]at I;cases I),e1,n5 σ2 O _ (vC y (by rw[E];simp[Op.operands])),U];rfl
 |ptr k=>rw[D]at C;exact C.elim
 | _=>
  rw[D]at h;exfalso;revert h;unfold sZ;split
  ·grind
  ·grind
def cF(e:Nat)(x:aU)(u:A)(σ:S):S:=((σ.drop e).root e x).set e u
def oY(e:Nat)(u:A):Prop:=u = .aL e 0\/u = .lf (.own [e])
structure lY (x:aU):Prop where
 cy:∀K:qg,x.cy K=x
def lY.drop{x:aU}(h:lY x)(n:Nat):x.drop n=x:=h.cy _
def lY.dD{x:aU}(h:lY x)(ns cn:aa Nat):x.dD ns cn=x:=h.cy _
def lY.zero(C:aa Value):lY (.aD (C.map qT)):=⟨λK=>bE aU.aD (tY.rS (cm.2 λc D=>by
 obtain⟨v,_,rfl⟩:=iZ.1 D;unfold qT;split<;>rfl))⟩
def ab2(h:yR o=true):∃ t,∃ e:Nat,o.op = .alloc t/\o.guard=none/\o.dst=some e/\e<20000:=by
 unfold yR at h;rw[aH,aH]at h;obtain⟨⟨C,E⟩,D⟩:=h;split at C
 ·rename_i t I;split at D
  ·simp_all
  ·cases D
 ·cases C
def amU{ops:Array Oper}{t:TypeId}{e:Nat}(D:o.op = .alloc t)(O:o.guard=none)(T:o.dst=some e){E:S}(h:dL P N Φ ops σ o some=some E):∃ x,lY x/\E=cF e x (.aL e 0) σ/\∀ σ2,dL P N Φ ops σ2 o some=some (cF e x (.aL e 0) σ2):=by
 have I:∀ σ2,dL P N Φ ops σ2 o some=ud P N σ2 e t some:=by
  intro σ2;unfold dL gQ;rw[O];simp only;unfold dR;rw[show gM o.op=false by rw[D];rfl,ax];simp only[jA,D,iO,T]
 rw[I]at h;unfold ud at h;split at h
 ·rename_i z U;unfold iU at h;cases C:Nat.blt e N with
  |false=>rw[C]at h;cases h
  | true=>
   rw[C,av]at h;injection h with h
   refine⟨_,.zero _,h.symm,λσ2=>(I σ2).trans ?_⟩
   unfold ud iU;rw[U,C];rfl
 ·cases h
def J2{σ2:S}:∀ (ps:aa PK) (xs:aa Operand),(∀ x∈xs,aJ σ2 x=aJ σ x) -> jO σ2 ps xs=jO σ ps xs
 |[],[],_=>rfl
 |[],_::_,_=>rfl
 |.v _ _::_,[],_=>rfl
 |.p _ _ _::_,[],_=>rfl
 |.s _ _::_,[],_=>rfl
 |.v _ _::ps,x::xs,h=>by simp[jO];exact J2 ps xs (λy C=>h y (.tail _ C))
 |.s _ _::ps,x::xs,h=>by simp only[jO];exact J2 ps xs (λy C=>h y (.tail _ C))
 | .p _ _ _ :: ps,x :: xs,h=>by
  simp only[jO];rw[h x (.head _),J2 ps xs (λy C=>h y (.tail _ C))]
def Vk{ok:Nat -> Nat -> Bool}{σ2:S}(D:∀ t r j,σ.t t = .aL r j -> ok t r=true -> σ2.t t = .aL r j):∀ (ps:aa PK) (xs:aa Operand),vz ok σ ps xs=true -> vz ok σ2 ps xs=true/\jO σ2 ps xs=jO σ ps xs
 |[],[],_=>⟨rfl,rfl⟩
 | .v _ _ :: ps,x :: xs,h=>by
  exact Vk D ps xs h
 | .p _ _ _ :: ps,x :: xs,h=>by
  cases x with
  | tmp t=>
   simp[vz,aH]at h;obtain⟨C,I⟩:=h;obtain⟨O,T⟩:=Vk D ps xs I;split at C
   ·rename_i r' j E;have e:=D t r' j E C;refine⟨?_,?_⟩
    ·simp only[vz,aH];exact⟨by rw[e];exact C,O⟩
    ·simp only[jO,aJ,e,E,T]
   ·cases C
  |const v=>simp[vz]at h
  |global g=>simp[vz]at h
  |func f=>simp[vz]at h
def Calm.kF{ok:Nat->Nat->Bool}{uy oU:Nat->Bool}{σ2:S}(h:Calm Φ ok uy oU p pb σ o)(O:∀ t r j,σ.t t = .aL r j->ok t r=true->σ2.t t = .aL r j)(T:∀ t,uy t=true->lF p (σ.t t)->lF p (σ2.t t))(U:∀ t,oU t=true->uv p pb (σ.t t)->uv p pb (σ2.t t)):Calm Φ ok uy oU p pb σ2 o:=by
 rcases h with h|⟨f,args,Y,c,E,C,D,I,Z⟩|⟨ty,t,y,E,C,D,I⟩|⟨x,y,t,t',E,C,hn,D⟩
 ·exact .inl h
 ·obtain⟨k1,k2⟩:=Vk O _ _ I;exact .inr (.inl ⟨f,args,Y,c,E,C,D,k1,by rw[k2];exact Z⟩)
 ·exact .inr (.inr (.inl ⟨ty,t,y,E,C,D,T t D I⟩))
 ·exact .inr (.inr (.inr ⟨x,y,t,t',E,C,hn,U x C D⟩))
def Od{ops:Array Oper}(U:rj o=true)(Y:gQ σ ops o=some true){τ:S}(h:dL P N Φ ops σ o some=some τ):∃ (e:Nat) (x:aU) (u:A),o.dst=some e/\e<20000/\lY x/\oY e u/\τ=cF e x u σ/\
  ∀σ2,gQ σ2 ops o=some true->(∀y∈o.op.operands,aJ σ2 y=aJ σ y)->dL P N Φ ops σ2 o some=some (cF e x u σ2):=by
 have Z:gM o.op=false->∀ σ2,gQ σ2 ops o=some true->dL P N Φ ops σ2 o some=jA P N Φ σ2 o some:=by
  intro hv σ2 I;unfold dL;rw[I];simp only;unfold dR;rw[hv,ax]
 have bsl:∀y:V,lY (.sl y):=λy=>⟨λ_=>rfl⟩
 unfold rj at U;rw[aH]at U;obtain⟨J3,oZ⟩:=U;split at oZ
 ·rename_i e D;have dA:e<20000:=cH oZ;split at J3
  ·rename_i t C;have E:=Z (by rw[C];rfl);rw[E σ Y]at h;simp only[jA,C,iO,D]at h;unfold ud at h;split at h
   ·rename_i z hz;unfold iU at h;cases hN:Nat.blt e N with
    |false=>rw[hN]at h;cases h
    | true=>
     rw[hN,av]at h;injection h with h
     refine⟨e,.aD (z.cells.toList.map qT),.aL e 0,D,dA,.zero _,.inl rfl,h.symm,λσ2 I _=>(E σ2 I).trans ?_⟩
     simp only[jA,C,iO,D];unfold ud iU;rw[hz,hN];rfl
   ·cases h
  ·rename_i t len parts C;have E:=Z (by rw[C];rfl);rw[E σ Y]at h;have hn:tu t=false:=by simpa using J3
   simp only[jA,C,iO,D,hn,ax]at h;obtain⟨y,O,h2⟩:=abi h;injection O with O
   refine⟨e,.sl y,.lf (.own [e]),D,dA,bsl y,.inr rfl,O.symm,λσ2 I T=>(E σ2 I).trans ?_⟩
   simp only[jA,C,iO,D,hn,ax]
   refine(h2 σ2 λq hq=>T _ ?_).at_ _
   rw[C];simp only[Op.operands];exact List.mem_toArray.2 (List.mem_map_of_mem (f:=(·.2)) hq)
  ·rename_i t l c C;have E:=Z (by rw[C];rfl);rw[E σ Y]at h;simp only[jA,C,iO,D]at h;obtain⟨y,O,h2⟩:=abh h;injection O with O
   refine⟨e,.sl y,.lf (.own [e]),D,dA,bsl y,.inr rfl,O.symm,λσ2 I T=>(E σ2 I).trans ?_⟩
   simp only[jA,C,iO,D];rw[T l (by rw[C];simp[Op.operands]),T c (by rw[C];simp[Op.operands])];exact(h2 σ2).at_ _
  ·cases J3
 ·cases oZ
def Oe{d:Nat}{t:TypeId}{y z:A}{U:S}(h:wO P N σ d t y z some=some U):∃ (r:Nat) (v:V),U=((σ.drop r).root r (.sl v)).set d (.lf (.own [r]))/\(r=d\/y = .lf (.own [r]))/\
  ∀σ2:S,(∀(k:V->ah S),ve σ2 z k=ve σ z k)->(∀r v,y = .lf (.own [r])->σ.m r=some (.sl v)->σ2.m r=some (.sl v))->wO P N σ2 d t y z some=some (((σ2.drop r).root r (.sl v)).set d (.lf (.own [r]))):=by
 unfold wO at h;split at h
 ·rename_i e tc Y;cases I:(Nat.beq (full tc) 0&&(zeroOf P e).any (λz=>Nat.beq z.cells.size (aF tc)))with
  |false=>rw[I]at h;cases h
  | true=>
   rw[I,av]at h;obtain⟨yv,C,Z⟩:=Uv.nZ h;clear h;split at C
   ·cases C
   ·rename_i l2 lT;split at C
    ·cases D:cB l2.length with
     |false=>rw[D]at C;cases C
     | true=>
      rw[D,av]at C;cases O:Nat.blt d N with
      |false=>unfold iU at C;rw[O]at C;cases C
      | true=>
       have E:=C;unfold iU at E;rw[O,av]at E;injection E with E
       refine⟨d,.sl tc 2 false l2,E.symm,.inl rfl,λσ2 T oZ=>?_⟩
       simp only[wO,Y,I,av];refine(T _).trans ((Z.at_ _).trans ?_);simp only[lT,D,av];unfold iU;rw[O,av]
    ·rename_i rr;split at C
     ·rename_i t' o q l hm;split at C
      ·rename_i qk;cases D:(Nat.blt d N&&(Nat.blt rr N || Nat.ble 60000 rr)&&cB (l.length+l2.length))with
       |false=>rw[D]at C;cases C
       | true=>
        rw[D,av]at C;injection C with C
        refine⟨rr,_,C.symm,.inr rfl,λσ2 T oZ=>?_⟩
        simp only[wO,Y,I,av];refine(T _).trans ((Z.at_ _).trans ?_);simp only[lT,oZ rr _ rfl hm,aP qk,D,av]
      ·cases C
     ·cases C
    ·cases C
 ·cases h
def Vl(h:isApp o=true):∃ x y t C,o.op = .call ⟨.builtin .append,⟨[x,y]⟩,⟨[t,C]⟩⟩/\tu t=false/\Nat.beq t C=true/\DT o.dst t x=false:=by
 unfold isApp at h
 grind
def J4{x y:Operand}{t D:TypeId}(E:o.op = .call ⟨.builtin .append,⟨[x,y]⟩,⟨[t,D]⟩⟩)(I:tu t=false)(O:Nat.beq t D=true)(C:DT o.dst t x=false)(σ:S):dR P N Φ σ o some=iO o λd=>wO P N σ d t (aJ σ x) (aJ σ y) some:=by
 unfold dR;rw[show gM o.op=false by rw[E];rfl];simp[jA,E,I,O,av];unfold iO;cases T:o.dst with
 |none=>rfl
 | some d=>
  rw[T]at C;have C:NZ t d x=false:=C;simp_all
theorem amV{U:S}{x:Tmp}{y:Operand}{t Y:TypeId}(C:o.op = .call ⟨.builtin .append,⟨[.tmp x,y]⟩,⟨[t,Y]⟩⟩)(E:tu t=false)(I:Nat.beq t Y=true)(O:DT o.dst t (.tmp x)=false)(hp:∀ n,fK o n=true->p n=true/\pb n=true)(iK:uv p pb (σ.t x))(h:dR P N Φ σ o some=some U):Nonempty (uw P N Φ o p pb σ U):=by
 rw[J4 C E I O]at h;obtain⟨d,T,h⟩:=lE h;obtain⟨r,v,jz,hr,sq⟩:=Oe h;have D:p r=true/\pb r=true:=by
  rcases hr with hr|hr
  ·rw[hr];exact hp d (by unfold fK;rw[T,C];exact Nat.beq_refl d)
  ·exact iK r hr
 refine⟨{ G:=λσ=>(σ.drop r).root r (.sl v),u:=.lf (.own [r]),eq:=by rw[T];exact jz,run:=λσ2 Z hm=>?_,grow:=λσ=>.root r _ D.1 D.2 (.refl σ),set:=λσ e v' hv=>(by rw[S.drop_set r (A.DK hv D.1 D.2)];rfl),bp:=λha=>(by rw[isApp,C]at ha;simp[E,I,O]at ha) }⟩
 rw[J4 C E I O];unfold iO;rw[T];simp only;rw[Z (.tmp x) (by rw[C];simp[Op.operands,Call.operands]),Z y (by rw[C];simp[Op.operands,Call.operands]),sq σ2 (λk=>amz hm _ k) (λr' v' _ h'=>by rw[hm];exact h')];rfl
theorem amW[Inhabited Wd](eF:gL P Φ){ok:Nat->Nat->Bool}{uy oU oV:Nat->Bool}(hX:∀ x,oV x=true->lF p (σ.t x)){ops:Array Oper}{oi D:Oper}{v:A}{τ:S}(hF:oX P ops oi p pb v σ)(ha:oi.apart ops D=true)(O:Calm Φ ok uy oU p pb σ D)(hp:∀ n,fK D n=true->p n=true/\pb n=true)
  (h:dL P N Φ ops (gY σ oi.dst v) D some=some τ):∃ U,dL P N Φ ops σ D some=some U/\τ=gY U oi.dst v/\oX P ops oi p pb v U/\(isApp D=false->∀ t r j,σ.t t = .aL r j->D.dst≠some t->fK D r=false->U.t t = .aL r j)/\
   (∀t,lF p (σ.t t)->(D.dst≠some t\/(yR D=true/\p t=true)\/∃s x f,D.op = .fieldAddr s (.tmp x) f/\oV x=true)->lF p (U.t t))/\
   ∀t,uv p pb (σ.t t)->(D.dst≠some t\/(rj D=true/\p t=true/\pb t=true)\/(isApp D=true\/B4 Φ D=true))->uv p pb (U.t t):=by
 obtain⟨a1,a2,a3⟩:=Oper.apart_spec ha;have Gf:∀ (σ:S) (u:A) t,D.dst≠some t->(gY σ D.dst u).t t=σ.t t:=by
  intro σ u t O;cases T:D.dst with
  |none=>rfl
  |some d=>exact cz _ _ _ (by rintro rfl;exact O T)
 have Gg:∀ U,dL P N Φ ops σ D some=some U->∀ t,yR D=true->D.dst=some t->p t=true->lF p (U.t t):=by
  intro U C t Gg T UM;obtain⟨ty,e,E,Y,h3,_⟩:=ab2 Gg;rw[h3]at T;injection T with T;subst T;obtain⟨x,_,e1,_⟩:=amU E Y h3 C;rw[e1];show lF p (bK _ e (.aL e 0) e);rw[bT];exact UM
 have fin:∀ U,dL P N Φ ops σ D some=some U->(∀ t,D.dst≠some t->lF p (σ.t t)->lF p (U.t t))->∀ t,lF p (σ.t t)->(D.dst≠some t\/(yR D=true/\p t=true)\/∃ s x f,D.op = .fieldAddr s (.tmp x) f/\oV x=true)->lF p (U.t t):=by
  intro U C hk t O Vm;rcases Vm with bQ|⟨E,Y⟩|⟨s,x,f,E,Y⟩
  ·exact hk t bQ O
  ·by_cases T:D.dst=some t
   ·exact Gg U C t E T Y
   ·exact hk t T O
  ·by_cases T:D.dst=some t
   ·unfold dL at C;split at C
    ·unfold dR at C;rw[show gM D.op=true by rw[E];rfl,av]at C;rw[E]at C;simp only[oT]at C;have hx:=hX x Y;have hx:lF p (aJ σ (.tmp x)):=hx;generalize aJ σ (.tmp x)=z at hx C;have key:∀ v,jm N σ D.dst v some=some U->lF p v->lF p (U.t t):=by
      intro v hv hA;obtain⟨I,_⟩:=vB hv;injection I with I;rw[<-I,T];show lF p (bK σ.t t v t);rw[bT];exact hA
     unfold FG at C;split at C
     ·cases C
     ·split at C
      ·split at C
       ·exact key _ C hx
       ·exact key _ C trivial
       ·exact hx.elim
       ·cases C
      ·cases C
    ·obtain⟨I,_⟩:=vB C;injection I with I;rw[<-I,T];show lF p (bK σ.t t .skip t);rw[bT];trivial
    ·cases C
   ·exact hk t T O
 have amX:=O;have ab3:∀ U,dL P N Φ ops σ D some=some U->(∀ t,D.dst≠some t->uv p pb (σ.t t)->uv p pb (U.t t))->∀ t,uv p pb (σ.t t)->(D.dst≠some t\/(rj D=true/\p t=true/\pb t=true)\/(isApp D=true\/B4 Φ D=true))->uv p pb (U.t t):=by
  intro U C hk t O Vm;rcases Vm with bQ|⟨E,Y⟩|amY|Az
  ·exact hk t bQ O
  ·by_cases T:D.dst=some t
   ·cases hw:gQ σ ops D with
    |none=>unfold dL at C;rw[hw]at C;cases C
    | some b=>
     cases b with
     | true=>
      obtain⟨e,x,u,I,g2,g3,g4,g5,_⟩:=Od E hw C;rw[T]at I;injection I with I;subst I;rw[g5];intro r hr;have hr:bK _ t u t = .lf (.own [r]):=hr;rw[bT]at hr;rcases g4 with g4|g4
      ·rw[g4]at hr;cases hr
      ·rw[g4]at hr;injection hr with hr;injection hr with hr;injection hr with hr;subst hr;exact Y
     | false=>
      unfold dL at C;rw[hw]at C;obtain⟨I,_⟩:=vB C;injection I with I;rw[<-I,T];intro r hr;have hr:bK σ.t t .skip t = .lf (.own [r]):=hr;rw[bT]at hr;cases hr
   ·exact hk t T O
  ·by_cases T:D.dst=some t
   ·obtain⟨x,y,t1,t2,I,g2,g3,g4⟩:=Vl amY;have hT:uv p pb (aJ σ x):=by
     rcases amX with q|⟨f,args,lC,c,q1,_⟩|⟨ty,tt,yy,q1,_⟩|⟨x',y',t1',t2',q1,q2,q3,q4⟩
     ·rw[I]at q;cases q
     ·rw[I]at q1;cases q1
     ·rw[I]at q1;cases q1
     ·rw[I]at q1;injection q1 with q1;injection q1 with _ q1 _;injection q1 with q1;injection q1 with q1 _;subst q1;exact q4
    cases hw:gQ σ ops D with
    |none=>unfold dL at C;rw[hw]at C;cases C
    | some b=>
     cases b with
     | true=>
      unfold dL at C;rw[hw]at C;have C:dR P N Φ σ D some=some U:=C;rw[J4 I g2 g3 g4]at C;obtain⟨d,uz,C⟩:=lE C;rw[T]at uz;injection uz with uz;subst uz;obtain⟨r,v,jz,hr,_⟩:=Oe C;rw[jz];intro r' fP;have fP:bK ((σ.drop r).root r (.sl v)).t t (.lf (.own [r])) t = .lf (.own [r']):=fP;rw[bT]at fP;injection fP with fP;injection fP with fP;injection fP with fP;subst fP;rcases hr with hr|hr
      ·rw[hr];exact hp t (by unfold fK;rw[T,I];exact Nat.beq_refl t)
      ·exact hT r hr
     | false=>
      unfold dL at C;rw[hw]at C;obtain⟨I,_⟩:=vB C;injection I with I;rw[<-I,T];intro r hr;have hr:bK σ.t t .skip t = .lf (.own [r]):=hr;rw[bT]at hr;cases hr
   ·exact hk t T O
  ·by_cases T:D.dst=some t
   ·cases hw:gQ σ ops D with
    |none=>unfold dL at C;rw[hw]at C;cases C
    | some b=>
     cases b with
     | true=>
      unfold dL at C;rw[hw]at C;have C:dR P N Φ σ D some=some U:=C;unfold B4 at Az;split at Az
      ·rename_i f args lC ho;split at Az
       ·rename_i c hc;unfold dR at C;rw[show gM D.op=false by rw[ho];rfl,ax]at C;simp only[jA,ho,hc]at C;obtain⟨d,uz,C⟩:=lE C;rw[T]at uz;injection uz with uz;subst uz;obtain⟨res,vg,E,Y,_⟩:=NM (J0 eF hc) F5 C;injection Y with Y;subst Y;have oa:∀ n,1000000000100000+1000*t<=n->p n=true/\pb n=true:=λn hn=>hp n (by unfold fK;rw[T,ho];exact jI hn)
        intro r hr;unfold qp at E;cases res with
        | one q=>
         simp only at E;split at E
         ·rename_i y Z;injection E with E;rw[<-E]at hr;have hr:bK _ t y t=A.lf (Lf.own [r]):=hr;rw[bT]at hr;subst hr;obtain⟨b,vs⟩:=q;cases b with
          |true=>cases Z
          | false=>
           match vs,Z with
           | [v],Z=>
            have Z:some (A.lf (bif v.aI then Lf.v v else Lf.own [1000000000100000+1000*t]))=some (A.lf (Lf.own [r])):=Z;injection Z with Z;injection Z with Z;cases hf:v.aI with
            |true=>rw[hf]at Z;cases Z
            | false=>
             rw[hf]at Z;injection Z with Z;injection Z with Z;subst Z;exact oa _ (dg _)
         ·cases E
        | fX ps=>
         injection E with E;rw[<-E]at hr;have hr:bK _ t _ t=A.lf (Lf.own [r]):=hr;rw[bT]at hr;cases hr
       ·cases Az
      ·cases Az
     | false=>
      unfold dL at C;rw[hw]at C;obtain⟨I,_⟩:=vB C;injection I with I;rw[<-I,T];intro r hr;have hr:bK σ.t t .skip t = .lf (.own [r]):=hr;rw[bT]at hr;cases hr
   ·exact hk t T O
 unfold dL at h;rw[amN a1]at h;split at h
 ·rename_i hw;have amZ:Nonempty (uw P N Φ D p pb (gY σ oi.dst v) τ):=by
   rcases O with O|⟨f,args,lC,c,E,Y,h3,h4,h5⟩|⟨ty,t,y,E,Y,h3,h4⟩|⟨x,y,t1,t2,E,Y,hn,h3⟩
   ·exact amL eF O hp h
   ·refine amR E Y h3 hp ?_ h;rw[J2]
    ·exact h5
    ·intro x hx;refine N7 a1 v ?_;rw[E];simp only[Op.operands,Call.operands];simp only[Array.mem_append]
     first
      |exact .inr (by simpa using hx)
      |exact .inl (by simpa using hx)
   ·refine amT E Y ?_ h;have e1:aJ (gY σ oi.dst v) (.tmp t)=aJ σ (.tmp t):=N7 a1 v (by rw[E];simp[Op.operands]);have e1:(gY σ oi.dst v).t t=σ.t t:=e1;rw[e1];exact h4
   ·refine amV E hn.1 hn.2.1 hn.2.2 hp ?_ h;have e1:aJ (gY σ oi.dst v) (.tmp x)=aJ σ (.tmp x):=N7 a1 v (by rw[E];simp[Op.operands,Call.operands]);have e1:(gY σ oi.dst v).t x=σ.t x:=e1;rw[e1];exact h3
  obtain⟨G,u,e,hr,hg,hs,Vn⟩:=amZ;have uA:dL P N Φ ops σ D some=some (gY (G σ) D.dst u):=by
   unfold dL;rw[hw];exact hr σ (λx hx=>(N7 a1 v hx).symm) (amM _ _).symm
  refine⟨gY (G σ) D.dst u,uA,?_,(hF.grow (hg σ)).put a3,λlW t r j O bQ oa=>?_,fin _ uA λt bQ O=>?_,ab3 _ uA λt bQ O=>?_⟩
  ·refine e.trans ?_;have:∀ dst,G (gY σ dst v)=gY (G σ) dst v:=by
    intro dst;cases dst with
    |none=>rfl
    |some d=>exact hs σ d v hF.nr
   rw[this];exact abW _ _ a2
  ·rw[Gf _ _ t bQ];exact Vn lW σ t r j O oa
  ·rw[Gf _ _ t bQ];exact(hg σ).st O
  ·rw[Gf _ _ t bQ];exact(hg σ).tg O
 ·rename_i hw;obtain⟨E,Y⟩:=vB h;injection E with E;have uA:dL P N Φ ops σ D some=some (gY σ D.dst .skip):=by
   unfold dL;rw[hw];exact(Y σ).at_ _
  exact⟨gY σ D.dst .skip,uA,by rw[<-E];exact abW _ _ a2,hF.put a3,λ_ t r j O bQ _=>(by rw[Gf _ _ t bQ];exact O),fin _ uA λt bQ O=>(by rw[Gf _ _ t bQ];exact O),ab3 _ uA λt bQ O=>(by rw[Gf _ _ t bQ];exact O)⟩
 ·cases h
def Any(P:Program)(N:Nat)(Φ:fo)(ops:Array Oper)(K:S->Prop):Nat->Nat->S->Prop
 |0,L,σ=>(∀j,oc ops L j=false)/\K σ
 |f+1,L,σ=>((∀j,oc ops L j=false)->K σ)/\∀j,oc ops L j=true->∃o C,ops[j]?=some o/\dL P N Φ ops σ o some=some C/\Any P N Φ ops K f (L |||2 ^ j) C
def B6(L i j:Nat):(L ||| 2 ^ i).testBit j=(L.testBit j || decide (i=j)):=by
 rw[Nat.testBit_or,Nat.testBit_two_pow]
def J5{ops:Array Oper}{L j:Nat}:oc ops L j=true ↔ L.testBit j=false /\ ∃ o,ops[j]?=some o /\ ∀ e∈o.after,Region.binds .any e=true -> L.testBit e.on=true:=by
 unfold oc
 grind
def Vo{ops:Array Oper}{L i j:Nat}(h:oc ops L j=true)(C:j≠i):oc ops (L ||| 2 ^ i) j=true:=by
 rw[J5]at h ⊢
 grind
def oX.step{ops:Array Oper}{C:Oper}{v:A}(I:oX P ops C p pb v σ)(O:∀ σ:S,jm N σ C.dst v some=some (gY σ C.dst v)):dL P N Φ ops σ C some=some (gY σ C.dst v):=by
 unfold dL;rcases I with ⟨D,E,T,_,_,_⟩|⟨D,E⟩
 ·rw[D];unfold dR;rw[E,av];exact(T.at_ _).trans (O σ)
 ·simp_all
def Vp{K:S -> Prop}{ops:Array Oper}{i W:Nat}{U:Oper}(hi:ops[i]?=some U)(hW:∀ j C,ops[j]?=some C -> W.testBit j=true -> ∃ e∈C.after,Region.binds .any e=true/\(e.on=i \/ W.testBit e.on=true))(E:S -> S)(I:Nat -> S -> Prop)
  (r1:∀L σ,I L σ -> dL P N Φ ops σ U some=some (E σ))
  (r2:∀L σ j C Y,I L σ -> ops[j]?=some C -> j≠i -> L.testBit j=false -> W.testBit j=false -> dL P N Φ ops (E σ) C some=some Y -> ∃O,dL P N Φ ops σ C some=some O/\Y=E O/\I (L |||2 ^ j) O):
  ∀(f L:Nat) (σ:S),(∀j,W.testBit j=true -> L.testBit j=false) -> oc ops L i=true -> I L σ -> Any P N Φ ops K f (L |||2 ^ i) (E σ) -> Any P N Φ ops K (f+1) L σ:=by
 intro f
 induction f with
 | zero=>
  intro L σ yS T Z H
  refine⟨λh=>absurd (h i) (by rw[T];simp),λj hj=>?_⟩
  by_cases D:j=i
  ·subst D;exact⟨U,_,hi,r1 L σ Z,H⟩
  ·have:=Vo hj D;rw[H.1]at this;cases this
 | succ f ih=>
  intro L σ yS T Z H
  refine⟨λh=>absurd (h i) (by rw[T];simp),λj hj=>?_⟩
  by_cases D:j=i
  ·subst D;exact⟨U,_,hi,r1 L σ Z,H⟩
  ·obtain⟨C,Y,AA,jz,H'⟩:=H.2 j (Vo hj D);obtain⟨Gh,oj',Of,sq⟩:=J5.1 hj;rw[AA]at Of;injection Of with Of;subst Of;have B7:W.testBit j=false:=by
    cases B7:W.testBit j with
    |false=>rfl
    | true=>
     obtain⟨e,he,hb,kK⟩:=hW j C AA B7;have h1:=sq e he hb;rcases kK with kK|kK
     ·rw[kK,(J5.1 T).1]at h1;cases h1
     ·rw[yS _ kK]at h1;cases h1
   obtain⟨O,hs,B8,hI'⟩:=r2 L σ j C Y Z AA D Gh B7 jz
   refine⟨C,O,AA,hs,ih (L |||2 ^ j) O (λk hk=>?_) (Vo T (Ne.symm D)) hI' ?_⟩
   ·grind
   ·rw[<- B8]
    grind
theorem am0[Inhabited Wd](eF:gL P Φ){ok:Nat -> Nat -> Bool}{uy oU oV:Nat -> Bool}{K:S -> Prop}{ops:Array Oper}{i W:Nat}{I:Oper}{v:A}(hi:ops[i]?=some I)(hN:∀ σ:S,jm N σ I.dst v some=some (gY σ I.dst v))
  (hW:∀j C,ops[j]?=some C -> W.testBit j=true -> ∃e∈C.after,Region.binds .any e=true/\(e.on=i \/ W.testBit e.on=true)) (f L:Nat) (σ:S)
  (kS:∀t r,ok t r=true -> ∀j C,ops[j]?=some C -> j≠i -> L.testBit j=false -> W.testBit j=false -> C.dst≠some t/\fK C r=false/\isApp C=false)
  (Og:∀x,oV x=true -> ∀j C,ops[j]?=some C -> j≠i -> L.testBit j=false -> W.testBit j=false -> C.dst≠some x) (hX:∀x,oV x=true -> lF p (σ.t x))
  (Oh:∀t,uy t=true -> ∀j C,ops[j]?=some C -> j≠i -> L.testBit j=false -> W.testBit j=false -> C.dst≠some t \/ (yR C=true/\p t=true) \/ ∃s x f,C.op = .fieldAddr s (.tmp x) f/\oV x=true)
  (Oi:∀t,oU t=true -> ∀j C,ops[j]?=some C -> j≠i -> L.testBit j=false -> W.testBit j=false -> C.dst≠some t \/ (rj C=true/\p t=true/\pb t=true) \/ (isApp C=true \/ B4 Φ C=true))
  (DX:∀j C,ops[j]?=some C -> j≠i -> L.testBit j=false -> W.testBit j=false -> I.apart ops C=true/\Calm Φ ok uy oU p pb σ C /\ ∀n,fK C n=true -> p n=true/\pb n=true)
  (yS:∀j,W.testBit j=true -> L.testBit j=false) (hr:oc ops L i=true) (hF:oX P ops I p pb v σ) (H:Any P N Φ ops K f (L |||2 ^ i) (gY σ I.dst v)):Any P N Φ ops K (f+1) L σ:=by
 refine Vp hi hW (λσ=>gY σ I.dst v)
  (λL σ=>oX P ops I p pb v σ/\(∀ t r,ok t r=true -> ∀ j C,ops[j]?=some C -> j≠i -> L.testBit j=false -> W.testBit j=false -> C.dst≠some t/\fK C r=false/\isApp C=false) /\
   ((∀x,oV x=true -> ∀j C,ops[j]?=some C -> j≠i -> L.testBit j=false -> W.testBit j=false -> C.dst≠some x) /\ ∀x,oV x=true -> lF p (σ.t x)) /\
   (∀t,uy t=true -> ∀j C,ops[j]?=some C -> j≠i -> L.testBit j=false -> W.testBit j=false -> C.dst≠some t \/ (yR C=true/\p t=true) \/ ∃s x f,C.op = .fieldAddr s (.tmp x) f/\oV x=true) /\
   (∀t,oU t=true -> ∀j C,ops[j]?=some C -> j≠i -> L.testBit j=false -> W.testBit j=false -> C.dst≠some t \/ (rj C=true/\p t=true/\pb t=true) \/ (isApp C=true \/ B4 Φ C=true)) /\
   ∀j C,ops[j]?=some C -> j≠i -> L.testBit j=false -> W.testBit j=false -> I.apart ops C=true/\Calm Φ ok uy oU p pb σ C /\ ∀n,fK C n=true -> p n=true/\pb n=true)
  (λL σ h=>h.1.step hN) (λL σ j C τ h AA J6 Gh B7 jz=>?_) f L σ yS hr ⟨hF,kS,⟨Og,hX⟩,Oh,Oi,DX⟩ H
 obtain⟨hF,kS,⟨Og,hX⟩,Oh,Oi,DX⟩:=h;obtain⟨c1,c2,c3⟩:=DX j C AA J6 Gh B7;obtain⟨di,hs,B8,hF',UH,iK,hta⟩:=amW (oV:=oV) eF hX hF c1 c2 c3 jz;have Z:∀ k,(L ||| 2 ^ j).testBit k=false -> L.testBit k=false:=by
  intro k D;rw[B6,qM]at D;exact D.1
 refine⟨di,hs,B8,hF',λt r E k O D T U Y=>kS t r E k O D T (Z k U) Y,⟨λx hx k O D T U Y=>Og x hx k O D T (Z k U) Y,λx hx=>iK x (hX x hx) (.inl (Og x hx j C AA J6 Gh B7))⟩,λt E k O D T U Y=>Oh t E k O D T (Z k U) Y,λt E k O D T U Y=>Oi t E k O D T (Z k U) Y,λk O D T U Y=>?_⟩
 obtain⟨d1,d2,d3⟩:=DX k O D T (Z k U) Y
 refine⟨d1,d2.kF (λt r j' E h=>?_) (λt h E=>iK t E (Oh t h j C AA J6 Gh B7)) (λt h E=>hta t E (Oi t h j C AA J6 Gh B7)),d3⟩
 grind
def A.Vq(y:A)(a b:Nat):(y.drop a).drop b=(y.drop b).drop a:=A.rT y _ _
def aU.Vq(y:aU)(a b:Nat):(y.drop a).drop b=(y.drop b).drop a:=aU.rT y _ _
def oY.drop(h:oY e u){n:Nat}(C:e≠n):u.drop n=u:=by
 rcases h with rfl|rfl
 ·simp only[A.drop,rU C,ax,A.cy,zU]
 ·have:cV n [e]=false:=by simp[cV,C]
  simp only[A.drop,Lf.drop,this,ax,A.cy,zU,Lf.cy]
def oY.dD(h:oY e u){ns cn:aa Nat}(D:dm e ns=false)(C:dm e cn=false):u.dD ns cn=u:=by
 rcases h with rfl|rfl
 ·simp only[A.dD,C,ax,A.cy,yK]
 ·have E:gP [e] ns=false:=D;have I:gP [e] cn=false:=C;simp only[A.dD,Lf.dD,E,I,A.cy,yK,Lf.cy];rfl
def uC(k:Nat):(cF e x u σ).t k=if k=e then u else (σ.t k).drop e:=by
 by_cases C:k=e
 ·subst C;rw[aV rfl];exact bT _ _ _
 ·rw[aX C];exact cz _ _ _ C
def sr(n:Nat):(cF e x u σ).m n=if n=e then some x else (σ.m n).map (aU.drop e):=by
 show bK (λr=>bif Nat.beq r e then none else (σ.m r).map (aU.drop e)) e (some x) n=_;by_cases C:n=e
 ·subst C;rw[aV rfl,bT]
 ·rw[aX C,cz _ _ _ C,rU C];rfl
def Vr(c:Nat)(y:aU)(k:Nat):((σ.drop c).root c y).t k=(σ.t k).drop c:=rfl
def ab4(c:Nat)(y:aU)(n:Nat):((σ.drop c).root c y).m n=if n=c then some y else (σ.m n).map (aU.drop c):=by
 show bK (λr=>bif Nat.beq r c then none else (σ.m r).map (aU.drop c)) c (some y) n=_;by_cases C:n=c
 ·subst C;rw[aV rfl,bT]
 ·rw[aX C,cz _ _ _ C,rU C];rfl
def ab5{c:Nat}(z:V)(I:lY x)(O:oY e u)(T:e≠c):((cF e x u σ).drop c).root c (.sl z)=cF e x u ((σ.drop c).root c (.sl z)):=by
 refine S.ext' (λk=>?_) λn=>?_
 ·rw[Vr,uC,uC,Vr];by_cases C:k=e
  ·rw[aV C,aV C];exact O.drop T
  ·rw[aX C,aX C];exact A.rT _ _ _
 ·rw[ab4,sr,sr,ab4];by_cases D:n=c
  ·rw[aV D,aX,aV D];rfl
  ·rw[aX D];by_cases E:n=e
   ·rw[aV E,aV E];simp only[Option.map_some,I.drop]
   ·rw[aX E,aX E,aX D,Option.map_map,Option.map_map];congr 1;funext y;exact aU.rT y _ _
def Oj(C:lY x)(D:oY e u):∀ (xs:aa V) (c:Nat) (σ:S),e<c -> oQ c (cF e x u σ) xs=cF e x u (oQ c σ xs)
 |[],c,σ,_=>rfl
 | y :: xs,c,σ,h=>by
  simp[oQ];cases E:y.aI with
  |true=>exact Oj C D xs _ σ (by omega)
  | false=>
   rw[ab5 y C D (by omega)];exact Oj C D xs _ _ (by omega)
def ab6(C:lY x)(D:oY e u):∀ (ps:aa Pt) (c:Nat) (σ:S),e<c -> qX c (cF e x u σ) ps=cF e x u (qX c σ ps)
 |[],c,σ,_=>rfl
 | q :: ps,c,σ,h=>by
  simp[qX];rw[Oj C D _ _ _ h];exact ab6 C D ps _ _ (by omega)
def Ok{v:A}(D:d≠e)(E:v.drop e=v):(cF e x u σ).set d v=cF e x u (σ.set d v):=by
 refine S.ext' (λk=>?_) λn=>?_
 ·show bK (cF e x u σ).t d v k=_;rw[uC];show _=if k=e then u else (bK σ.t d v k).drop e;by_cases C:k=d
  ·subst C;rw[bT,aX D,bT,E]
  ·rw[cz _ _ _ C,cz _ _ _ C,uC]
 ·rfl
def am1{v:A}{C:ah Tmp}(D:C≠some e)(E:v.drop e=v):gY (cF e x u σ) C v=cF e x u (gY σ C v):=by
 cases C with
 |none=>rfl
 |some d=>exact Ok (by rintro rfl;exact D rfl) E
def am2{ns cn:aa Nat}{nr:aa (Nat×aU)}(T:lY x)(U:oY e u)(E:dm e ns=false)(I:dm e cn=false)(O:∀ q∈nr,q.1≠e/\q.2.drop e=q.2):(cF e x u σ).dD ns cn nr=cF e x u (σ.dD ns cn nr):=by
 have hl:nr.lookup e=none:=by
  cases hl:nr.lookup e with
  |none=>rfl
  |some y=>exact absurd rfl (O _ (Oa hl)).1
 refine S.ext' (λk=>?_) λn=>?_
 ·show ((cF e x u σ).t k).dD ns cn=_;rw[uC,uC];by_cases C:k=e
  ·rw[aV C,aV C];exact U.dD E I
  ·rw[aX C,aX C];exact A.rT _ _ _
 ·rw[sr];show (match nr.lookup n with | some x=>some x | none=>bif dm n ns || dm n cn then none else ((cF e x u σ).m n).map (aU.dD ns cn))=if n=e then some x else (match nr.lookup n with | some x=>some x | none=>bif dm n ns || dm n cn then none else (σ.m n).map (aU.dD ns cn)).map (aU.drop e);by_cases D:n=e
  ·subst D;rw[aV rfl,hl,E,I];simp only[Bool.or_false,ax,sr,if_true,Option.map_some,T.dD]
  ·rw[aX D];cases Y:nr.lookup n with
   |some y=>simp only[Option.map_some];rw[(O _ (Oa Y)).2]
   | none=>
    simp only;cases (dm n ns ||dm n cn)with
    |true=>rfl
    | false=>
     simp only[ax];rw[sr,aX D,Option.map_map,Option.map_map];congr 1;funext y;exact aU.rT y _ _
/-! What a call reads. -/
def ab7{q:aa Nat}{k:V->ah X}(h:cV e q=false):kI (cF e x u σ).m q k=kI σ.m q k:=amF q k h
def AB{y:Operand}(h:(aJ σ y).nr p=true)(C:p e=true)(D:y ≠ .tmp e):aJ (cF e x u σ) y=aJ σ y:=by
 cases y with
 | tmp t=>
  show (cF e x u σ).t t=σ.t t;rw[uC,aX (by rintro rfl;exact D rfl)];exact A.BY h C
 |_=>rfl
def Vs{l:Lf}{k:V->ah X}(h:l.nr p=true)(C:p e=true):rX (cF e x u σ) l k=rX σ l k:=by
 cases l with
 |own q=>exact ab7 (abp h C)
 |_=>rfl
def ab8{q:aa Nat}{s i j:Nat}{k:V->ah X}(h:ri p q=true)(C:p e=true):yA (cF e x u σ) q s i j k=yA σ q s i j k:=by
 unfold yA;exact ab7 (abp h C)
def am3{y:A}{k:V->ah X}(h:y.nr p=true)(C:p e=true):ve (cF e x u σ) y k=ve σ y k:=by
 cases y with
 |lf l=>exact Vs h C
 |view q s i j=>exact ab8 h C
 |_=>rfl
def Vt(C:p e=true):∀ (xs:aa Lf) (k:aa V -> ah X),xs.all (Lf.nr p)=true -> ue (cF e x u σ) xs k=ue σ xs k
 |[],k,_=>rfl
 | y :: xs,k,h=>by
  rw[List.all_cons,aH]at h;simp[ue,Vs h.1 C];congr 1;funext z;exact Vt C xs _ h.2
def am4{y:A}{k:Pt->ah X}(h:y.nr p=true)(C:p e=true):qV (cF e x u σ) y k=qV σ y k:=by
 cases y with
 |lf l=>simp only[qV];exact Vt C _ _ (by rw[List.all_cons,show l.nr p=true from h];rfl)
 |agg cs=>simp only[qV];exact Vt C _ _ h
 |view q s i j=>simp only[qV];exact ab8 h C
 |kG cs=>cases cs<;>rfl
 |_=>rfl
def ab9(C:p e=true):∀ (xs:aa Operand) (k:aa Pt->ah X),(∀ y∈xs,(aJ σ y).nr p=true/\y ≠ .tmp e)->vk (cF e x u σ) xs k=vk σ xs k
 |[],k,_=>rfl
 | y :: xs,k,h=>by
  obtain⟨D,E⟩:=h y (.head _);unfold vk yH;rw[AB D C E,am4 D C];congr 1;funext z;exact ab9 C xs _ (λy I=>h y (.tail _ I))
def Vu{ns:aa Nat}(C:p e=true):∀ (xs:aa Lf) (k:aa V -> ah X),xs.all (Lf.nr p)=true -> vo (cF e x u σ) ns xs k=vo σ ns xs k
 |[],k,_=>rfl
 | y :: xs,k,h=>by
  rw[List.all_cons,aH]at h;simp[vo,Vs h.1 C];congr 2;funext z;exact Vu C xs _ h.2
def acd{d:Nat}:∀ (xs:aa Lf),uc (xs.map (Lf.drop d))=uc xs
 |[]=>rfl
 | x :: xs=>by
  have C:(x.drop d).pl=x.pl:=by
   cases x with
   | own k=>
    show (bif cV d k then _ else Lf.own k).pl=_;cases cV d k<;>rfl
   |_=>rfl
  simp[List.map_cons,uc,C,acd]
def am5{ns:aa Nat}{y:A}{k:Pt->ah X}(h:y.nr p=true)(C:p e=true):um (cF e x u σ) ns y k=um σ ns y k:=by
 cases y with
 |lf l=>simp only[um];exact Vu C _ _ (by rw[List.all_cons,show l.nr p=true from h];rfl)
 |agg cs=>simp only[um];exact Vu C _ _ h
 |qf f cs=>cases cs<;>rfl
 | fn f cap=>
  match cap,h with
  |[],_=>rfl
  |_::_::_,_=>rfl
  | [(r',j)],h=>
   have D:p r'=false:=by simpa [A.nr,A.fr,xl]using h
   have E:r'≠e:=by rintro rfl;rw[C]at D;cases D
   simp only[um,sr,aX E];cases σ.m r' with
   |none=>rfl
   | some z=>
    cases z with
    |aD cs=>simp only[Option.map_some,aU.JY,<-List.map_drop,acd]
    |_=>rfl
 |_=>rfl
def am6{l:Lf}(h:l.nr p=true)(C:p e=true):yL (cF e x u σ).m l=yL σ.m l:=by
 cases l with
 | own k=>
  match k with
  |[]=>rfl
  | [q]=>
   have D:q≠e:=by
    have h:(!p q)=true:=by simpa [Lf.nr,Lf.fr,ri,jX]using h
    rintro rfl;rw[C]at h;cases h
   simp only[yL];rw[sr,aX D];cases σ.m q with
   |none=>rfl
   |some y=>cases y<;>rfl
  |_::_::_=>rfl
 |v x=>rfl
 |dead=>rfl
def ace(D:p e=true):∀ (C:aa Lf),C.all (Lf.nr p)=true -> uk (cF e x u σ).m C=uk σ.m C
 |[],_=>rfl
 | l :: C,h=>by
  rw[List.all_cons,aH]at h;simp[uk,am6 h.1 D,ace D C h.2]
def acf{m:Nat->ah aU}:∀ {cs:aa Lf} {E:aa (V×ah Nat)},uk m cs=some E->cs.all (Lf.nr p)=true->∀ v∈E,∀ q,v.2=some q->p q=false
 |[],E,h,_=>by injection h with h;subst h;simp
 | c :: cs,E,h,I=>by
  rw[List.all_cons,aH]at I;unfold uk at h;split at h
  ·rename_i v Y C T;injection h with h;subst h;intro u hu q D;rcases ig.1 hu with rfl | hu
   ·unfold yL at C;split at C
    ·injection C with C;rw[<-C]at D;cases D
    ·rename_i Z;split at C
     ·rename_i y _;cases O:y.aI with
      |true=>rw[O]at C;injection C with C;rw[<-C]at D;cases D
      | false=>
       rw[O,ax]at C;injection C with C;rw[<-C]at D;injection D with D;subst D;have U:=I.1
       simpa [Lf.nr,Lf.fr,ri,jX]using U
     ·cases C
    ·cases C
   ·exact acf T I.2 u hu q D
  ·cases h
def Ol(p:Nat->Bool):Mu->Prop
 |.aD r cs C=>p r=false/\cs.all (Lf.nr p)=true/\∀v∈C,∀q,v.2=some q->p q=false
 |.sl q _=>p q=false
def Vv(I:p e=true):∀ (ps:aa PK) (xs:aa Operand) (O:aa Mu),(∀ y∈xs,(aJ σ y).nr p=true/\y ≠ .tmp e)->(∀ n∈jO σ ps xs,Ax σ p n=true)->kQ σ ps xs=some O->kQ (cF e x u σ) ps xs=some O/\∀ C∈O,Ol p C
 |[],[],O,_,_,h=>⟨h,by injection h with h;subst h;simp⟩
 |[],_::_,O,_,_,h=>by cases h
 |_::_,[],O,_,_,h=>by cases h
 | q :: ps,y :: xs,O,hy,hl,h=>by
  obtain⟨E,h2⟩:=hy y (.head _);have yE:∀ n∈jO σ ps xs,Ax σ p n=true:=by
   intro n Y;refine hl n ?_;cases q with
   |v=>exact Y
   |s=>exact Y
   | p t g off=>
    simp only[jO];split
    ·exact .tail _ Y
    ·exact Y
  unfold kQ at h;have D:∀ z,yM σ q (aJ σ y)=some z->yM (cF e x u σ) q (aJ (cF e x u σ) y)=some z/\∀ C,z=some C->Ol p C:=by
   intro z hz;rw[AB E I h2];have T:=yN hz;cases q with
   | v=>
    cases z with
    |some C=>exact T.elim
    |none=>exact⟨hz,by simp⟩
   | p t g off=>
    cases z with
    |none=>exact T.elim
    | some C=>
     cases C with
     |sl=>exact T.elim
     | aD r' cs vs=>
      obtain⟨U,hm,hg,hlen⟩:=T;have fP:p r'=false:=by
       rw[U]at E;have E:(!p r')=true:=E
       simpa using E
      have bQ:r'≠e:=by rintro rfl;rw[I]at fP;cases fP
      have Z:cs.all (Lf.nr p)=true:=by
       have:=hl r' (by simp only[jO,U];exact .head _);unfold Ax at this;rw[hm]at this;exact this
      have s7:(cF e x u σ).m r'=some (.aD cs):=by
       rw[sr,aX bQ,hm];simp only[Option.map_some,aU.JY,tY.BY Z I]
      refine⟨?_,λC D=>?_⟩
      ·rw[U];simp only[yM,Nat.beq_refl,av,s7,ace I cs Z,hg];have:Nat.blt cs.length 999=true:=jI hlen;rw[this];rfl
      ·injection D with D;subst D;exact⟨fP,Z,acf hg Z⟩
   | s t g=>
    cases z with
    |none=>exact T.elim
    | some C=>
     cases C with
     |aD=>exact T.elim
     | sl q y0=>
      obtain⟨U,hm,hf⟩:=T;have hq:p q=false:=by
       rw[U]at E;have E:(!p q)=true:=by simpa [A.nr,A.fr,xl,Lf.nr,Lf.fr,ri,jX]using E
       simpa using E
      have bQ:q≠e:=by rintro rfl;rw[I]at hq;cases hq
      refine⟨?_,λC D=>?_⟩
      ·rw[U];simp only[yM];rw[sr,aX bQ,hm];simp only[Option.map_some,aU.drop,hf,ax,aU.cy]
      ·injection D with D;subst D;exact hq
  split at h
  ·rename_i C NW k1 k2;injection h with h;subst h;obtain⟨g1,g2⟩:=D _ k1;obtain⟨f1,f2⟩:=Vv I ps xs NW (λy h=>hy y (.tail _ h)) yE k2
   refine⟨by simp only[kQ,g1,f1],λm hm=>?_⟩
   rcases ig.1 hm with rfl|hm
   ·exact g2 _ rfl
   ·exact f2 m hm
  next NW k1 k2=>injection h with h;subst h;obtain⟨g1,g2⟩:=D _ k1;obtain⟨f1,f2⟩:=Vv I ps xs NW (λy h=>hy y (.tail _ h)) yE k2;exact⟨by simp only[kQ,g1,f1],f2⟩
  ·cases h
def Om(D:p e=true)(ns:aa Nat):∀ (ps:aa PK) (xs:aa Operand) (C:aa Mu) (k:ni ps->ah X),(∀ y∈xs,(aJ σ y).nr p=true/\y ≠ .tmp e)->kR (cF e x u σ) ns ps xs C k=kR σ ns ps xs C k
 |[],[],[],k,_=>rfl
 | .v b t :: ps,y :: xs,C,k,h=>by
  obtain⟨I,O⟩:=h y (.head _);simp only[kR];rw[AB I D O,am5 I D];congr 1;funext z;congr 1;split
  ·exact Om D ns ps xs C _ (λy E=>h y (.tail _ E))
  ·rfl
 | .p t g off :: ps,y :: xs,.aD r' cs T :: C,k,h=>by
  simp only[kR];split
  ·exact Om D ns ps xs C _ (λy E=>h y (.tail _ E))
  ·rfl
 | .s t g :: ps,y :: xs,.sl q U :: C,k,h=>by
  simp only[kR];split
  ·exact Om D ns ps xs C _ (λy E=>h y (.tail _ E))
  ·rfl
 |[],[],_::_,k,_=>rfl
 |[],_::_,_,k,_=>rfl
 |.v _ _::_,[],_,k,_=>rfl
 |.p _ _ _::_,[],_,k,_=>rfl
 |.s _ _::_,[],_,k,_=>rfl
 |.p _ _ _::_,_::_,[],k,_=>rfl
 |.s _ _::_,_::_,[],k,_=>rfl
 |.p _ _ _::_,_::_,.sl _ _::_,k,_=>rfl
 |.s _ _::_,_::_,.aD _ _ _::_,k,_=>rfl
def Vw{i:Nat}:∀ (C:aa (V×ah Nat)) (j:Nat),(∀ v∈C,∀ q,v.2=some q -> p q=false) -> ∀ u∈FW i j C,p u.1=false
 |[],_,_,u,hu=>by cases hu
 |(y,none)::C,j,h,u,hu=>Vw C (j+1) (λv D=>h v (.tail _ D)) u hu
 | (y,some q) :: C,j,h,u,hu=>by
  rcases ig.1 hu with rfl|hu
  ·simp_all
  ·exact Vw C (j+1) (λv D=>h v (.tail _ D)) u hu
def Vx:∀ (C:aa Mu) (i:Nat),(∀ E∈C,Ol p E) -> ∀ u∈nj i C,p u.1=false
 |[],_,_,u,hu=>by cases hu
 | .aD r' cs I :: C,i,h,u,hu=>by
  obtain⟨O,U,T⟩:=h _ (.head _);rcases ig.1 hu with rfl|hu
  ·exact O
  ·rcases gE.1 hu with hu | hu
   ·exact Vw I 0 T u hu
   ·exact Vx C _ (λm D=>h m (.tail _ D)) u hu
 | .sl q y :: C,i,h,u,hu=>by
  rcases ig.1 hu with rfl|hu
  ·exact h _ (.head _)
  ·exact Vx C (i+1) (λm D=>h m (.tail _ D)) u hu
def Vy{c0:Nat}(E:∀ n,c0 <= n -> p n=false):∀ (C:aa (V×ah Nat)) (n:Nat),(∀ v∈C,∀ q,v.2=some q -> p q=false) -> ∀ u∈oS c0 n C,p u=false
 |[],_,_,u,hu=>by cases hu
 | (y,none) :: C,n,h,u,hu=>by
  rcases ig.1 hu with rfl|hu
  ·simp_all
  ·exact Vy E C (n+1) (λv D=>h v (.tail _ D)) u hu
 | (y,some q) :: C,n,h,u,hu=>by
  rcases ig.1 hu with rfl|hu
  ·simp_all
  ·exact Vy E C (n+1) (λv D=>h v (.tail _ D)) u hu
def Vz:∀ (C:aa Nat) (xs:aa V),∀ u∈yO C xs,u∈C
 |[],[],u,hu=>by cases hu
 | n :: C,y :: xs,u,hu=>by
  simp[yO]at hu;cases D:y.aI with
  |true=>rw[D]at hu;exact .tail _ (Vz C xs u hu)
  | false=>
   rw[D]at hu;rcases ig.1 hu with rfl|hu
   ·simp_all
   ·exact .tail _ (Vz C xs u hu)
def acg{ns cn:aa Nat}:∀ (C:aa Nat) (D:aa Lf) (xs:aa V),(∀ n∈C,p n=false)->D.all (Lf.nr p)=true->(sg ns cn C D xs).all (Lf.nr p)=true
 |[],_,_,_,_=>by simp[sg]
 |_::_,[],_,_,_=>by simp[sg]
 |_::_,_::_,[],_,_=>by simp[sg]
 | n :: C,l :: D,y :: xs,I,E=>by
  rw[List.all_cons,aH]at E;simp only[sg,List.all_cons,aH]
  refine⟨?_,acg C D xs (λn O=>I n (.tail _ O)) E.2⟩
  cases y.plain with
  |true=>rfl
  | false=>
   simp only[ax];cases y.aI with
   | true=>
    simp only[av];cases l with
    | own k=>
     have T:Lf.dD ns cn (.own k)=(bif gP k cn ||(gP k ns && !(Nat.beq k.length 1))then .dead else .own k):=rfl;rw[T];cases (gP k cn ||(gP k ns && !(Nat.beq k.length 1)))with
     |true=>rfl
     |false=>exact E.1
    |v x=>rfl
    |dead=>rfl
   | false=>
    show (!p n)=true;rw[I n (.head _)];rfl
def VA:∀ (C:aa Nat) (xs:aa V),∀ u∈xg C xs,u.1∈C /\ ∃ y,u.2 = .sl y
 |[],[],u,hu=>by cases hu
 |[],_::_,u,hu=>by cases hu
 | n :: C,y :: xs,u,hu=>by
  simp[xg]at hu;cases I:y.aI with
  |true=>rw[I]at hu;obtain⟨D,E⟩:=VA C xs u hu;exact⟨.tail _ D,E⟩
  | false=>
   rw[I]at hu;rcases ig.1 hu with rfl|hu
   ·simp_all
   ·obtain⟨D,E⟩:=VA C xs u hu;exact⟨.tail _ D,E⟩
def VB{c0:Nat}{ns cn:aa Nat}(E:p e=true)(T:∀ n,c0<=n->p n=false):∀ (D:aa Mu) (outs:aa In) (C:Nat),(∀ mu∈D,Ol p mu)->(∀ u∈qv c0 C D outs,p u=false)/\∀ u∈nq ns cn c0 C D outs,u.1≠e/\u.2.drop e=u.2
 |[],outs,C,_=>⟨(λu hu=>by simp[qv]at hu),(λu hu=>by simp[nq]at hu)⟩
 |.aD _ _ _::_,[],C,_=>⟨(λu hu=>by cases hu),(λu hu=>by cases hu)⟩
 |.sl _ _::_,[],C,_=>⟨(λu hu=>by cases hu),(λu hu=>by cases hu)⟩
 |.aD _ _ _::_,.sl _::_,C,_=>⟨(λu hu=>by cases hu),(λu hu=>by cases hu)⟩
 |.sl _ _::_,.aD _::_,C,_=>⟨(λu hu=>by cases hu),(λu hu=>by cases hu)⟩
 | .aD r' cs vs :: D,.aD xs :: outs,C,h=>by
  obtain⟨I,h2,h3⟩:=h _ (.head _);obtain⟨U,O⟩:=VB (ns:=ns) (cn:=cn) E T D outs (C+1+vs.length) (λm Y=>h m (.tail _ Y));have bQ:∀n,p n=false->n≠e:=by rintro n hn rfl;rw[E]at hn;cases hn
  have Z:=Vy T vs (C+1) h3
  refine⟨λu hu=>?_,λu hu=>?_⟩
  ·simp only[qv]at hu;rcases gE.1 hu with hu | hu
   ·exact Z u (Vz _ _ u hu)
   ·exact U u hu
  ·simp only[nq]at hu;rcases ig.1 hu with rfl | hu
   ·refine⟨bQ _ I,?_⟩;rw[aU.JY,tY.BY (acg _ _ _ Z h2) E]
   ·rcases gE.1 hu with hu | hu
    ·obtain⟨g1,y,g2⟩:=VA _ _ u hu;exact⟨bQ _ (Z _ g1),by rw[g2];rfl⟩
    ·exact O u hu
 | .sl q y :: D,.sl y' :: outs,C,h=>by
  have I:p q=false:=h _ (.head _);obtain⟨U,O⟩:=VB (ns:=ns) (cn:=cn) E T D outs (C+1) (λm Y=>h m (.tail _ Y))
  refine⟨λu hu=>U u (by simpa [qv]using hu),λu hu=>?_⟩
  simp only[nq]at hu;cases hy:y'.lP with
  |false=>rw[hy]at hu;exact O u hu
  |true=>
  rw[hy]at hu;rcases ig.1 hu with rfl|hu
  ·exact⟨(by rintro rfl;rw[E]at I;cases I),rfl⟩
  ·exact O u hu
def VC:∀ (xs:aa V) (c:Nat),e<c->(qW c xs).map (Lf.drop e)=qW c xs
 |[],_,_=>rfl
 | y :: xs,c,h=>by
  simp only[qW,List.map_cons];rw[VC xs (c+1) (by omega)];cases y.aI with
  |true=>rfl
  | false=>
   have:cV e [c]=false:=by simp[cV];omega
   simp only[ax,Lf.drop,this,Lf.cy]
def am7{b:Bool}{xs:aa Lf}{y:A}(h:Bu (b,xs)=some y)(C:xs.map (Lf.drop e)=xs):y.drop e=y:=by
 unfold Bu at h;split at h
 next D=>injection h with h;subst h;obtain⟨_,rfl⟩:=D;exact bE A.agg C
 next z D=>injection h with h;subst h;obtain⟨_,rfl⟩:=D;simp at C;exact bE A.lf C
 ·cases h
def ach:∀ (ps:aa Pt) (c:Nat),e<c->(vl c ps).map (λq=>(q.1,q.2.map (Lf.drop e)))=vl c ps
 |[],_,_=>rfl
 | q :: ps,c,h=>by
  simp only[vl,List.map_cons];rw[VC _ _ h,ach ps _ (by omega)]
def am8(ps:aa Pt)(c:Nat)(h:e<c):A.drop e (.fX (vl c ps)) = .fX (vl c ps):=bE A.fX (ach ps c h)
def aci(C:lY x)(D:oY e u)(U:e<20000)(E:d≠e){I:gU}{O:S}(h:qp σ d I some=some O):qp (cF e x u σ) d I some=some (cF e x u O):=by
 unfold qp at h ⊢;split at h
 ·split at h
  next y T=>injection h with h;subst h;rw[Oj C D _ _ _ (by omega),Ok E (am7 T (VC _ _ (by omega)))]
  ·cases h
 ·injection h with h;subst h;rw[ab6 C D _ _ _ (by omega),Ok E (am8 _ _ (by omega))]
def am9(O:lY x)(T:oY e u)(U:e<20000){C:ah Tmp}(Y:C≠some e){E:gU}{D:S}(h:th N σ C E some=some D):th N (cF e x u σ) C E some=some (cF e x u D):=by
 cases C with
 | none=>
  have h:some σ=some D:=h;injection h with h;rw[<-h];rfl
 | some d=>
  unfold th at h ⊢;cases I:Nat.blt d N with
  |false=>simp only[I,ax]at h;cases h
  | true=>
   simp only[I,av]at h ⊢;exact aci O T U (by rintro rfl;exact Y rfl) h
def ana(eF:gL P Φ)(hx:lY x)(Y:oY e u)(he:e<20000)(T:p e=true)(AD:∀ n,20000<=n->p n=false)(C:qw Φ o=true)(hd:o.dst≠some e)(vC:∀ y∈o.op.operands,(aJ σ y).nr p=true/\y ≠ .tmp e)(hl:∀ n∈sk Φ σ o,Ax σ p n=true){τ:S}
  (h:dR P N Φ σ o some=some τ):dR P N Φ (cF e x u σ) o some=some (cF e x u τ):=by
 have mE:∃ f args lC,o.op = .call { callee:=.value (.func f),args:=args,argTypes:=lC }:=by
  unfold qw at C;split at C
  ·exact⟨_,_,_,by assumption⟩
  ·cases C
 obtain⟨f,args,lC,D⟩:=mE;have n8:∀ y∈args.toList,(aJ σ y).nr p=true/\y ≠ .tmp e:=by
  intro y hy;refine vC y ?_;rw[D];simp only[Op.operands,Call.operands];simp only[Array.mem_append]
  first
   |exact .inr (by simpa using hy)
   |exact .inl (by simpa using hy)
 have fJ:∀ σ2,dR P N Φ σ2 o some=jA P N Φ σ2 o some:=by
  intro σ2;unfold dR;rw[show gM o.op=false by rw[D];rfl,ax]
 rw[fJ]at h ⊢;cases I:Φ f with
 |none=>simp only[jA,D,I]at h;cases h
 | some c=>
  cases c with
  |n F=>rw[qw,D]at C;simp[I]at C
  |v c=>rw[qw,D]at C;simp[I]at C
  |i c=>rw[qw,D]at C;simp[I]at C
  |d c=>rw[qw,D]at C;simp[I]at C
  |q c=>rw[qw,D]at C;simp[I]at C
  |c c=>rw[qw,D]at C;simp[I]at C
  | p c=>
   simp only[jA,D,I]at h ⊢;obtain⟨d,Z,h⟩:=lE h;have hde:d≠e:=by rintro rfl;exact hd Z
   obtain⟨res,vg,h1,E,h3⟩:=NM (J0 eF I) F5 h;injection E with E;subst E;simp only[iO,Z];exact(h3 (cF e x u σ) (cF e x u vg) (λX k=>vk (cF e x u σ) args.toList k) (λX k=>ab9 T _ k n8) (aci hx Y he hde h1)).at_ _
  | m c=>
   simp only[jA,D,I]at h ⊢;have BW:∀ n∈jO σ c.ps args.toList,Ax σ p n=true:=by
    intro n U;refine hl n ?_;simp only[sk,D,I];exact U
   unfold q9 at h;split at h
   ·rename_i O xj;obtain⟨g1,g2⟩:=Vv (x:=x) (u:=u) T c.ps args.toList O n8 BW xj;cases kK:(once (nj 0 O)&&Nat.ble O.length 40)with
    |false=>rw[kK]at h;cases h
    | true=>
     rw[kK,av]at h;obtain⟨z,E,acj⟩:=(NT _ _ _).nZ h;simp only[q9,g1,kK,av];rw[Om T _ _ _ _ _ n8];refine(acj S _).trans ?_;split at E
     ·rename_i y hy;unfold FZ at E ⊢;generalize qU:qv (jy o.dst) (fQ c.ro y.1).len O (ke (fF c.ps) y.2)=cn at E;generalize kS:FY N O (ke (fF c.ps) y.2) cn=ok at E;cases ok with
      |false=>cases E
      | true=>
       rw[av]at E;have oR:∀ n,jy o.dst<=n->p n=false:=by
        intro n U;refine AD n ?_;cases Z:o.dst with
        |none=>rw[Z]at U;simp only[jy]at U;omega
        |some d=>rw[Z]at U;simp only[jy]at U;omega
       obtain⟨k1,k2⟩:=VB (ns:=(nj 0 O).map (·.1)) (cn:=cn) T oR O (ke (fF c.ps) y.2) (fQ c.ro y.1).len g2;rw[qU]at k1;rw[av,am2 hx Y ?_ ?_ k2]
       ·exact am9 hx Y he hd E
       ·cases hm:dm e ((nj 0 O).map (·.1))with
        |false=>rfl
        | true=>
         obtain⟨u,Y,e1⟩:=iZ.1 (w7.1 hm);have:=Vx O 0 g2 u Y;rw[e1,T]at this;cases this
       ·cases hm:dm e cn with
        |false=>rfl
        |true=>have:=k1 e (w7.1 hm);rw[T]at this;cases this
     ·cases E
   ·cases h
def A.ack{y:A}(h:y.gM=true)(K:qg):y.cy K=y:=by
 refine A.rS ?_;cases y with
 |lf l=>cases l<;>first|rfl|cases h
 | agg cs=>
  refine cm.2 λl hl=>?_
  have:=cm.1 h l hl;cases l<;>first|rfl|cases this
 |_=>cases h
def A.On{y:A}(h:y.gM=true)(n:Nat):y.drop n=y:=A.ack h _
def A.anb{y:A}(h:y.gM=true)(ns cn:aa Nat):y.dD ns cn=y:=A.ack h _
def VD:∀ (xs:aa V) (c:Nat) (σ:S) {t:Nat},(σ.t t).gM=true -> (oQ c σ xs).t t=σ.t t
 |[],c,σ,t,h=>rfl
 | y :: xs,c,σ,t,h=>by
  simp[oQ];cases y.aI with
  |true=>exact VD xs _ σ h
  | false=>
   simp;have C:(((σ.drop c).root c (.sl y)).t t)=σ.t t:=by rw[Vr];exact A.On h c
   rw[VD xs _ _ (by rw[C];exact h),C]
def acm:∀ (ps:aa Pt) (c:Nat) (σ:S) {t:Nat},(σ.t t).gM=true -> (qX c σ ps).t t=σ.t t
 |[],c,σ,t,h=>rfl
 | q :: ps,c,σ,t,h=>by
  simp[qX];have C:=VD q.2 c σ h;rw[acm ps _ _ (by rw[C];exact h),C]
def acn{D:gU}{C:S}(h:qp σ d D some=some C){t:Nat}(E:(σ.t t).gM=true)(I:t≠d):C.t t=σ.t t:=by
 obtain⟨ps,u,O⟩:=Vc h;rw[O]at h;injection h with h;rw[<-h];exact(cz _ _ _ I).trans (acm _ _ _ E)
def anc{C:ah Tmp}{I:gU}{D:S}(h:th N σ C I some=some D){t:Nat}(O:(σ.t t).gM=true)(T:C≠some t):D.t t=σ.t t:=by
 cases C with
 | none=>
  have h:some σ=some D:=h;injection h with h;rw[<-h]
 | some d=>
  unfold th at h;cases E:Nat.blt d N with
  |false=>simp only[E,ax]at h;cases h
  | true=>
   simp only[E,av]at h;exact acn h O (by rintro rfl;exact T rfl)
def ane(eF:gL P Φ)(C:qw Φ o=true){U:S}(h:dR P N Φ σ o some=some U){t:Nat}(T:(σ.t t).gM=true)(Y:o.dst≠some t):U.t t=σ.t t:=by
 have mE:∃ f args Z,o.op = .call { callee:=.value (.func f),args:=args,argTypes:=Z }:=by
  unfold qw at C;split at C
  ·exact⟨_,_,_,by assumption⟩
  ·cases C
 obtain⟨f,args,Z,E⟩:=mE;have fJ:dR P N Φ σ o some=jA P N Φ σ o some:=by
  unfold dR;rw[show gM o.op=false by rw[E];rfl,ax]
 rw[fJ]at h;cases I:Φ f with
 |none=>simp only[jA,E,I]at h;cases h
 | some c=>
  cases c with
  |n F=>rw[qw,E]at C;simp[I]at C
  |v c=>rw[qw,E]at C;simp[I]at C
  |i c=>rw[qw,E]at C;simp[I]at C
  |d c=>rw[qw,E]at C;simp[I]at C
  |q c=>rw[qw,E]at C;simp[I]at C
  |c c=>rw[qw,E]at C;simp[I]at C
  | p c=>
   simp only[jA,E,I]at h;obtain⟨d,uz,h⟩:=lE h;obtain⟨res,vg,h1,D,h3⟩:=NM (J0 eF I) F5 h;injection D with D;subst D;exact acn h1 T (by rintro rfl;exact Y uz)
  | m c=>
   simp only[jA,E,I]at h;unfold q9 at h;split at h
   ·rename_i O xj;cases kK:(once (nj 0 O)&&Nat.ble O.length 40)with
    |false=>rw[kK]at h;cases h
    | true=>
     rw[kK,av]at h;obtain⟨z,D,acj⟩:=(NT _ _ _).nZ h;split at D
     ·rename_i y hy;unfold FZ at D;generalize FY N O (ke (fF c.ps) y.2) (qv (jy o.dst) (fQ c.ro y.1).len O (ke (fF c.ps) y.2))=ok at D;cases ok with
      |false=>cases D
      | true=>
       rw[av]at D;have e1:∀ns cn nr,(σ.dD ns cn nr).t t=σ.t t:=λns cn nr=>A.anb T ns cn
       have:=anc (t:=t) D (by rw[e1];exact T) Y;rw[this,e1]
     ·cases D
   ·cases h
def anf{E:Nat}{I:aU}{O:A}(T:lY x)(U:oY e u)(Y:lY I)(Z:oY E O)(h:e≠E):cF E I O (cF e x u σ)=cF e x u (cF E I O σ):=by
 refine S.ext' (λk=>?_) λn=>?_
 ·simp only[uC];by_cases C:k=E
  ·subst C;rw[aV rfl,aX (Ne.symm h),aV rfl,Z.drop (Ne.symm h)]
  ·rw[aX C];by_cases D:k=e
   ·subst D;rw[aV rfl,aV rfl,U.drop h]
   ·rw[aX D,aX D,aX C,A.Vq]
 ·simp only[sr];by_cases C:n=E
  ·subst C;rw[aV rfl,aX (Ne.symm h),aV rfl,Option.map_some,Y.drop]
  ·rw[aX C];by_cases D:n=e
   ·subst D;rw[aV rfl,aV rfl,Option.map_some,T.drop]
   ·rw[aX D,aX D,aX C];cases σ.m n with
    |none=>rfl
    |some y=>simp only[Option.map_some,aU.Vq]
def ang(O:lY x)(T:oY e u)(U:p e=true)(Y:rj o=true)(Z:o.dst≠some e)(C:∀ y∈o.op.operands,(aJ σ y).nr p=true/\y ≠ .tmp e){D:S}
  (h:dR P N Φ σ o some=some D):dR P N Φ (cF e x u σ) o some=some (cF e x u D):=by
 obtain⟨e',x',u',hd',Jt,n5,yB,jz,sq⟩:=Od (o:={ o with guard:=none }) (ops:=#[]) Y rfl h;have bQ:e≠e':=by rintro rfl;exact Z hd'
 have E:=sq (cF e x u σ) rfl λy I=>AB (C y I).1 U (C y I).2
 rw[anf O T n5 yB bQ,<- jz]at E;exact E
def anh(D:rj o=true){C:S}(h:dR P N Φ σ o some=some C){t:Nat}(E:(σ.t t).gM=true)(I:o.dst≠some t):C.t t=σ.t t:=by
 obtain⟨O,Z,u',T,Jt,n5,yB,U,sq⟩:=Od (o:={ o with guard:=none }) (ops:=#[]) D rfl h;have Y:t≠O:=by rintro rfl;exact I T
 rw[U,uC,aX Y,A.On E]
def ani(hx:lY x)(hu:oY e u)(C:p e=true)(hm:isApp o=true)(hd:o.dst≠some e)(O:∀ y∈o.op.operands,(aJ σ y).nr p=true/\y ≠ .tmp e){T:S}
  (h:dR P N Φ σ o some=some T):dR P N Φ (cF e x u σ) o some=some (cF e x u T):=by
 obtain⟨a,b,t,t',I,hn,qk,hk⟩:=Vl hm;have E:=O a (by rw[I];simp[Op.operands,Call.operands]);have hb:=O b (by rw[I];simp[Op.operands,Call.operands]);rw[J4 I hn qk hk]at h ⊢;obtain⟨d,U,h⟩:=lE h;obtain⟨r,v,jz,hr,sq⟩:=Oe h;have Y:d≠e:=by rintro rfl;exact hd U
 have Z:r≠e:=by
  rcases hr with h1|h1
  ·rw[h1];exact Y
  ·rintro rfl;have D:=E.1;rw[h1]at D;simp[A.nr,A.fr,xl,Lf.nr,Lf.fr,ri,jX,C]at D
 unfold iO;rw[U];simp only;rw[AB E.1 C E.2,AB hb.1 C hb.2,sq (cF e x u σ) (λk=>am3 hb.1 C) (λr' v' fP s7=>?_)]
 ·rw[ab5 v hx hu (Ne.symm Z),Ok Y ?_,jz];have:cV e [r]=false:=by simp[cV,Z]
  simp only[A.drop,Lf.drop,this,ax,A.cy,zU,Lf.cy]
 ·have bQ:r'≠e:=by
   rintro rfl;have D:=E.1;rw[fP]at D;simp[A.nr,A.fr,xl,Lf.nr,Lf.fr,ri,jX,C]at D
  rw[sr,aX bQ,s7];rfl
def anj(D:isApp o=true){C:S}(h:dR P N Φ σ o some=some C){t:Nat}(E:(σ.t t).gM=true)(I:o.dst≠some t):C.t t=σ.t t:=by
 obtain⟨a,b,t1,t2,O,T,U,Y⟩:=Vl D;rw[J4 O T U Y]at h;obtain⟨d,Z,h⟩:=lE h;obtain⟨r,v,jz,hr,sq⟩:=Oe h;have bQ:t≠d:=by rintro rfl;exact I Z
 rw[jz];show bK ((σ.drop r).root r _).t d _ t=_;rw[cz _ _ _ bQ];exact A.On E r
def aco(C:∃ ty t y,o.op = .store ty (.tmp t) y/\o.dst=none /\ ∃ r j,σ.t t = .aL r j){I:S}(h:dR P N Φ σ o some=some I):∃ t y r j cs xs,o.op.operands = #[.tmp t,y]/\σ.t t = .aL r j/\(aJ σ y).Br=some xs/\σ.m r=some (.aD cs)/\I=σ.root r (.aD (splice cs j xs)) /\
  ∀(σ2:S) (D:aa Lf),σ2.t t = .aL r j -> aJ σ2 y=aJ σ y -> σ2.m r=some (.aD D) -> D.length=cs.length -> dR P N Φ σ2 o some=some (σ2.root r (.aD (splice D j xs))):=by
 obtain⟨ty,t,y,C,Y,r,j,O⟩:=C;have T:∀ σ2:S,σ2.t t = .aL r j -> dR P N Φ σ2 o some=sZ P σ2 ty (.aL r j) (aJ σ2 y) some:=by
  intro σ2 E;unfold dR;rw[show gM o.op=false by rw[C];rfl,ax];simp[jA,C,Y];have Z:aJ σ2 (.tmp t) = .aL r j:=E;rw[Z,show Av _ _=false from rfl,ax]
 rw[T σ O]at h;unfold sZ at h;split at h
 ·rename_i n xs hn U;split at h
  ·rename_i hlen;simp only at h;split at h
   ·rename_i cs jn;split at h
    ·rename_i hj;cases hl:xs.all Lf.live with
     |false=>simp_all
     | true=>
      rw[hl,av]at h;injection h with h
      refine⟨t,y,r,j,cs,xs,by rw[C];rfl,O,U,jn,h.symm,λσ2 D h1 E h3 h4=>?_⟩
      rw[T σ2 h1,E];simp only[sZ,hn,U,aV hlen,h3];rw[aV (by rw[h4];exact hj),hl];rfl
    ·cases h
   ·cases h
  ·cases h
 ·cases h
def acp(C:JV o=true)(E:Aw σ o=true):∃ ty t y,o.op = .store ty (.tmp t) y/\o.dst=none /\ ∃ r j,σ.t t = .aL r j:=by
 unfold JV at C;rw[aH]at C;obtain⟨D,I⟩:=C;split at D
 ·rename_i ty t y O;refine⟨ty,t,y,O,Option.isNone_iff_eq_none.1 I,?_⟩;unfold Aw at E
  grind
 ·cases D
def ank{y:A}{xs:aa Lf}(h:y.Br=some xs)(C:y.nr p=true):xs.all (Lf.nr p)=true:=by
 cases y with
 |lf l=>injection h with h;subst h;rw[List.all_cons,show l.nr p=true from C];rfl
 |agg cs=>injection h with h;subst h;exact C
 |_=>cases h
def anl(hx:lY x)(hu:oY e u)(C:p e=true)(hm:JV o=true)(hs:Aw σ o=true)(O:∀ y∈o.op.operands,(aJ σ y).nr p=true/\y ≠ .tmp e){T:S}
  (h:dR P N Φ σ o some=some T):dR P N Φ (cF e x u σ) o some=some (cF e x u T):=by
 obtain⟨t,y,r,j,cs,xs,U,Y,g3,g4,g5,g6⟩:=aco (acp hm hs) h;have D:=O (.tmp t) (by rw[U];simp);have E:=O y (by rw[U];simp);have e1:(cF e x u σ).t t = .aL r j:=(AB D.1 C D.2).trans Y;have Z:r≠e:=by
  have h2:(aJ σ (.tmp t)).nr p=true:=D.1;have h3:aJ σ (.tmp t) = .aL r j:=Y;rw[h3]at h2;exact amG h2 C
 have e3:(cF e x u σ).m r=some (.aD (cs.map (Lf.drop e))):=by
  rw[sr,aX Z,g4];rfl
 have rZ:=tY.BY (ank g3 E.1) C;rw[g6 (cF e x u σ) _ e1 (AB E.1 C E.2) e3 (by rw[fN]),g5];congr 1
 refine S.ext' (λk=>?_) λn=>?_
 ·show (cF e x u σ).t k=(cF e x u (σ.root r (.aD (splice cs j xs)))).t k;rw[uC,uC];rfl
 ·show bK (cF e x u σ).m r (some (.aD (splice (cs.map (Lf.drop e)) j xs))) n=(cF e x u (σ.root r (.aD (splice cs j xs)))).m n;rw[sr];by_cases I:n=r
  ·subst I;rw[bT,aX Z];show _=(bK σ.m n (some (aU.aD (splice cs j xs))) n).map (aU.drop e);rw[bT];simp only[Option.map_some,aU.JY,splice,mZ,List.map_take,List.map_drop,rZ]
  ·rw[cz _ _ _ I,sr];have:(σ.root r (.aD (splice cs j xs))).m n=σ.m n:=cz _ _ _ I;rw[this]
def anm(D:JV o=true)(E:Aw σ o=true){C:S}(h:dR P N Φ σ o some=some C)(t:Nat):C.t t=σ.t t:=by
 obtain⟨_,_,r,j,cs,xs,_,_,_,_,I,_⟩:=aco (acp D E) h;rw[I];rfl
def ann(Y:gL P Φ)(C:lY x)(D:oY e u)(Z:e<20000)(E:p e=true)(AD:∀ n,20000<=n->p n=false)(O:JW Φ o=true)(iK:Aw σ o=true)(T:o.dst≠some e)(I:∀ y∈o.op.operands,(aJ σ y).nr p=true/\y ≠ .tmp e)(hl:∀ n∈sk Φ σ o,Ax σ p n=true){U:S}
  (h:dR P N Φ σ o some=some U):dR P N Φ (cF e x u σ) o some=some (cF e x u U):=by
 unfold JW at O;rw[eZ,eZ,eZ]at O;rcases O with ((hc|hc)|hc)|hc
 ·exact ana Y C D Z E AD hc T I hl h
 ·exact ang C D E hc T I h
 ·exact ani C D E hc T I h
 ·exact anl C D E hc iK I h
def ano(O:gL P Φ)(C:JW Φ o=true)(T:Aw σ o=true){I:S}(h:dR P N Φ σ o some=some I){t:Nat}(D:(σ.t t).gM=true)(E:o.dst≠some t):I.t t=σ.t t:=by
 unfold JW at C;rw[eZ,eZ,eZ]at C;rcases C with ((hc|hc)|hc)|hc
 ·exact ane O hc h D E
 ·exact anh hc h D E
 ·exact anj hc h D E
 ·exact anm hc T h t
def acq{i W j:Nat}{C:Oper}(D:ops[j]?=some C)(h:JS ops i W j=true):∃ e∈C.after,Region.binds .any e=true/\(e.on=i\/W.testBit e.on=true):=by
 unfold JS at h;rw[D]at h;obtain⟨e,E,hb⟩:=List.any_eq_true.1 h;rw[aH,eZ]at hb
 refine⟨e,by simpa using E,hb.1,hb.2.imp (λh=>c8 h) id⟩
def VE{g:Oper -> Bool}{C:Oper}{i L W:Nat}:∀ (n j:Nat),JT g ops C i L W n j=true -> ∀ k,j <= k -> k<j+n -> k=i \/ L.testBit k=true \/ (W.testBit k=true/\JS ops i W k=true) \/ (W.testBit k=false /\ ∀ ok,ops[k]?=some ok -> g ok=true/\C.apart ops ok=true)
 |0,j,_,k,D,E=>by omega
 | n+1,j,h,k,D,E=>by
  unfold JT at h;rw[aH,eZ,eZ]at h;by_cases I:k=j
  ·subst I;rcases h.1 with (h | h) | h
   ·exact .inl (c8 h)
   ·exact .inr (.inl h)
   ·grind
  ·exact VE n (j+1) h.2 k (by omega) (by omega)
def su{g:Oper -> Bool}{i L W:Nat}:∀ (n j:Nat) (k:Nat),j <= k -> k<j+n -> k≠i -> L.testBit k=false -> W.testBit k=false -> ∀ ok,ops[k]?=some ok -> g ok=true -> jr g ops i L W n j=true
 |0,j,k,C,D,_,_,_,_,_,_=>by omega
 | n+1,j,k,C,D,hi,E,I,ok,O,T=>by
  unfold jr;rw[eZ];by_cases U:k=j
  ·subst U;refine .inl ?_;have hb:Nat.beq k i=false:=by
    cases hb:Nat.beq k i with
    |false=>rfl
    |true=>simp_all
   simp_all
  ·exact .inr (su n _ k (by omega) (by omega) hi E I ok O T)
def acr{g:Oper -> Bool}{i L W:Nat}:∀ (n j:Nat),jr g ops i L W n j=true -> ∃ k ok,ops[k]?=some ok/\k≠i/\L.testBit k=false/\W.testBit k=false/\g ok=true
 |0,j,h=>by cases h
 | n+1,j,h=>by
  unfold jr at h;rw[eZ]at h;rcases h with h|h
  ·rw[aH,ff,qM,qM]at h;obtain⟨⟨⟨D,E⟩,I⟩,C⟩:=h;split at C
   next ok O=>exact⟨j,ok,O,(by rintro rfl;rw[Nat.beq_refl]at D;cases D),E,I,C⟩
   ·cases C
  ·exact acr n _ h
theorem anp[Inhabited Wd]{L i:Nat}{k:S -> ah X}(E:gM o.op=true \/ gQ σ ops o=some false)(I:UW σ (B3 Φ ops i L (waits ops i ops.size 0 0) σ) (DV σ ops i L (waits ops i ops.size 0 0)) o=true)(h:JU P N Φ ops L i σ o k=some r):
  ∃v,k (gY σ o.dst v)=some r/\oX P ops o (B3 Φ ops i L (waits ops i ops.size 0 0) σ) (DV σ ops i L (waits ops i ops.size 0 0)) v σ /\ ∀σ:S,jm N σ o.dst v some=some (gY σ o.dst v):=by
 unfold JU at h;unfold UW at I;rw[aH]at I;split at h
 ·rename_i C;obtain⟨v,D,Z,_⟩:=U1 (w0:=default) (N:=N) h;cases O:v.rm _ _ with
  |false=>rw[O]at D;cases D
  | true=>
   rw[O,av]at D;obtain⟨T,U⟩:=vB D;have E:=E.resolve_right (by rw[C];simp)
   refine⟨v,T,.inl ⟨C,E,Z,λy Y=>cm.1 I.1 y (by simpa using Y),O,λt y r j e Y=>?_⟩,λσ=>(U σ).at_ _⟩
   simp_all
 next C=>obtain⟨T,U⟩:=vB h;exact⟨.skip,T,.inr ⟨C,rfl⟩,λσ=>(U σ).at_ _⟩
 ·cases h
def Gi{i L W n:Nat}(h:B2 Φ ops i L W σ n=true):B3 Φ ops i L W σ n=true:=by unfold B3;rw[h];rfl
def anq{i L W:Nat}(h:IM Φ ops i L W σ o=true):∃ ty t y,o.op = .store ty (.tmp t) y/\o.dst=none/\N4 Φ ops i L W σ t=true/\(∀ k,σ.t t ≠ .ptr k) /\ ∀ r j,σ.t t = .aL r j -> B1 σ o=[r]:=by
 unfold IM at h;split at h
 ·rename_i ty t y C;rw[aH,aH]at h
  refine⟨ty,t,y,C,by simpa using h.1.1,h.1.2,λk E=>?_,λr j D=>by simp[B1,C,D]⟩
  simp_all
 ·cases h
def anr{i L W:Nat}(h:UT Φ ops i L W o=true):∃ x y t C,o.op = .call ⟨.builtin .append,⟨[.tmp x,y]⟩,⟨[t,C]⟩⟩/\oU Φ ops i L W x=true/\(tu t=false/\Nat.beq t C=true/\DT o.dst t (.tmp x)=false):=by
 unfold UT at h
 grind
def ans{i L W:Nat}(h:US Φ ops i L W σ o=true):∃ f args C c,o.op = .call { callee:=.value (.func f),args:=args,argTypes:=C } /\ Φ f=some (.m c)/\N1 c=true/\vz (λt r=>!jr (lX t) ops i L W ops.size 0 && !jr (λok=>fK ok r) ops i L W ops.size 0 && !jr isApp ops i L W ops.size 0) σ c.ps args.toList=true/\sk Φ σ o=jO σ c.ps args.toList:=by
 unfold US at h;split at h
 ·rename_i f args C D;split at h
  next c E=>rw[aH]at h;exact⟨f,args,C,c,D,E,h.1,h.2,by simp[sk,D,E]⟩
  ·cases h
 ·cases h
def J7{p:Nat -> Bool}:∀ (ps:aa PK) (xs:aa Operand),(∀ x∈xs,(aJ σ x).nr p=true) -> ∀ n∈jO σ ps xs,p n=false
 |[],[],_,n,hn=>by cases hn
 |.v _ _::ps,x::xs,h,n,hn=>J7 ps xs (λy C=>h y (.tail _ C)) n hn
 |.s _ _::ps,x::xs,h,n,hn=>J7 ps xs (λy C=>h y (.tail _ C)) n hn
 | .p _ _ _ :: ps,x :: xs,h,n,hn=>by
  simp[jO]at hn;split at hn
  ·rename_i r' j E;rcases ig.1 hn with rfl | hn
   ·have D:=h x (.head _);rw[E]at D;have D:(!p n)=true:=D
    simpa using D
   ·exact J7 ps xs (λy C=>h y (.tail _ C)) n hn
  ·exact J7 ps xs (λy C=>h y (.tail _ C)) n hn
def Oo{D:ah Tmp}{g:Bool}{k:S -> ah X}(h:vw σ D g k=some r):k σ=some r:=by
 unfold vw at h;cases g with
 |false=>exact h
 | true=>
  rw[av]at h;split at h
  ·rename_i d;split at h
   ·rename_i b hb;have:∀ c,b=c -> σ.set d (.lf (.v (.bool c)))=σ:=by
     rintro c rfl
     refine S.ext' (λk=>?_) λ_=>rfl
     show bK _ _ _ _=_;by_cases C:k=d
     ·subst C;rw[bT,hb]
     ·rw[cz _ _ _ C]
    grind
   ·exact h
  ·exact h
def acs{L j:Nat}(h:oc ops L j=true):j<ops.size:=by
 obtain⟨_,o,C,_⟩:=J5.1 h
 grind
def DY{L j:Nat}:j∈(List.range ops.size).filter (oc ops L) ↔ oc ops L j=true:=by
 rw[List.mem_filter,gq];exact⟨λh=>h.2,λh=>⟨acs h,h⟩⟩
structure acu (ops:Array Oper) (p:Nat->Bool) (σ:S) (o:Oper):Prop where
 is:rj o=true
 want:gQ σ ops o=some true
 ayu:∀y∈o.op.operands,(aJ σ y).gM=true/\∀t,y = .tmp t->p t=false
 guard:∀g c t,o.guard=some (g,c)->(ops[g]?).bind (·.dst)=some t->p t=false
def ant{x:A}{n:Nat}{z:V}(h:uq x n=some z)(X:Type)(k:A -> ah X):Dj x n k=k (.lf (.v z)):=by
 unfold uq at h;split at h
 ·split at h
  next xs _ _ C=>injection h with h;subst h;simp[Dj,C,Option.bind_some,Bu]
  ·cases h
 ·cases h
def acv{x:A}{n:Nat}{z:V}{g:Lf -> Lf}{G:A -> A}(C:∀ xs,G (.fX xs) = .fX (xs.map λp=>(p.1,p.2.map g)))(D:∀ z,g (.v z) = .v z)(h:uq x n=some z):uq (G x) n=some z:=by
 unfold uq at h;split at h
 ·split at h
  next xs _ _ E=>injection h with h;subst h;rw[C];simp[uq,fz,E,Option.map_some,List.map_cons,List.map_nil,D]
  ·cases h
 ·cases h
def VF{v:A}(C:∀ q,v.drop q=v){rr d:Nat}{key:Nat -> aa Nat}:∀ (f j:Nat) (xs:aa Lf) (σ:S),jo rr key f j xs (σ.set d v)=(jo rr key f j xs σ).map λp=>(p.1,p.2.set d v)
 |_,_,[],σ=>by simp[jo]
 |0,j,x::xs,σ=>by cases x<;>simp[jo]
 | f+1,j,.v x :: xs,σ=>by
  simp only[jo,VF C f];cases jo rr key f (j+1) xs σ<;>rfl
 | f+1,j,.own [q] :: xs,σ=>by
  simp only[jo];show (match σ.m q with
   |some (.sl z)=>_
   |_=>none)=_
  cases D:σ.m q with
  |none=>rfl
  | some y=>
   cases y with
   | sl z=>
    cases Nat.beq q rr with
    |true=>rfl
    | false=>
     simp only[ax];rw[S.drop_set q (C q),VF C f];cases jo rr key f (j+1) (xs.map (Lf.drop q)) (σ.drop q)<;>rfl
   |_=>rfl
 |f+1,j,.own []::xs,σ=>rfl
 |f+1,j,.own (_::_::_)::xs,σ=>rfl
 |f+1,j,.dead::xs,σ=>rfl
def VG{rr:Nat}{key:Nat -> aa Nat}{x n:Nat}{z:V}:∀ (f j:Nat) (xs:aa Lf) (σ C:S) (D:aa V),jo rr key f j xs σ=some (D,C) -> uq (σ.t x) n=some z -> uq (C.t x) n=some z
 | _,_,[],σ,C,D,h,E=>by
  simp only[jo]at h;simp_all
 |0,j,y::xs,σ,C,D,h,E=>by cases y<;>simp[jo]at h
 | f+1,j,.v y :: xs,σ,C,D,h,E=>by
  simp only[jo]at h;cases I:jo rr key f (j+1) xs σ with
  |none=>simp_all
  | some p=>
   rw[I]at h;injection h with h;injection h with _ h;subst h;exact VG f (j+1) xs σ p.2 p.1 I E
 | f+1,j,.own [q] :: xs,σ,C,D,h,E=>by
  simp only[jo]at h;split at h
  ·cases hb:Nat.beq q rr with
   |true=>simp_all
   | false=>
    rw[hb,ax]at h;cases I:jo rr key f (j+1) (xs.map (Lf.drop q)) (σ.drop q)with
    |none=>simp_all
    | some p=>
     rw[I]at h;injection h with h;injection h with _ h;subst h;refine VG f (j+1) _ (σ.drop q) p.2 p.1 I ?_;exact acv (G:=A.drop q) (g:=Lf.drop q) (λ_=>rfl) (λ_=>rfl) E
  ·cases h
def anu{d:Nat}{v:V}{t:TypeId}{x y:A}{I:S}(h:xm P (σ.set d (.lf (.v v))) t x y some=some I):∃ D,xm P σ t x y some=some D/\I=D.set d (.lf (.v v)) /\ ∀ (e n:Nat) (z:V),uq (σ.t e) n=some z -> uq (D.t e) n=some z:=by
 unfold xm at h;split at h
 ·rename_i n xs j i s rr hn rZ;split at h
  ·rename_i hlen;cases O:xs.all Lf.live with
   |false=>simp_all
   | true=>
    rw[O,av]at h;split at h
    ·rename_i vs τ1 C;rw[VF (v:=.lf (.v v)) (λ_=>rfl)]at C;cases E:jo rr (λm=>(j+m) :: i :: s :: [rr]) xs.length 0 xs σ with
     |none=>simp_all
     | some p=>
      rw[E]at C;obtain⟨vs0,T⟩:=p;injection C with C;injection C with e1 e2;subst e1 e2;split at h
      ·rename_i U Y Z l jz;have anv:T.m rr=some (.sl (.sl U (Y+2) Z l)):=jz;split at h
       ·rename_i rW;split at h
        ·rename_i hi;split at h
         ·rename_i hj;split at h
          ·rename_i e he;injection h with h
           refine⟨T.dD [rr] [] [(rr,.sl (.sl U (Y+2) Z (l.set i e)))],?_,?_,λex nx z hz=>?_⟩
           ·simp[xm,hn,rZ,aV hlen,O,av,E,anv,aV rW,aP hi,aV hj,he]
           ·rw[<- h];exact S.Vj _ rfl
           ·exact acv (G:=A.dD [rr] []) (λ_=>rfl) (λ_=>rfl) (VG _ _ _ _ _ _ E hz)
          ·cases h
         ·cases h
        ·cases h
       ·cases h
      ·cases h
    ·cases h
  ·cases h
 ·cases h
def acw{t:TypeId}{a b:Operand}(C:o.op = .store t a b)(D:o.dst=none)(E:Av (aJ σ a) (aJ σ b)=true):dR P N Φ σ o some=xm P σ t (aJ σ a) (aJ σ b) some:=by
 unfold dR;rw[show gM o.op=false by rw[C];rfl,ax];simp[jA,C,D,E,av]
theorem anw[Inhabited Wd](eF:gL P Φ){K:S -> Prop}{f L i:Nat}{U:Oper}{τ:S}(hi:ops[i]?=some U)(hr:oc ops L i=true)(D:UY ops L σ i=true)(jz:dL P N Φ ops σ U some=some τ)(H:Any P N Φ ops K f (L ||| 2 ^ i) τ):Any P N Φ ops K (f+1) L σ:=by
 unfold UY at D;rw[hi]at D;split at D
 ·rename_i oi' j0 e1 anx;injection e1 with e1;subst e1;split at D
  ·rename_i x n d oj mE B9 Ca hj0;split at D
   ·rename_i ty a b Y acy acz;rw[aH,aH]at D;obtain⟨⟨c1,c2⟩,c3⟩:=D;obtain⟨z,hz⟩:=Option.isSome_iff_exists.1 c1;obtain⟨a1,a2,a3⟩:=Oper.apart_spec c3;have AE:∀ j,j<ops.size -> j≠i -> L.testBit j=false -> j=j0:=by
     intro j E I O;have:j∈(List.range ops.size).filter (λj=>!(Nat.beq j i || L.testBit j)):=by
      rw[List.mem_filter];refine⟨gq.2 E,?_⟩;rw[O,Bool.or_false];cases hb:Nat.beq j i with
      |false=>rfl
      |true=>exact absurd (c8 hb) I
     rw[anx]at this;exact gz.1 this
    have uA:∀ σ2:S,uq (σ2.t x) n=some z -> dL P N Φ ops σ2 U some=jm N σ2 (some d) (.lf (.v z)) some:=by
     intro σ2 h2;unfold dL;simp only[gQ,Ca];unfold dR;rw[show gM U.op=true by rw[mE];rfl,av,mE];simp only[oT];rw[show aJ σ2 (.tmp x)=σ2.t x from rfl,ant h2,B9]
    have hN:∀ σ2:S,jm N σ2 (some d) (.lf (.v z)) some=some (σ2.set d (.lf (.v z))):=by
     intro σ2;rw[uA σ hz]at jz;obtain⟨_,g2⟩:=vB jz;exact(g2 σ2).at_ _
    have hE:τ=σ.set d (.lf (.v z)):=by
     grind
    rw[hE]at H
    refine Vp (W:=0) hi (λj oj _ E=>by rw[Nat.zero_testBit]at E;cases E) (λσ=>σ.set d (.lf (.v z)))
     (λL' C=>uq (C.t x) n=some z /\ ∀j,j<ops.size -> j≠i -> L'.testBit j=false -> j=j0/\Av (aJ C a) (aJ C b)=true)
     (λL' C Z=>(uA C Z.1).trans (hN C)) (λL' C j oj' vg Z T I O _ B8=>?_) f L σ (λj E=>by rw[Nat.zero_testBit]at E;cases E) hr
     ⟨hz,λj E I O=>⟨AE j E I O,c2⟩⟩ H
    obtain⟨rfl,hg⟩:=Z.2 j (jH.1 T).1 I O;rw[hj0]at T;injection T with T;subst T;have ha:aJ (C.set d (.lf (.v z))) a=aJ C a:=Gd (a1 d B9) _ (by rw[Y];simp[Op.operands]);have hb:aJ (C.set d (.lf (.v z))) b=aJ C b:=Gd (a1 d B9) _ (by rw[Y];simp[Op.operands]);have iK:dL P N Φ ops (C.set d (.lf (.v z))) oj some=xm P (C.set d (.lf (.v z))) ty (aJ C a) (aJ C b) some:=by
     unfold dL;simp only[gQ,acz];rw[acw Y acy (by rw[ha,hb];exact hg),ha,hb]
    rw[iK]at B8;obtain⟨σ2,h1,h2,h3⟩:=anu B8
    refine⟨σ2,?_,h2,h3 _ _ _ Z.1,λk hk hki hkL=>?_⟩
    ·unfold dL;simp only[gQ,acz];rw[acw Y acy hg];exact h1
    ·grind
   ·cases D
  ·cases D
 ·cases D
theorem J8[Inhabited Wd](eF:gL P Φ):∀ (f L:Nat) (σ:S) (k:S->ah X),ur P N Φ ops f L σ k=some r->Any P N Φ ops (λτ=>k τ=some r) f L σ
 | 0,L,σ,k,h=>by
  unfold ur at h;split at h
  ·rename_i hr
   refine⟨λj=>?_,h⟩
   cases Y:oc ops L j with
   |false=>rfl
   |true=>have:=DY.2 Y;rw[hr]at this;cases this
  ·cases h
 | f+1,L,σ,k,h=>by
  unfold ur at h;split at h
  ·rename_i hr
   refine⟨λ_=>h,λj Y=>?_⟩
   have:=DY.2 Y;rw[hr]at this;cases this
  ·rename_i i hr;have hi:oc ops L i=true:=DY.1 (by rw[hr];exact .head _)
   refine⟨λh=>absurd (h i) (by rw[hi];simp),λj Y=>?_⟩
   have Y:=DY.2 Y;rw[hr]at Y;obtain rfl:=gz.1 Y;split at h
   next o ho=>obtain⟨τ,h1,h2⟩:=Vd eF h;exact⟨o,τ,ho,h2,J8 eF f _ τ k (Oo h1)⟩
   ·cases h
  ·rename_i rs hn hs;split at h
   ·rename_i i hf;have hc:=List.find?_some hf;have hm:=sR hf;have hi:=DY.1 hm;split at h
    ·rename_i o ho;unfold abE at hc;rw[ho,aH,aH,aH]at hc;obtain⟨⟨⟨c1,c2⟩,c3⟩,c4⟩:=hc;have c1:gM o.op=true\/gQ σ ops o=some false:=by
      rw[eZ]at c1
      refine c1.imp id λc1=>?_
      split at c1
      next b hb=>rw[hb];cases b<;>first|rfl|cases c1
      ·cases c1
     obtain⟨v,h1,hF,hN⟩:=anp c1 c4 h;have nB:=VE _ _ c3;have c2:=c8 c2;have J9:∀ j,(waits ops i ops.size 0 0).testBit j=true->(L ||| 2 ^ i).testBit j=false:=by
      intro j Y;have:((L |||2 ^ i) &&& waits ops i ops.size 0 0).testBit j=false:=by rw[c2];exact Nat.zero_testBit j
      rw[Nat.testBit_and,Y,Bool.and_true]at this;exact this
     have yS:∀ j,(waits ops i ops.size 0 0).testBit j=true->L.testBit j=false:=by
      intro j Y;have:=J9 j Y;rw[B6,qM]at this;exact this.1
     refine am0 (W:=waits ops i ops.size 0 0) (ok:=λt r=>!jr (lX t) ops i L (waits ops i ops.size 0 0) ops.size 0 && !jr (λok=>fK ok r) ops i L (waits ops i ops.size 0 0) ops.size 0 && !jr isApp ops i L (waits ops i ops.size 0 0) ops.size 0) (uy:=N4 Φ ops i L (waits ops i ops.size 0 0) σ) (oV:=oV Φ ops i L (waits ops i ops.size 0 0) σ) (oU:=oU Φ ops i L (waits ops i ops.size 0 0)) eF ho hN (λj C D Y=>?_) f L σ (λt r kS j C D O T U=>?_) (λx hx j C D O T U=>?_) (λx hx=>?_) (λt kS j C D O T U=>?_) (λt kS j C D O T U=>?_) (λj C D O T U=>?_) yS hi hF (J8 eF f _ _ k (Oo h1))
     ·have dA:=(jH.1 D).1;rcases nB j (by omega) (by omega)with e | e | e | e
      ·subst e;have:=J9 j Y;rw[B6]at this;simp at this
      ·rw[yS j Y]at e;cases e
      ·exact acq D e.2
      ·rw[Y]at e;cases e.1
     ·have dA:=(jH.1 D).1;rw[aH,aH,ff,ff,ff]at kS
      refine⟨λZ=>?_,?_,?_⟩
      ·have:=su (g:=lX t) ops.size 0 j (by omega) (by omega) O T U C D (by unfold lX;rw[Z];exact Nat.beq_refl t);rw[kS.1.1]at this;cases this
      ·cases hn:fK C r with
       |false=>rfl
       | true=>
        have:=su (g:=λok=>fK ok r) ops.size 0 j (by omega) (by omega) O T U C D hn;rw[kS.1.2]at this;cases this
      ·cases hn:isApp C with
       |false=>rfl
       | true=>
        have:=su (g:=isApp) ops.size 0 j (by omega) (by omega) O T U C D hn;rw[kS.2]at this;cases this
     ·have dA:=(jH.1 D).1;unfold oV at hx;rw[aH]at hx;intro Z;have:=su (g:=lX x) ops.size 0 j (by omega) (by omega) O T U C D (by unfold lX;rw[Z];exact Nat.beq_refl x);rw[this]at hx;cases hx.1
     ·unfold oV at hx;rw[aH]at hx;have hx:=hx.2;cases hz:σ.t x with
      |aL r j=>rw[hz]at hx;exact hx
      |kG cs=>trivial
      |_=>rw[hz]at hx;cases hx
     ·have dA:=(jH.1 D).1;by_cases Z:C.dst=some t
      ·refine .inr ?_;have VH:lX t C=true:=by unfold lX;rw[Z];exact Nat.beq_refl t
       cases Gg:yR C with
       | false=>
        cases Ka:N3 Φ ops i L (waits ops i ops.size 0 0) σ C with
        | false=>
         have:=su (g:=λok=>lX t ok && !(yR ok ||N3 Φ ops i L (waits ops i ops.size 0 0) σ ok)) ops.size 0 j (by omega) (by omega) O T U C D (by rw[VH,Gg,Ka];rfl);unfold N4 at kS;rw[this]at kS;cases kS
        | true=>
         unfold N3 at Ka;split at Ka
         next s x f yT=>exact .inr ⟨s,x,f,yT,Ka⟩
         ·cases Ka
       | true=>
        refine .inl ⟨rfl,?_⟩;refine Gi ?_;unfold B2;rw[eZ]
        refine .inl (su (g:=λo=>fK o t) _ 0 j (by omega) (by omega) O T U C D ?_)
        obtain⟨ty,e,h1,_,h3,_⟩:=ab2 Gg;unfold fK;rw[Z,h1];exact Nat.beq_refl t
      ·exact .inl Z
     ·have dA:=(jH.1 D).1;by_cases Z:C.dst=some t
      ·refine .inr ?_;have VH:lX t C=true:=by unfold lX;rw[Z];exact Nat.beq_refl t
       cases yI:rj C with
       | false=>
        cases hma:isApp C with
        |true=>exact .inr (.inl rfl)
        | false=>
         cases Az:B4 Φ C with
         |true=>exact .inr (.inr rfl)
         | false=>
          have:=su (g:=λok=>lX t ok && !(rj ok ||isApp ok ||B4 Φ ok)) ops.size 0 j (by omega) (by omega) O T U C D (by rw[VH,yI,hma,Az];rfl);unfold oU at kS;rw[this]at kS;cases kS
       | true=>
        refine .inl ?_;have oa:fK C t=true:=by
         unfold rj at yI;rw[aH]at yI;have h1:=yI.1;unfold fK;rw[Z];split at h1
         next DC=>simp only[DC];exact Nat.beq_refl t
         next DC=>simp only[DC];exact Nat.beq_refl t
         next DC=>simp only[DC];exact Nat.beq_refl t
         ·cases h1
        have h9:=su (g:=λo=>fK o t) ops.size 0 j (by omega) (by omega) O T U C D oa;refine⟨rfl,?_,?_⟩
        ·refine Gi ?_;unfold B2;rw[eZ];exact .inl h9
        ·unfold DV;rw[eZ];exact .inl h9
      ·exact .inl Z
     ·have dA:=(jH.1 D).1;rcases nB j (by omega) (by omega)with e | e | e | e
      ·exact absurd e O
      ·rw[T]at e;cases e
      ·rw[U]at e;cases e.1
      ·obtain⟨e1,e2⟩:=e.2 C D
       refine⟨e2,?_,λn hn=>?_⟩
       ·rw[eZ,eZ,eZ]at e1;rcases e1 with ((e1 | e1) | e1) | e1
        ·exact .inl e1
        ·obtain⟨f',args,lC,c,g1,g2,g3,g4,g5⟩:=ans e1
         refine .inr (.inl ⟨f',args,lC,c,g1,g2,g3,g4,λn hn=>?_⟩)
         refine Gi ?_;unfold B2;rw[eZ]
         refine .inr (su (g:=λo=>dm n (sk Φ σ o) ||dm n (B1 σ o)) _ 0 j (by omega) (by omega) O T U C D ?_)
         rw[g5,w7.2 hn];rfl
        ·obtain⟨ty,t,y,g1,g2,g3,g4,g5⟩:=anq e1;refine .inr (.inr (.inl ⟨ty,t,y,g1,g2,g3,?_⟩));cases hx:σ.t t with
         | aL r' j'=>
          show B3 Φ ops i L (waits ops i ops.size 0 0) σ r'=true;refine Gi ?_;unfold B2;rw[eZ]
          refine .inr (su (g:=λo=>dm r' (sk Φ σ o) ||dm r' (B1 σ o)) _ 0 j (by omega) (by omega) O T U C D ?_)
          rw[g5 r' j' hx,eZ];exact .inr (w7.2 (.head _))
         |ptr k=>exact absurd hx (g4 k)
         |_=>trivial
        ·obtain⟨x,y,t1,t2,g1,g2,g3⟩:=anr e1
         refine .inr (.inr (.inr ⟨x,y,t1,t2,g1,g2,g3,λr' fP=>⟨?_,?_⟩⟩))
         ·refine Gi ?_;unfold B2;rw[eZ]
          refine .inr (su (g:=λo=>dm r' (sk Φ σ o) ||dm r' (B1 σ o)) _ 0 j (by omega) (by omega) O T U C D ?_)
          have:B1 σ C=[r']:=by simp only[B1,g1,fP]
          rw[this,eZ];exact .inr (w7.2 (.head _))
         ·unfold DV;rw[eZ]
          refine .inr (su (g:=λo=>dm r' (N2 σ o)) _ 0 j (by omega) (by omega) O T U C D ?_)
          have:N2 σ C=[r']:=by simp only[N2,g1,fP]
          rw[this];exact w7.2 (.head _)
       ·have h9:=su (g:=λo=>fK o n) ops.size 0 j (by omega) (by omega) O T U C D hn;refine⟨?_,?_⟩
        ·refine Gi ?_;unfold B2;rw[eZ];exact .inl h9
        ·unfold DV;rw[eZ];exact .inl h9
    ·cases h
   ·split at h
    ·rename_i i hf;have hc:=List.find?_some hf;have hm:=sR hf;have hi:=DY.1 hm;split at h
     ·rename_i o ho;unfold abF at hc;rw[ho,aH,aH,aH,aH,aH]at hc;obtain⟨⟨⟨⟨⟨c1,c2⟩,c3⟩,c4⟩,c5⟩,c6⟩:=hc;have nB:=VE _ _ c3;have c2:=c8 c2;have J9:∀ j,(waits ops i ops.size 0 0).testBit j=true->(L ||| 2 ^ i).testBit j=false:=by
       intro j Y;have:((L |||2 ^ i) &&& waits ops i ops.size 0 0).testBit j=false:=by rw[c2];exact Nat.zero_testBit j
       rw[Nat.testBit_and,Y,Bool.and_true]at this;exact this
      have yS:∀ j,(waits ops i ops.size 0 0).testBit j=true->L.testBit j=false:=by
       intro j Y;have:=J9 j Y;rw[B6,qM]at this;exact this.1
      obtain⟨τ,h1,h2⟩:=Vd eF h;generalize hp:(λn=>jr (λo=>Gc o n) ops i L (waits ops i ops.size 0 0) ops.size 0)=p at c4 c5;have hpe:∀ j C e,ops[j]?=some C->j≠i->L.testBit j=false->(waits ops i ops.size 0 0).testBit j=false->C.dst=some e->p e=true:=by
       intro j C e D O T U Z;have dA:=(jH.1 D).1;rw[<-hp];exact su (g:=λo=>Gc o e) _ 0 j (by omega) (by omega) O T U C D (by unfold Gc lX;rw[Z];exact Nat.beq_refl e)
      have DX:∀ j C,ops[j]?=some C->j≠i->L.testBit j=false->(waits ops i ops.size 0 0).testBit j=false->UX ops i L (waits ops i ops.size 0 0) σ C=true/\o.apart ops C=true:=by
       intro j C D O T U;have dA:=(jH.1 D).1;rcases nB j (by omega) (by omega)with e|e|e|e
       ·exact absurd e O
       ·rw[T]at e;cases e
       ·rw[U]at e;cases e.1
       ·exact e.2 C D
      have yI:∀ j C,ops[j]?=some C->j≠i->L.testBit j=false->(waits ops i ops.size 0 0).testBit j=false->acu ops p σ C:=by
       intro j C D O T U;have hb:=(DX j C D O T U).1;unfold UX at hb;rw[aH,aH,aH]at hb;obtain⟨⟨⟨b1,b2⟩,b3⟩,b4⟩:=hb;have Oc:∀t,jr (lX t) ops i L (waits ops i ops.size 0 0) ops.size 0=false->p t=false:=λt ht=>by rw[<-hp];exact ht
       refine⟨b1,?_,λy I=>?_,λg c t hg ht=>?_⟩
       ·split at b2
        next b s8=>rw[s8,b2]
        ·cases b2
       ·have:=cm.1 b3 y (by simpa using I);rw[aH]at this
        refine⟨this.1,λt ht=>?_⟩
        have h2:=this.2;rw[ht]at h2;exact Oc t (by simpa using h2)
       ·rw[hg]at b4;simp only[ht]at b4;exact Oc t (by simpa using b4)
      have AD:∀ n,20000<=n->p n=false:=by
       intro n hn;cases iV:p n with
       |false=>rfl
       | true=>
        rw[<-hp]at iV;obtain⟨k',VI,uD,kU,rq,yU,xu⟩:=acr _ _ iV;have hm:=(yI k' VI uD kU rq yU).is;unfold rj at hm;rw[aH]at hm;have hm:=hm.2;unfold Gc lX at xu;split at xu
        next e he=>rw[he]at hm;have h1:e=n:=c8 xu;subst h1;exact absurd (cH hm) (Nat.not_le_of_gt (Nat.lt_succ_of_le hn))
        ·cases xu
      have hE:τ=(dL P N Φ ops σ o some).getD σ:=by rw[h2];rfl
      refine Vp (W:=waits ops i ops.size 0 0) ho (λj C D Y=>?_) (λσ=>(dL P N Φ ops σ o some).getD σ)
       (λL' E=>((dL P N Φ ops E o some).isSome=true/\UU E p o=true/\(sk Φ E o).all (Ax E p)=true/\Aw E o=true)/\(∀ j,L'.testBit j=false->L.testBit j=false)/\
        ∀j C,ops[j]?=some C->j≠i->L'.testBit j=false->(waits ops i ops.size 0 0).testBit j=false->acu ops p E C)
       (λL' E hI=>?_) (λL' E j C vg hI D O T U jz=>?_) f L σ yS hi ⟨⟨by rw[h2];rfl,c4,c5,c6⟩,λ_ h=>h,yI⟩ (by rw[<-hE];exact J8 eF f _ τ k (Oo h1))
      ·have dA:=(jH.1 D).1;rcases nB j (by omega) (by omega)with e | e | e | e
       ·subst e;have:=J9 j Y;rw[B6]at this;simp at this
       ·rw[yS j Y]at e;cases e
       ·exact acq D e.2
       ·rw[Y]at e;cases e.1
      ·obtain⟨z,hz⟩:=Option.isSome_iff_exists.1 hI.1.1;rw[hz];rfl
      ·obtain⟨⟨i1,i2,i3,i6⟩,i4,i5⟩:=hI;have ap:=(DX j C D O (i4 j T) U).2;obtain⟨m1,m2,m3,m4⟩:=i5 j C D O T U;obtain⟨a1,a2,a3⟩:=Oper.apart_spec ap;obtain⟨z,hz⟩:=Option.isSome_iff_exists.1 i1;have hEz:(dL P N Φ ops E o some).getD E=z:=by rw[hz];rfl
       have jz:dL P N Φ ops z C some=some vg:=by rw[<-hEz];exact jz
       have acA:∀ t,(E.t t).gM=true->o.dst≠some t->z.t t=E.t t:=by
        intro t ht Z;unfold dL at hz;split at hz
        ·exact ano eF c1 i6 hz ht Z
        ·obtain⟨g1,_⟩:=vB hz;injection g1 with g1;rw[<-g1];cases B9:o.dst with
         |none=>rfl
         |some d=>exact cz _ _ _ (by rintro rfl;exact Z B9)
        ·cases hz
       have anz:∀ g c t,C.guard=some (g,c)->(ops[g]?).bind (·.dst)=some t->(E.t t).gM=true\/E.t t = .skip:=by
        intro g c t hg ht;unfold gQ at m2;rw[hg]at m2;simp only[ht]at m2;split at m2
        next b hb=>left;rw[hb];rfl
        next hb=>exact .inr hb
        ·cases m2
       have Ca:∀ g c t,C.guard=some (g,c)->(ops[g]?).bind (·.dst)=some t->o.dst≠some t:=by
        intro g c t hg ht Z;refine a1 t Z (List.mem_append_right _ ?_);rw[hg];simp only[ht];simp
       have VJ:gQ z ops C=some true:=by
        rw[B5 (σ:=E) λg c t hg ht=>?_]
        ·exact m2
        ·rcases anz g c t hg ht with h | h
         ·exact acA t h (Ca g c t hg ht)
         ·exfalso;unfold gQ at m2;rw[hg]at m2;simp only[ht,h]at m2;cases m2
       have anA:∀ y∈C.op.operands,aJ z y=aJ E y:=by
        intro y I;cases y with
        | tmp t=>
         refine acA t (m3 _ I).1 λZ=>?_
         exact a1 t Z (List.mem_append_left _ (List.mem_filterMap.2 ⟨.tmp t,by simpa using I,rfl⟩))
        |_=>rfl
       obtain⟨e,x,u,Z,he,hx,hu,B8,sq⟩:=Od m1 VJ jz;have DZ:=hpe j C e D O (i4 j T) U Z;have vj:=a3 e Z;have vC:∀ y∈o.op.operands,(aJ E y).nr p=true/\y ≠ .tmp e:=by
        intro y I;refine⟨cm.1 i2 y (by simpa using I),?_⟩;rintro rfl;exact vj (List.mem_append_left _ (List.mem_filterMap.2 ⟨.tmp e,by simpa using I,rfl⟩))
       have B9:o.dst≠some e:=λh=>a2 e h Z
       have anB:gQ (cF e x u E) ops o=gQ E ops o:=by
        have hw:∃ b,gQ E ops o=some b:=by
         unfold dL at hz;cases hw:gQ E ops o with
         |none=>rw[hw]at hz;cases hz
         |some b=>exact⟨b,rfl⟩
        obtain⟨b,hw⟩:=hw
        refine B5 λg c t' FC ht'=>?_
        rw[uC,aX ?_]
        ·exact A.DK (p:=p) (pb:=p) (Ve hw g c t' FC ht') DZ DZ
        ·rintro rfl;refine vj (List.mem_append_right _ ?_);rw[FC];simp only[ht'];simp
       have uA:dL P N Φ ops (cF e x u E) o some=some (cF e x u z):=by
        unfold dL at hz ⊢;rw[anB];split at hz
        next hw=>exact ann eF hx hu he DZ AD c1 i6 B9 vC (λn hn=>cm.1 i3 n hn) hz
        next hw=>obtain⟨g1,g2⟩:=vB hz;injection g1 with g1;refine((g2 (cF e x u E)).at_ _).trans ?_;rw[<-g1,am1 B9 rfl]
        ·cases hz
       have VK:∀y∈o.op.operands,aJ (cF e x u E) y=aJ E y:=λy I=>AB (vC y I).1 DZ (vC y I).2
       have hL:∀ k,(L' ||| 2 ^ j).testBit k=false->L'.testBit k=false/\k≠j:=by
        intro k hk;rw[B6,qM]at hk;refine⟨hk.1,?_⟩;rintro rfl;simp at hk
       refine⟨cF e x u E,sq E m2 (λy I=>(anA y I).symm),?_,⟨by rw[uA];rfl,?_,?_,?_⟩,λk hk=>i4 k (hL k hk).1,λk VI hk hki hkL hkW=>?_⟩
       ·rw[B8,uA];rfl
       ·unfold UU;rw[cm];intro y I;rw[VK y (by simpa using I)];exact(vC y (by simpa using I)).1
       ·have hrj:sk Φ (cF e x u E) o=sk Φ E o:=by
         unfold sk;split
         ·rename_i f' args lC yT;split
          ·refine J2 _ _ λy I=>VK y ?_
           rw[yT];simp only[Op.operands,Call.operands];simp only[Array.mem_append]
           first
            |exact .inr (by simpa using I)
            |exact .inl (by simpa using I)
          ·rfl
         ·rfl
        rw[hrj,cm];intro n hn;have h3:=cm.1 i3 n hn;have bQ:n≠e:=by
         rintro rfl;have iV:p n=false:=by
          unfold sk at hn;split at hn
          ·rename_i f' args lC yT;split at hn
           ·refine J7 _ _ (λy I=>(vC y ?_).1) n hn
            rw[yT];simp only[Op.operands,Call.operands];simp only[Array.mem_append]
            first
             |exact .inr (by simpa using I)
             |exact .inl (by simpa using I)
           ·cases hn
          ·cases hn
         rw[DZ]at iV;cases iV
        unfold Ax at h3 ⊢;rw[sr,aX bQ];cases hm:E.m n with
        |none=>rfl
        | some y=>
         cases y with
         |sl=>rfl
         |mp=>rfl
         |gh=>rfl
         | aD cs=>
          rw[hm]at h3;simp only[Option.map_some,aU.JY,tY.BY h3 DZ];exact h3
       ·unfold Aw at i6 ⊢;split
        next ty t y yT=>rw[yT]at i6;have e1:(cF e x u E).t t=E.t t:=VK (.tmp t) (by rw[yT];simp[Op.operands]);rw[e1];exact i6
        ·rfl
       ·obtain⟨n1,n2,n3,n4⟩:=i5 k VI hk hki (hL k hkL).1 hkW;have anC:∀ t,p t=false->t≠e:=by rintro t ht rfl;rw[DZ]at ht;cases ht
        have acB:∀ t,(E.t t).gM=true->p t=false->(cF e x u E).t t=E.t t:=by
         intro t ht htp;rw[uC,aX (anC t htp)];exact A.On ht e
        refine⟨n1,?_,λy I=>?_,n4⟩
        ·rw[B5 (σ:=E) λg c t hg ht=>?_]
         ·exact n2
         ·unfold gQ at n2;rw[hg]at n2;simp only[ht]at n2;split at n2
          next b hb=>exact acB t (by rw[hb];rfl) (n4 g c t hg ht)
          next hb=>cases n2
          ·cases n2
        ·refine⟨?_,(n3 y I).2⟩;cases y with
         | tmp t=>
          show ((cF e x u E).t t).gM=true;rw[acB t (n3 _ I).1 ((n3 _ I).2 t rfl)];exact(n3 _ I).1
         |const v=>exact(n3 _ I).1
         |global g=>exact(n3 _ I).1
         |func f=>exact(n3 _ I).1
     ·cases h
    ·split at h
     ·rename_i i hf;have hc:=List.find?_some hf;have hm:=sR hf;have hi:=DY.1 hm;split at h
      next o ho=>obtain⟨τ,h1,h2⟩:=Vd eF h;exact anw eF ho hi hc h2 (J8 eF f _ τ k (Oo h1))
      ·cases h
     ·cases h
def Gj{b:Bool}(h:gQ σ ops o=some b)(hR:Rl w0 N af ρ σ a w):Region.wanted o (yielded ops a.tmps)=b:=by
 unfold gQ at h;split at h
 next I=>injection h with h;subst h;simp[Region.wanted,I]
 ·rename_i j want I;split at h
  ·rename_i t O;have D:=hR.tmp t;rw[jt]at D;split at h
   ·rename_i c T;rw[T]at D;have E:=D.2.Bp;injection h with h;subst h;cases C:a.tmps[t]? with
    |none=>rw[C]at E;cases E
    | some v=>
     rw[C]at E;subst E;simp only[Region.wanted,I,yielded,O,Option.bind_some,C];simp_all
   ·rename_i T;rw[T]at D;injection h with h;subst h;cases C:a.tmps[t]? with
    |none=>simp[Region.wanted,I,yielded,O,C]
    | some v=>
     rw[C]at D;have E:=D;subst E;simp only[Region.wanted,I,yielded,O,Option.bind_some,C,undef];simp_all
   ·cases h
  ·cases h
structure xw (ops:Array Oper) (acC:Array Bool) (L:Nat):Prop where
 size:acC.size=ops.size
 bit:∀j,j<ops.size->acC[j]?=some (L.testBit j)
 out:∀j,ops.size<=j->L.testBit j=false
def xw.acD{C:Array Bool}{L:Nat}(h:xw ops C L)(j:Nat):C.getD j false=L.testBit j:=by
 rw[jt];by_cases D:j<ops.size
 ·rw[h.bit j D];rfl
 ·rw[h.out j (by omega),Array.getElem?_eq_none (by rw[h.size];omega)];rfl
def xw.ready{T:Array Bool}{L:Nat}(h:xw ops T L)(j:Nat):j∈Region.ready .any ops T ↔ oc ops L j=true:=by
 rw[mem_ready,J5];constructor
 ·rintro⟨D,o,C,E⟩;have I:=(jH.1 C).1;rw[jt,h.bit j I]at D;exact⟨D,o,C,λe O hb=>by rw[<-h.acD];exact E e O hb⟩
 ·rintro⟨D,o,C,E⟩;have I:=(jH.1 C).1;exact⟨by rw[jt,h.bit j I];exact D,o,C,λe O hb=>by rw[h.acD];exact E e O hb⟩
def xw.set{D:Array Bool}{L i:Nat}(h:xw ops D L)(hi:i<ops.size):xw ops (D.setIfInBounds i true) (L ||| 2 ^ i):=by
 refine⟨by simp[h.size],λj C=>?_,λj C=>?_⟩
 ·rw[B6];by_cases E:i=j
  ·subst E;rw[Array.getElem?_setIfInBounds_self_of_lt (by rw[h.size];exact hi)];simp
  ·rw[Array.getElem?_setIfInBounds_ne E,h.bit j C];simp_all
 ·rw[B6,h.out j C]
  grind
def xw.start:xw ops (Array.replicate ops.size false) 0:=
 ⟨by simp,λj C=>by simp[C],λj _=>Nat.zero_testBit j⟩
def anD(Y:gL P Φ){k:S -> ah X}{i:Nat}(hi:ops[i]?=some o)(h:dL P N Φ ops σ o k=some r):∃ E,k E=some r /\ ∀ a w (K:Act -> World -> Prop) (Q:Exit -> Act -> World -> Prop),R w0 N σ a w -> (∀ T w',R w0 N E T w' -> K T w') -> wpOp P ops Q i K a w:=by
 unfold dL at h;split at h
 ·rename_i I;obtain⟨E,Z,mE⟩:=U2 Y h
  refine⟨E,Z,λa w K Q hR D=>?_⟩
  obtain⟨af,ρ,C⟩:=hR;unfold wpOp;rw[hi];simp[Gj I C];exact .inl (mE a w K Q ⟨af,ρ,C⟩ D)
 ·rename_i I;unfold jm at h;split at h
  ·rename_i O
   refine⟨σ,h,λa w K Q hR D=>?_⟩
   obtain⟨af,ρ,C⟩:=hR;unfold wpOp;rw[hi];simp[Gj I C,O];exact D _ _ ⟨af,ρ,C⟩
  ·rename_i d O;cases U:Nat.blt d N with
   |false=>simp_all
   | true=>
    rw[U,av]at h
    refine⟨_,h,λa w K Q hR D=>?_⟩
    obtain⟨af,ρ,C⟩:=hR;unfold wpOp;rw[hi];simp only[Gj I C,O];exact D _ _ ⟨af,ρ,C.set rfl (by have:=cH U;omega)⟩
 ·cases h
def acE(U:gL P Φ){K:S -> Prop}{Q:Exit -> Act -> World -> Prop}(I:∀ O,K O -> ∀ a w,R w0 N O a w -> Q .normal a w):
  ∀(f L:Nat) (σ:S) (E:Array Bool),Any P N Φ ops K f L σ -> xw ops E L -> ∀a w,R w0 N σ a w -> wpAny P .any ops Q f E a w
 | 0,L,σ,E,h,D,a,w,hR=>by
  refine⟨List.eq_nil_iff_forall_not_mem.2 λj C=>?_,I σ h.2 a w hR⟩
  rw[D.ready,h.1]at C;cases C
 | f+1,L,σ,E,h,D,a,w,hR=>by
  refine⟨λhr=>I σ (h.1 λj=>?_) a w hR,λj C=>?_⟩
  ·cases C:oc ops L j with
   |false=>rfl
   | true=>
    have:=(D.ready j).2 C;simp_all
  ·have Y:=(D.ready j).1 C;obtain⟨o,O,Z,hd,hA⟩:=h.2 j Y;obtain⟨vg,T,hw⟩:=anD U Z hd;injection T with T;subst T;exact hw a w _ Q hR λa' w' dK=>acE U I f _ _ _ hA (D.set (acs Y)) a' w' dK
def R.drawn(hR:R w0 N σ a w):R w0 N σ a { w with drawn:=w.drawn+1 }:=by
 obtain⟨af,ρ,h⟩:=hR;exact⟨af,ρ,h.grow ⟨rfl,rfl,rfl,dg _,λ_ _=>rfl⟩ (λ_ _=>rfl) (λb k hb hl=>absurd (h.dj b k hl).2.1 (Nat.not_lt.2 hb))⟩
theorem anE[Inhabited Wd](C:gL P Φ){id:Nat}{k:S->ah X}(E:P.follows .mixedOrders=true)(h:ur P N Φ ops ops.size 0 σ k=some r){Q:Exit->Act->World->Prop}(I:∀ D,k D=some r->∀ a w,R w0 N D a w->Q .normal a w)(hR:R w0 N σ a w):
  (Code.region id ops true).wp P Q a w:=
 wp_region_any E (acE C I _ _ _ _ (J8 C _ _ _ _ h) xw.start a _ hR.drawn)
/-! Values. -/
end
end Go.Proofs.YthmgjjfedieljaaGreat
