/-
  Running the program over pure contents, and that it follows (part 4). Nothing here is a claim.
-/
import Derived.Test.YtnilicojgkhpnaaGreatV3
set_option linter.unusedSimpArgs false
namespace Go.Proofs.YtnilicojgkhpnaaGreat
set_option linter.defProp false
open Go.RowKit
set_option linter.unusedVariables false
def gI(σ:S):ah Tmp->A->S
 |none,_=>σ
 |some d,v=>σ.set d v
section
variable {P:Program} {w w':World} {w0:Wd} {B N:Nat} {aj aD:bM} {ρ ρ':Nat->Loc} {σ:S} {a:Act} {X:Type} {d:Nat} {r:X} {o:Oper} {Φ:eX} {p pb:Nat->Bool} {e:Nat} {x:bu} {u:A} {ops:Array Oper}
def tv{C:ah Tmp}{x:A}{k:S -> ah X}(h:iH N σ C x k=some r):k (gI σ C x)=some r /\ ∀ (σ2:S),nc (λX k=>iH (X:=X) N σ2 C x k) (gI σ2 C x):=by
 unfold iH at h;split at h
 ·exact⟨h,λ_ X k=>rfl⟩
 ·rename_i d;cases D:Nat.blt d N with
  |false=>simp_all
  |true=>rw[D]at h;exact⟨h,λ_ X k=>by simp[iH,D];rfl⟩
def JS{f:Nat}{c:jl}(C:gu P Φ)(h:Φ f=some (.p c)):iR P f c:=(C f _ h).2
def qOK{f:Nat}{c:jl}(C:gu P Φ)(h:Φ f=some (.q c)):iR P f c:=(C f _ h).2
def arK{f:Nat}{C:ah Tmp}{c:uF}{xs:aa A}(D:gu P Φ)(h:Φ f=some (.i c)):cS λX k=>JB (X:=X) N σ C c xs k:=λX Y k g=>
 ((D f _ h).2.1 N σ xs X Y _ g).trans (bf (c.run Y N σ xs) (funext λE=>funext λy=>yd X Y k g))
def aej(C:gu P Φ):cS λX k=>eA (X:=X) P N Φ σ o k:=λX Y k g=>by
 unfold eA
 refine dI ((Xv.comp λv=>yd) X Y k g) ?_
 unfold jb hU rP AF Ah ye Ad
 repeat' first
  |rfl
  |exact PW _ _ _ _
  |exact adP _ _ _ _
  |exact aqY _ _ _ _
  |exact adS (JS C (by assumption)) FC _ _ _ _
  |exact Xi _ _ _ _
  |exact aq3 _ _ _ _
  |exact arK C (by assumption) _ _ _ _
  |exact aqv (λ_=>Xi) _ _ _ _
  |exact adS (qOK C (by assumption)) adR _ _ _ _
  |exact ara _ _ _ _
  |exact aqW _ _ _ _
  |exact arv _ _ _ _
  |exact aqJ _ _ _ _
  |exact ari _ _ _ _
  |exact(arj.comp λv=>yd) X Y k g
  |exact ark _ _ _ _
  |exact yd _ _ _ _
  |exact(apr.comp λv=>yd) X Y k g
  |refine dI ?_ ?_
  |split
def jn.bp{σ C:S}(h:jn p pb σ C){t r j:Nat}(D:σ.t t = .aG r j)(E:pb r=false):C.t t = .aG r j:=by
 rw[<-D];exact h.t (by rw[D];simpa [A.qh,A.fr,wz]using E)
def kr(p:Nat->Bool):A->Prop
 |.aG r _=>p r=true
 |.ptr _=>False
 |_=>True
def jn.st{D:Nat->Bool}{σ C:S}(h:jn p pb σ C){t:Nat}(E:kr D (σ.t t)):kr D (C.t t):=by
 rcases h.nw t with e|e
 ·rw[e];exact E
 ·revert e;cases C.t t<;>simp[A.yj,kr]
def jn.XA{σ C:S}(h:jn p pb σ C){x:Operand}(D:(aP σ x).qh p pb=true):aP C x=aP σ x:=by
 cases x with
 |tmp t=>exact h.t D
 |const v=>rfl
 |global g=>rfl
 |func f=>rfl
def jn.val{σ U:S}(h:jn p pb σ U){E:Op}{v:A}(D:nc (λX k=>nq (X:=X) P σ E k) v)(T:∀ y∈E.operands,(aP σ y).qh p pb=true)(Z:v.qh p pb=true)(O:∀ t y r j,E = .load t y->aP σ y = .aG r j->p r=false):nc (λX k=>nq (X:=X) P U E k) v:=by
 intro X k
 refine(aeb E (λy L=>⟨h.XA (T y L),λq e X k=>Qe h.sl q k (aei (T y L) e)⟩) (λt y e k=>?_) k).trans (D X k)
 subst e;have D:nc (λX k=>oO (X:=X) P σ t (aP σ y) k) v:=D;have L:=T y (by simp[Op.operands]);have O:=λr j=>O t y r j rfl
 generalize aP σ y=u at D L O;by_cases Y:∃r j,u = .aG r j
 ·obtain⟨r,j,rfl⟩:=Y;have C:oO P σ t (.aG r j) some=some v:=D A some;rw[D.at_ k];simp only[oO]at C ⊢;split at C
  ·cases C
  ·split at C
   next cs gP=>obtain⟨f,e1,e2⟩:=h.aB r (O r j rfl) cs gP;obtain⟨z,⟨⟩,e4⟩:=PU.oc C;rw[e1];simp only[];rw[<-List.map_drop,<-List.map_take,List.map_congr_left λl hl=>e2 l (arI C Z l hl),List.map_id'];exact e4.at_ k
   ·cases C
 ·exact Sm.load (λq e X k=>Qe h.sl q k (aei L e)) (λr j e=>absurd ⟨r,j,e⟩ Y) k
def XB:∀ (xs:aa V) (c:Nat) (σ:S),(∀ n,c <= n -> p n=true/\pb n=true) -> jn p pb σ (ng c σ xs)
 |[],c,σ,h=>.refl σ
 | x :: xs,c,σ,h=>by
  simp[ng];cases D:x.aF with
  |true=>exact XB xs _ σ (λn C=>h n (by omega))
  |false=>exact .trans (.root c (.sl x) (h c (dW _)).1 (h c (dW _)).2 (.refl σ)) (XB xs (c+1) _ (λn C=>h n (by omega)))
def XC:∀ (ps:aa Pt) (c:Nat) (σ:S),(∀ n,c<=n->p n=true/\pb n=true)->jn p pb σ (qd c σ ps)
 |[],c,σ,h=>.refl σ
 |q::ps,c,σ,h=>(XB q.2 c σ h).trans (XC ps _ _ (λn C=>h n (by omega)))
def AJ{σ2:S}{ops:Array Oper}(h:∀ g b t,o.guard=some (g,b) -> (ops[g]?).bind (·.dst)=some t -> σ2.t t=σ.t t):gw σ2 ops o=gw σ ops o:=by
 unfold gw
 grind
def rY(p pb:Nat->Bool)(x:A):Prop:=∀r,x = .lf (.own [r])->p r=true/\pb r=true
def jn.tg{C D:Nat->Bool}{σ E:S}(h:jn p pb σ E){t:Nat}(L:rY C D (σ.t t)):rY C D (E.t t):=by
 rcases h.nw t with e|e
 ·rw[e];exact L
 ·intro r O;rw[O]at e;cases e
structure tw (P:Program) (N:Nat) (Φ:eX) (o:Oper) (p pb:Nat->Bool) (qN τ:S) where
 G:S->S
 u:A
 eq:τ=gI (G qN) o.dst u
 run:∀σ2:S,(∀x∈o.op.operands,aP σ2 x=aP qN x)->σ2.m=qN.m->eA P N Φ σ2 o some=some (gI (G σ2) o.dst u)
 grow:∀σ,jn p pb σ (G σ)
 set:∀(σ:S) d v,(A.qh p pb v)=true->G (σ.set d v)=(G σ).set d v
 bp:isApp o=false->∀(σ:S) t r j,σ.t t = .aG r j->gi o r=false->(G σ).t t = .aG r j
theorem tw.new{D:S}{d:Nat}(E:o.dst=some d)(C:p d=true/\pb d=true)(T:gi o d=true)(x:bu)(u:A){L:S}(e:L=((D.drop d).root d x).set d u)
  (U:∀σ2:S,(∀x∈o.op.operands,aP σ2 x=aP D x)->eA P N Φ σ2 o some=some (((σ2.drop d).root d x).set d u)):Nonempty (tw P N Φ o p pb D L):=
 ⟨{ G:=λσ=>(σ.drop d).root d x,u:=u,eq:=by rw[E];exact e,run:=λσ2 h _=>by rw[U σ2 h,E];rfl,grow:=λσ=>.root d x C.1 C.2 (.refl σ),
    set:=λσ e v Y=>by rw[S.drop_set d (A.FD Y C.1 C.2)];rfl
    bp:=λ_ σ t r j Z O=>by
     show A.drop d (σ.t t)=_;rw[Z];exact A.rJ (by simp only[A.fr,xK];rw[pS (by rintro rfl;rw[T]at O;cases O)];rfl) }⟩
def aek{d:Nat}{C:gC}{D:S}(h:oT σ d C some=some D):∃ (ps:aa Pt) (u:A),∀ σ,oT σ d C some=some ((qd (1000000000100000+1000*d) σ ps).set d u):=by
 unfold oT at h ⊢;split at h
 ·rename_i q;split at h
  next y E=>exact⟨[q],y,λσ=>rfl⟩
  ·cases h
 ·exact⟨_,_,λσ=>rfl⟩
theorem ael{f d:Nat}{c:jl}{T:S}{ev:S->(X:Type)->(aa Pt->ah X)->ah X}(U:o.dst=some d)(E:∀ n,1000000000100000+1000*d<=n->gi o n=true)(Z:∀ n,gi o n=true->p n=true/\pb n=true)(hc:iR P f c)(C:cS (ev σ))
  (Xj:∀σ2:S,(∀x∈o.op.operands,aP σ2 x=aP σ x)->σ2.m=σ.m->∀(X:Type) (k:aa Pt->ah X),ev σ2 X k=ev σ X k) (dZ:∀σ2,eA P N Φ σ2 o some=s7 N σ2 d c (ev σ2 S) some) (h:s7 N σ d c (ev σ S) some=some T):Nonempty (tw P N Φ o p pb σ T):=by
 obtain⟨res,sW,D,L,h3⟩:=PY hc C h;injection L with L;subst L;obtain⟨ps,u,Y⟩:=aek D;have O:∀n,1000000000100000+1000*d<=n->p n=true/\pb n=true:=λn C=>Z n (E n C)
 rw[Y]at D;injection D with D;exact⟨{ G:=λσ=>qd (1000000000100000+1000*d) σ ps,u:=u,eq:=by rw[U];exact D.symm,run:=λσ2 tA hm=>by rw[dZ,U];exact(h3 σ2 _ _ (Xj σ2 tA hm) (Y σ2)).at_ _,grow:=λσ=>XC ps _ σ O,set:=λσ e v hv=>adU v ps _ σ λn C=>A.FD hv (O n C).1 (O n C).2,bp:=λ_ σ t r j ht hr=>(XC (p:=gi o) (pb:=gi o) ps _ σ (λn C=>⟨E n C,E n C⟩)).bp ht hr }⟩
theorem arL[Inhabited Wd](eP:gu P Φ){τ:S}(E:P9 Φ o.op=true)(hp:∀ n,gi o n=true->p n=true/\pb n=true)(h:eA P N Φ σ o some=some τ):Nonempty (tw P N Φ o p pb σ τ):=by
 have h0:=h;unfold eA at h;cases hv:gv o.op with
 | true=>
  rw[hv,au]at h;obtain⟨v,L,D,_⟩:=Xw (w0:=default) (N:=N) h;obtain⟨T,h3⟩:=tv L;injection T with T
  refine⟨{ G:=λσ=>σ,u:=v,eq:=T.symm,run:=λσ2 C hm=>?_,grow:=.refl,set:=λ_ _ _ _=>rfl,bp:=λ_ _ _ _ _ h _=>h }⟩
  unfold eA;rw[hv,au,aec o.op hm C];refine(D.at_ _).trans ?_;exact(h3 σ2).at_ _
 | false=>
  rw[hv,aq]at h;have Z:∀σ2,eA P N Φ σ2 o some=jb P N Φ σ2 o some:=λσ2=>by unfold eA;rw[hv,aq]
  unfold jb at h Z;unfold P9 at E;rw[hv,Bool.false_or]at E;split at h
  ·rename_i e C;obtain⟨d,D,h⟩:=kS h;obtain⟨x,y,L,_,T⟩:=aqI h;injection L with L;have U:gi o d=true:=by unfold gi;rw[D,C];exact Nat.beq_refl d
   refine tw.new D (hp d U) U x y L.symm λσ2 _=>?_
   rw[Z,C];simp only[hU,D];exact(T σ2).at_ _
  ·rename_i e x C;obtain⟨d,D,h⟩:=kS h;obtain⟨y,u,L,T⟩:=aqN h;injection L with L;have U:gi o d=true:=by unfold gi;rw[D,C];exact Nat.beq_refl d
   refine tw.new D (hp d U) U _ _ L.symm λσ2 O=>?_
   rw[Z,C];simp only[hU,D];rw[O x (by rw[C];simp[Op.operands])];exact(T σ2).at_ _
  ·rename_i t len parts C;obtain⟨d,D,h⟩:=kS h;have U:gi o d=true:=by unfold gi;rw[D,C];exact Nat.beq_refl d
   cases hn:qO t with
   | true=>
    rw[hn,au]at h;obtain⟨y,u,L,T⟩:=aqQ h;injection L with L
    refine tw.new D (hp d U) U _ _ L.symm λσ2 O=>?_
    rw[Z,C];simp only[hU,D,hn,au]
    refine(T σ2 λq hq=>O _ ?_).at_ _
    rw[C];simp only[Op.operands];exact List.mem_toArray.2 (List.mem_map_of_mem (f:=(·.2)) hq)
   | false=>
    rw[hn,aq]at h;obtain⟨y,L,T⟩:=adN h;injection L with L
    refine tw.new D (hp d U) U _ _ L.symm λσ2 O=>?_
    rw[Z,C];simp only[hU,D,hn,aq]
    refine(T σ2 λq hq=>O _ ?_).at_ _
    rw[C];simp only[Op.operands];exact List.mem_toArray.2 (List.mem_map_of_mem (f:=(·.2)) hq)
  next t x y C=>rw[C]at E;cases E
  ·rename_i t l c C;obtain⟨d,D,h⟩:=kS h;obtain⟨y,L,T⟩:=adM h;injection L with L;have U:gi o d=true:=by unfold gi;rw[D,C];exact Nat.beq_refl d
   refine tw.new D (hp d U) U _ _ L.symm λσ2 O=>?_
   rw[Z,C];simp only[hU,D];rw[O l (by rw[C];simp[Op.operands]),O c (by rw[C];simp[Op.operands])];exact(T σ2).at_ _
  ·rename_i f args oe C;have aem:∀ σ2:S,(∀ x∈o.op.operands,aP σ2 x=aP σ x)->∀ x∈args.toList,aP σ2 x=aP σ x:=λσ2 O x hx=>O x (by
    rw[C];simp only[Op.operands,Call.operands,Array.mem_append]
    first
     |exact .inr (by simpa using hx)
     |exact .inl (by simpa using hx))
   have nm:∀d,o.dst=some d->∀n,1000000000100000+1000*d<=n->gi o n=true:=λd D n hn=>by unfold gi;rw[D,C];exact jv hn
   split at h
   next c Y=>obtain⟨d,D,h⟩:=kS h;exact ael D (nm d D) hp (JS eP Y) (ev:=λσ X k=>sY σ args.toList k) FC (λσ2 O hm X k=>arB hm _ _ (aem σ2 O)) (λσ2=>by rw[Z,C];simp only[Y,hU,D];rfl) h
   iterate 5 (rename_i c Y;rw[C]at E;simp[Y]at E)
   next c Y=>obtain⟨d,D,h⟩:=kS h;exact ael D (nm d D) hp (qOK eP Y) (ev:=λσ X k=>CG σ args.toList k) adR (λσ2 O hm X k=>arD hm _ _ (aem σ2 O)) (λσ2=>by rw[Z,C];simp only[Y,hU,D];rfl) h
   next c Y=>rw[C]at E;simp[Y]at E
   ·cases h
  next x y t t' C=>rw[C]at E;cases E
  next t C=>rw[C]at E;cases E
  next t x i C=>rw[C]at E;cases E
  next t x i v C=>rw[C]at E;cases E
  next t args oe C=>rw[C]at E;cases E
  next f aea C=>rw[C]at E;cases E
  next x t C=>rw[C]at E;cases E
  ·cases h
def aen(C:gu P Φ){ops:Array Oper}:cS λX k=>dU (X:=X) P N Φ ops σ o k:=λX Y k g=>by
 unfold dU;split
 ·exact aej C _ _ _ _
 ·exact yd _ _ _ _
 ·rfl
theorem XD[Inhabited Wd](D:gu P Φ){ops:Array Oper}{k:S->ah X}(h:dU P N Φ ops σ o k=some r):∃ C,k C=some r/\dU P N Φ ops σ o some=some C:=
 let ⟨C,E,L⟩:=(aen D).oc h
 ⟨C,E,L S some⟩
def XE{ops:Array Oper}{b:Bool}(h:gw σ ops o=some b):∀ g c t,o.guard=some (g,c) -> (ops[g]?).bind (·.dst)=some t -> (σ.t t).qh p pb=true:=by
 intro g c t C D;unfold gw at h;rw[C]at h;simp[D]at h;split at h
 next hb=>rw[hb];rfl
 next hb=>rw[hb];rfl
 ·cases h
def FI{ops:Array Oper}{d:Nat}(h:d ∉ o.looksAt ops)(v:A){x:Operand}(C:x∈o.op.operands):aP (σ.set d v) x=aP σ x:=by
 cases x with
 | tmp t=>
  have:t≠d:=by
   rintro rfl;exact h (List.mem_append_left _ (List.mem_filterMap.2 ⟨.tmp t,by simpa using C,rfl⟩))
  exact cU _ _ _ this
 |_=>rfl
def XF{ops:Array Oper}{d:Nat}(h:d ∉ o.looksAt ops)(v:A):∀ g b t,o.guard=some (g,b) -> (ops[g]?).bind (·.dst)=some t -> (σ.set d v).t t=σ.t t:=by
 intro g b t C D;have:t≠d:=by
  rintro rfl;refine h (List.mem_append_right _ ?_);simp_all
 exact cU _ _ _ this
def ny(P:Program)(ops:Array Oper)(C:Oper)(p pb:Nat->Bool)(v:A)(σ:S):Prop:=
 (gw σ ops C=some true/\gv C.op=true/\nc (λX k=>nq (X:=X) P σ C.op k) v/\(∀y∈C.op.operands,(aP σ y).qh p pb=true)/\v.qh p pb=true/\∀t y r j,C.op = .load t y->aP σ y = .aG r j->p r=false)\/(gw σ ops C=some false/\v = .skip)
def ny.grow{ops:Array Oper}{U:Oper}{v:A}(h:ny P ops U p pb v σ){Y:S}(C:jn p pb σ Y):ny P ops U p pb v Y:=by
 rcases h with ⟨D,L,h3,E,Z,h6⟩|⟨D,L⟩
 ·refine .inl ⟨?_,L,C.val h3 E Z h6,λy hy=>?_,Z,λt y r j e h=>?_⟩
  ·rw[AJ λg b t O T=>C.t (XE D g b t O T)];exact D
  ·rw[C.XA (E y hy)];exact E y hy
  ·exact h6 t y r j e (by rw[<-C.XA (E y (by rw[e];simp[Op.operands]))];exact h)
 ·refine .inr ⟨?_,L⟩;rw[AJ λg b t O T=>C.t (XE D g b t O T)];exact D
def ny.set{ops:Array Oper}{D:Oper}{v u:A}(h:ny P ops D p pb v σ){d:Nat}(C:d ∉ D.looksAt ops):ny P ops D p pb v (σ.set d u):=by
 rcases h with ⟨E,L,T,U,Y,Z⟩|⟨E,L⟩
 ·refine .inl ⟨?_,L,λX k=>?_,λy O=>?_,Y,λt y r j e h=>?_⟩
  ·rw[AJ (XF C u)];exact E
  ·exact(aec (σ:=σ) (σ2:=σ.set d u) D.op rfl (λx hx=>FI C u hx) k).trans (T.at_ k)
  ·rw[FI C u O];exact U y O
  ·exact Z t y r j e (by rw[<-FI C u (by rw[e];simp[Op.operands])];exact h)
 ·refine .inr ⟨?_,L⟩;rw[AJ (XF C u)];exact E
def ny.put{ops:Array Oper}{C:Oper}{v u:A}(h:ny P ops C p pb v σ){D:ah Tmp}(E:∀ d,D=some d->d ∉ C.looksAt ops):ny P ops C p pb v (gI σ D u):=by
 cases D with
 |none=>exact h
 |some d=>exact h.set (E d rfl)
def ny.nr{ops:Array Oper}{C:Oper}{v:A}(h:ny P ops C p pb v σ):v.qh p pb=true:=by
 rcases h with ⟨_,_,_,_,D,_⟩|⟨_,E⟩
 ·exact D
 ·rw[E];rfl
def aeo{x y:ah Tmp}(v u:A)(h:∀ d,x=some d->y≠some d):gI (gI σ x v) y u=gI (gI σ y u) x v:=by
 cases x with
 |none=>rfl
 | some d=>cases y with
  |none=>rfl
  |some e=>exact S.set_set (λC=>h d rfl (bf some C)) v u
def arM(x:ah Tmp)(v:A):(gI σ x v).m=σ.m:=by cases x<;>rfl
def XG{ops:Array Oper}{C:ah Tmp}(h:∀ d,C=some d->d ∉ o.looksAt ops)(v:A){x:Operand}(D:x∈o.op.operands):aP (gI σ C v) x=aP σ x:=by
 cases C with
 |none=>rfl
 |some d=>exact FI (h d rfl) v D
def arN{ops:Array Oper}{C:ah Tmp}(h:∀ d,C=some d->d ∉ o.looksAt ops)(v:A):gw (gI σ C v) ops o=gw σ ops o:=by
 cases C with
 |none=>rfl
 |some d=>exact AJ (XF (h d rfl) v)
/-! Calls that write blocks alone. -/
def S.arO{ns:aa Nat}{nr:aa (Nat×bu)}(v:A)(h:v.fE ns []=v):(σ.set d v).fE ns [] nr=(σ.fE ns [] nr).set d v:=by
 refine S.ext' (λk=>?_) λ_=>rfl
 show (ck σ.t d v k).fE ns []=ck (λk=>(σ.t k).fE ns []) d v k;by_cases C:k=d
 ·subst C;rw[cu,cu];exact h
 ·rw[cU _ _ _ C,cU _ _ _ C]
def XH{n:Nat}{x:bu}:∀ {l:aa (Nat×bu)},l.lookup n=some x -> (n,x)∈l
 |[],h=>by cases h
 | q :: l,h=>by
  rw[List.lookup_cons]at h;cases hb:n==q.1 with
  |true =>grind
  |false=>rw[hb]at h;exact .tail _ (XH h)
def Calm(Φ:eX)(ok:Nat->Nat->Bool)(rZ nt p pb:Nat->Bool)(σ:S)(o:Oper):Prop:=
 P9 Φ o.op=true\/False\/
 (∃ty t y,o.op = .store ty (.tmp t) y/\o.dst=none/\rZ t=true/\kr p (σ.t t))\/
 ∃x y t C,o.op = .call ⟨.builtin .append,⟨[.tmp x,y]⟩,⟨[t,C]⟩⟩/\nt x=true/\(qO t=false/\Nat.beq t C=true/\C0 o.dst t (.tmp x)=false)/\rY p pb (σ.t x)
theorem arP{Z:S}{ty:TypeId}{t:Tmp}{y:Operand}(L:o.op = .store ty (.tmp t) y)(Y:o.dst=none)(C:kr p (σ.t t))(h:eA P N Φ σ o some=some Z):Nonempty (tw P N Φ o p pb σ Z):=by
 have Jr:∀ (x:A) (z:A),(∀ k,x ≠ .ptr k) -> yf x z=false:=by
  intro x z E;unfold yf;split
  ·grind
  ·rfl
 have dZ:∀ σ2:S,(∀ k,σ2.t t ≠ .ptr k) -> eA P N Φ σ2 o some=qG P σ2 ty (σ2.t t) (aP σ2 y) some:=by
  intro σ2 Qf;unfold eA;rw[show gv o.op=false by rw[L];rfl,aq];simp only[jb,L,Y];rw[show yf (aP σ2 (.tmp t)) (aP σ2 y)=false from Jr _ _ Qf,aq];rfl
 rw[dZ σ (λk O=>by rw[O]at C;exact C)]at h;cases E:σ.t t with
 | aG D j=>
  rw[E]at h C;have hp:p D=true:=C;have key:∃ x,∀ σ2:S,σ2.m=σ.m -> ∀ v,v=aP σ y -> qG P σ2 ty (.aG D j) v some=some (σ2.root D x):=by
   unfold qG at h;split at h
   ·rename_i n xs hn pX;split at h
    ·rename_i hlen;simp only at h;split at h
     ·rename_i cs gP;split at h
      ·rename_i hj;cases hl:xs.all Lf.live with
       |false=>grind
       | true=>
        refine⟨.aB (splice cs j xs),λσ2 T v hv=>?_⟩
        subst hv;simp only[qG,hn,pX,bJ hlen,T,gP,bJ hj,hl,au];simp only[S.root,T]
      ·cases h
     ·cases h
    ·cases h
   ·cases h
  obtain⟨x,mH⟩:=key;have U:=mH σ rfl _ rfl;rw[h]at U;injection U with U
  refine⟨{ G:=λσ=>σ.root D x,u:=.undef,eq:=by rw[Y];exact U,run:=λσ2 tA T=>?_,grow:=λσ=>.rt D x hp (.refl σ),set:=λσ d v hv=>rfl,bp:=λ_ σ t r j ht _=>ht }⟩
  have e1:σ2.t t = .aG D j:=(tA (.tmp t) (by rw[L];simp[Op.operands])).trans E;rw[dZ σ2 (λk O=>by rw[e1]at O;cases O),e1,mH σ2 T _ (tA y (by rw[L];simp[Op.operands])),Y];rfl
 |ptr k=>rw[E]at C;exact C.elim
 | _=>
  rw[E]at h;exfalso;revert h;unfold qG;split
  ·grind
  ·grind
def cQ(e:Nat)(x:bu)(u:A)(σ:S):S:=((σ.drop e).root e x).set e u
def nA(e:Nat)(u:A):Prop:=u = .aG e 0\/u = .lf (.own [e])
structure kT (x:bu):Prop where
 cL:∀K:n9,x.cL K=x
def kT.drop{x:bu}(h:kT x)(n:Nat):x.drop n=x:=h.cL _
def kT.fE{x:bu}(h:kT x)(ns cn:aa Nat):x.fE ns cn=x:=h.cL _
def kT.zero(C:aa Value):kT (.aB (C.map oQ)):=⟨λK=>bf bu.aB (rK.rJ (cw.2 λc D=>by
 obtain⟨v,_,rfl⟩:=List.mem_map.1 D;unfold oQ;split<;>rfl))⟩
def aep(h:wB o=true):∃ t,∃ e:Nat,o.op = .alloc t/\o.guard=none/\o.dst=some e/\e<20000:=by
 unfold wB at h;rw[aS,aS]at h;obtain⟨⟨C,E⟩,D⟩:=h;split at C
 ·rename_i t L;split at D
  ·simp_all
  ·cases D
 ·cases C
def arQ{ops:Array Oper}{t:TypeId}{e:Nat}(D:o.op = .alloc t)(O:o.guard=none)(T:o.dst=some e){E:S}(h:dU P N Φ ops σ o some=some E):∃ x,kT x/\E=cQ e x (.aG e 0) σ/\∀ σ2,dU P N Φ ops σ2 o some=some (cQ e x (.aG e 0) σ2):=by
 have L:∀ σ2,dU P N Φ ops σ2 o some=rP P N σ2 e t some:=by
  intro σ2;unfold dU gw;rw[O];simp only;unfold eA;rw[show gv o.op=false by rw[D];rfl,aq];simp only[jb,D,hU,T]
 rw[L]at h;unfold rP at h;split at h
 ·rename_i z U;unfold iK at h;cases C:Nat.blt e N with
  |false=>rw[C]at h;cases h
  | true=>
   rw[C,au]at h;injection h with h
   refine⟨_,.zero _,h.symm,λσ2=>(L σ2).trans ?_⟩
   unfold rP iK;rw[U,C];rfl
 ·cases h
def Qg{σ2:S}:∀ (ps:aa PK) (xs:aa Operand),(∀ x∈xs,aP σ2 x=aP σ x) -> o6 σ2 ps xs=o6 σ ps xs
 |[],[],_=>rfl
 |[],_::_,_=>rfl
 |.v _ _::_,[],_=>rfl
 |.p _ _ _::_,[],_=>rfl
 |.s _ _::_,[],_=>rfl
 |.v _ _::ps,x::xs,h=>by simp[o6];exact Qg ps xs (λy C=>h y (.tail _ C))
 |.s _ _::ps,x::xs,h=>by simp only[o6];exact Qg ps xs (λy C=>h y (.tail _ C))
 | .p _ _ _ :: ps,x :: xs,h=>by
  simp only[o6];rw[h x (.head _),Qg ps xs (λy C=>h y (.tail _ C))]
def Calm.mE{ok:Nat->Nat->Bool}{rZ nt:Nat->Bool}{σ2:S}(h:Calm Φ ok rZ nt p pb σ o)(Z:∀ t r j,σ.t t = .aG r j->ok t r=true->σ2.t t = .aG r j)(L:∀ t,rZ t=true->kr p (σ.t t)->kr p (σ2.t t))(O:∀ t,nt t=true->rY p pb (σ.t t)->rY p pb (σ2.t t)):Calm Φ ok rZ nt p pb σ2 o:=by
 rcases h with h|h|⟨ty,t,y,E,C,D,T⟩|⟨x,y,t,U,E,C,Y,D⟩
 ·exact .inl h
 ·exact h.elim
 ·exact .inr (.inr (.inl ⟨ty,t,y,E,C,D,L t D T⟩))
 ·exact .inr (.inr (.inr ⟨x,y,t,U,E,C,Y,O x C D⟩))
def Qh{ops:Array Oper}(U:o7 o=true)(Y:gw σ ops o=some true){τ:S}(h:dU P N Φ ops σ o some=some τ):∃ (e:Nat) (x:bu) (u:A),o.dst=some e/\e<20000/\kT x/\nA e u/\τ=cQ e x u σ/\
  ∀σ2,gw σ2 ops o=some true->(∀y∈o.op.operands,aP σ2 y=aP σ y)->dU P N Φ ops σ2 o some=some (cQ e x u σ2):=by
 have Z:gv o.op=false->∀ σ2,gw σ2 ops o=some true->dU P N Φ ops σ2 o some=jb P N Φ σ2 o some:=by
  intro hv σ2 L;unfold dU;rw[L];simp only;unfold eA;rw[hv,aq]
 have bsl:∀y:V,kT (.sl y):=λy=>⟨λ_=>rfl⟩
 unfold o7 at U;rw[aS]at U;obtain⟨XI,FJ⟩:=U;split at FJ
 ·rename_i e D;have dQ:e<20000:=cX FJ;split at XI
  ·rename_i t C;have E:=Z (by rw[C];rfl);rw[E σ Y]at h;simp only[jb,C,hU,D]at h;unfold rP at h;split at h
   ·rename_i z hz;unfold iK at h;cases hN:Nat.blt e N with
    |false=>rw[hN]at h;cases h
    | true=>
     rw[hN,au]at h;injection h with h
     refine⟨e,.aB (z.cells.toList.map oQ),.aG e 0,D,dQ,.zero _,.inl rfl,h.symm,λσ2 L _=>(E σ2 L).trans ?_⟩
     simp only[jb,C,hU,D];unfold rP iK;rw[hz,hN];rfl
   ·cases h
  ·rename_i t len parts C;have E:=Z (by rw[C];rfl);rw[E σ Y]at h;have hn:qO t=false:=by simpa using XI
   simp only[jb,C,hU,D,hn,aq]at h;obtain⟨y,O,h2⟩:=adN h;injection O with O
   refine⟨e,.sl y,.lf (.own [e]),D,dQ,bsl y,.inr rfl,O.symm,λσ2 L T=>(E σ2 L).trans ?_⟩
   simp only[jb,C,hU,D,hn,aq]
   refine(h2 σ2 λq hq=>T _ ?_).at_ _
   rw[C];simp only[Op.operands];exact List.mem_toArray.2 (List.mem_map_of_mem (f:=(·.2)) hq)
  ·rename_i t l c C;have E:=Z (by rw[C];rfl);rw[E σ Y]at h;simp only[jb,C,hU,D]at h;obtain⟨y,O,h2⟩:=adM h;injection O with O
   refine⟨e,.sl y,.lf (.own [e]),D,dQ,bsl y,.inr rfl,O.symm,λσ2 L T=>(E σ2 L).trans ?_⟩
   simp only[jb,C,hU,D];rw[T l (by rw[C];simp[Op.operands]),T c (by rw[C];simp[Op.operands])];exact(h2 σ2).at_ _
  ·cases XI
 ·cases FJ
def Qi{d:Nat}{t:TypeId}{y z:A}{Y:S}(h:uf P N σ d t y z some=some Y):∃ (r:Nat) (v:V),Y=((σ.drop r).root r (.sl v)).set d (.lf (.own [r]))/\(r=d\/y = .lf (.own [r]))/\
  ∀σ2:S,(∀(k:V->ah S),sV σ2 z k=sV σ z k)->(∀r v,y = .lf (.own [r])->σ.m r=some (.sl v)->σ2.m r=some (.sl v))->uf P N σ2 d t y z some=some (((σ2.drop r).root r (.sl v)).set d (.lf (.own [r]))):=by
 unfold uf at h;split at h
 ·rename_i e O Z;cases L:(Nat.beq (full O) 0&&(zeroOf P e).any (λz=>Nat.beq z.cells.size (aE O)))with
  |false=>rw[L]at h;cases h
  | true=>
   rw[L,au]at h;obtain⟨yv,C,hd⟩:=W4.oc h;clear h;split at C
   ·cases C
   ·rename_i l2 kN;split at C
    ·cases D:bI l2.length with
     |false=>rw[D]at C;cases C
     | true=>
      rw[D,au]at C;cases T:Nat.blt d N with
      |false=>unfold iK at C;rw[T]at C;cases C
      | true=>
       have E:=C;unfold iK at E;rw[T,au]at E;injection E with E
       refine⟨d,.sl O 2 false l2,E.symm,.inl rfl,λσ2 U FJ=>?_⟩
       simp only[uf,Z,L,au];refine(U _).trans ((hd.at_ _).trans ?_);simp only[kN,D,au];unfold iK;rw[T,au]
    ·rename_i rr;split at C
     ·rename_i t' o q l hm;split at C
      ·rename_i od;cases D:(Nat.blt d N&&(Nat.blt rr N || Nat.ble 60000 rr)&&bI (l.length+l2.length))with
       |false=>rw[D]at C;cases C
       | true=>
        rw[D,au]at C;injection C with C
        refine⟨rr,_,C.symm,.inr rfl,λσ2 U FJ=>?_⟩
        simp only[uf,Z,L,au];refine(U _).trans ((hd.at_ _).trans ?_);simp only[kN,FJ rr _ rfl hm,aA od,D,au]
      ·cases C
     ·cases C
    ·cases C
 ·cases h
def XJ(h:isApp o=true):∃ x y t C,o.op = .call ⟨.builtin .append,⟨[x,y]⟩,⟨[t,C]⟩⟩/\qO t=false/\Nat.beq t C=true/\C0 o.dst t x=false:=by
 unfold isApp at h
 grind
def JT{x y:Operand}{t D:TypeId}(E:o.op = .call ⟨.builtin .append,⟨[x,y]⟩,⟨[t,D]⟩⟩)(L:qO t=false)(O:Nat.beq t D=true)(C:C0 o.dst t x=false)(σ:S):eA P N Φ σ o some=hU o λd=>uf P N σ d t (aP σ x) (aP σ y) some:=by
 unfold eA;rw[show gv o.op=false by rw[E];rfl];simp[jb,E,L,O,au];unfold hU;cases T:o.dst with
 |none=>rfl
 | some d=>
  rw[T]at C;have C:P8 t d x=false:=C;simp_all
theorem arR{U:S}{x:Tmp}{y:Operand}{t Y:TypeId}(C:o.op = .call ⟨.builtin .append,⟨[.tmp x,y]⟩,⟨[t,Y]⟩⟩)(E:qO t=false)(L:Nat.beq t Y=true)(O:C0 o.dst t (.tmp x)=false)(hp:∀ n,gi o n=true->p n=true/\pb n=true)(kP:rY p pb (σ.t x))(h:eA P N Φ σ o some=some U):Nonempty (tw P N Φ o p pb σ U):=by
 rw[JT C E L O]at h;obtain⟨d,T,h⟩:=kS h;obtain⟨r,v,iS,hr,uH⟩:=Qi h;have D:p r=true/\pb r=true:=by
  rcases hr with hr|hr
  ·rw[hr];exact hp d (by unfold gi;rw[T,C];exact Nat.beq_refl d)
  ·exact kP r hr
 refine⟨{ G:=λσ=>(σ.drop r).root r (.sl v),u:=.lf (.own [r]),eq:=by rw[T];exact iS,run:=λσ2 Z hm=>?_,grow:=λσ=>.root r _ D.1 D.2 (.refl σ),set:=λσ e v' hv=>(by rw[S.drop_set r (A.FD hv D.1 D.2)];rfl),bp:=λha=>(by rw[isApp,C]at ha;simp[E,L,O]at ha) }⟩
 rw[JT C E L O];unfold hU;rw[T];simp only;rw[Z (.tmp x) (by rw[C];simp[Op.operands,Call.operands]),Z y (by rw[C];simp[Op.operands,Call.operands]),uH σ2 (λk=>arz hm _ k) (λr' v' _ h'=>by rw[hm];exact h')];rfl
theorem arS[Inhabited Wd](eP:gu P Φ){ok:Nat->Nat->Bool}{rZ nt nu:Nat->Bool}(hX:∀ x,nu x=true->kr p (σ.t x)){ops:Array Oper}{oi D:Oper}{v:A}{τ:S}(hF:ny P ops oi p pb v σ)(ha:oi.apart ops D=true)(ht:Calm Φ ok rZ nt p pb σ D)(hp:∀ n,gi D n=true->p n=true/\pb n=true)
  (h:dU P N Φ ops (gI σ oi.dst v) D some=some τ):∃ T,dU P N Φ ops σ D some=some T/\τ=gI T oi.dst v/\ny P ops oi p pb v T/\(isApp D=false->∀ t r j,σ.t t = .aG r j->D.dst≠some t->gi D r=false->T.t t = .aG r j)/\
   (∀t,kr p (σ.t t)->(D.dst≠some t\/(wB D=true/\p t=true)\/∃s x f,D.op = .fieldAddr s (.tmp x) f/\nu x=true)->kr p (T.t t))/\
   ∀t,rY p pb (σ.t t)->(D.dst≠some t\/(o7 D=true/\p t=true/\pb t=true)\/(isApp D=true\/AI Φ D=true))->rY p pb (T.t t):=by
 obtain⟨a1,a2,a3⟩:=Oper.apart_spec ha;have FK:∀ (σ:S) (u:A) t,D.dst≠some t->(gI σ D.dst u).t t=σ.t t:=by
  intro σ u t ht;cases O:D.dst with
  |none=>rfl
  |some d=>exact cU _ _ _ (by rintro rfl;exact ht O)
 have FL:∀ T,dU P N Φ ops σ D some=some T->∀ t,wB D=true->D.dst=some t->p t=true->kr p (T.t t):=by
  intro T C t FL O Xk;obtain⟨ty,e,L,Y,h3,_⟩:=aep FL;rw[h3]at O;injection O with O;subst O;obtain⟨x,_,e1,_⟩:=arQ L Y h3 C;rw[e1];show kr p (ck _ e (.aG e 0) e);rw[cu];exact Xk
 have fin:∀ T,dU P N Φ ops σ D some=some T->(∀ t,D.dst≠some t->kr p (σ.t t)->kr p (T.t t))->∀ t,kr p (σ.t t)->(D.dst≠some t\/(wB D=true/\p t=true)\/∃ s x f,D.op = .fieldAddr s (.tmp x) f/\nu x=true)->kr p (T.t t):=by
  intro T C hk t ht XK;rcases XK with Z|⟨L,Y⟩|⟨s,x,f,L,Y⟩
  ·exact hk t Z ht
  ·by_cases O:D.dst=some t
   ·exact FL T C t L O Y
   ·exact hk t O ht
  ·by_cases O:D.dst=some t
   ·unfold dU at C;split at C
    ·unfold eA at C;rw[show gv D.op=true by rw[L];rfl,au]at C;rw[L]at C;simp only[nq]at C;have hx:=hX x Y;have hx:kr p (aP σ (.tmp x)):=hx;generalize aP σ (.tmp x)=z at hx C;have key:∀ v,iH N σ D.dst v some=some T->kr p v->kr p (T.t t):=by
      intro v hv hA;obtain⟨E,_⟩:=tv hv;injection E with E;rw[<-E,O];show kr p (ck σ.t t v t);rw[cu];exact hA
     unfold Fb at C;split at C
     ·cases C
     ·split at C
      ·split at C
       ·exact key _ C hx
       ·exact key _ C trivial
       ·exact hx.elim
       ·cases C
      ·cases C
    ·obtain⟨E,_⟩:=tv C;injection E with E;rw[<-E,O];show kr p (ck σ.t t .skip t);rw[cu];trivial
    ·cases C
   ·exact hk t O ht
 have arT:=ht;have aeq:∀ T,dU P N Φ ops σ D some=some T->(∀ t,D.dst≠some t->rY p pb (σ.t t)->rY p pb (T.t t))->∀ t,rY p pb (σ.t t)->(D.dst≠some t\/(o7 D=true/\p t=true/\pb t=true)\/(isApp D=true\/AI Φ D=true))->rY p pb (T.t t):=by
  intro T C hk t ht XK;rcases XK with Z|⟨L,Y⟩|arU|C6
  ·exact hk t Z ht
  ·by_cases O:D.dst=some t
   ·cases hw:gw σ ops D with
    |none=>unfold dU at C;rw[hw]at C;cases C
    | some b=>
     cases b with
     | true=>
      obtain⟨e,x,u,E,g2,g3,g4,g5,_⟩:=Qh L hw C;rw[O]at E;injection E with E;subst E;rw[g5];intro r hr;have hr:ck _ t u t = .lf (.own [r]):=hr;rw[cu]at hr;rcases g4 with g4|g4
      ·rw[g4]at hr;cases hr
      ·rw[g4]at hr;injection hr with hr;injection hr with hr;injection hr with hr;subst hr;exact Y
     | false=>
      unfold dU at C;rw[hw]at C;obtain⟨E,_⟩:=tv C;injection E with E;rw[<-E,O];intro r hr;have hr:ck σ.t t .skip t = .lf (.own [r]):=hr;rw[cu]at hr;cases hr
   ·exact hk t O ht
  ·by_cases O:D.dst=some t
   ·obtain⟨x,y,t1,t2,E,g2,g3,g4⟩:=XJ arU;have hT:rY p pb (aP σ x):=by
     rcases arT with q|q|⟨ty,tt,yy,q1,_⟩|⟨x',y',t1',t2',q1,q2,q3,q4⟩
     ·rw[E]at q;cases q
     ·exact q.elim
     ·rw[E]at q1;cases q1
     ·rw[E]at q1;injection q1 with q1;injection q1 with _ q1 _;injection q1 with q1;injection q1 with q1 _;subst q1;exact q4
    cases hw:gw σ ops D with
    |none=>unfold dU at C;rw[hw]at C;cases C
    | some b=>
     cases b with
     | true=>
      unfold dU at C;rw[hw]at C;have C:eA P N Φ σ D some=some T:=C;rw[JT E g2 g3 g4]at C;obtain⟨d,uI,C⟩:=kS C;rw[O]at uI;injection uI with uI;subst uI;obtain⟨r,v,iS,hr,_⟩:=Qi C;rw[iS];intro r' fU;have fU:ck ((σ.drop r).root r (.sl v)).t t (.lf (.own [r])) t = .lf (.own [r']):=fU;rw[cu]at fU;injection fU with fU;injection fU with fU;injection fU with fU;subst fU;rcases hr with hr|hr
      ·rw[hr];exact hp t (by unfold gi;rw[O,E];exact Nat.beq_refl t)
      ·exact hT r hr
     | false=>
      unfold dU at C;rw[hw]at C;obtain⟨E,_⟩:=tv C;injection E with E;rw[<-E,O];intro r hr;have hr:ck σ.t t .skip t = .lf (.own [r]):=hr;rw[cu]at hr;cases hr
   ·exact hk t O ht
  ·by_cases O:D.dst=some t
   ·cases hw:gw σ ops D with
    |none=>unfold dU at C;rw[hw]at C;cases C
    | some b=>
     cases b with
     | true=>
      unfold dU at C;rw[hw]at C;have C:eA P N Φ σ D some=some T:=C;unfold AI at C6;split at C6
      ·rename_i f args oe ho;split at C6
       ·rename_i c hc;unfold eA at C;rw[show gv D.op=false by rw[ho];rfl,aq]at C;simp only[jb,ho,hc]at C;obtain⟨d,uI,C⟩:=kS C;rw[O]at uI;injection uI with uI;subst uI;obtain⟨res,sW,L,Y,_⟩:=PY (JS eP hc) FC C;injection Y with Y;subst Y;have qg:∀ n,1000000000100000+1000*t<=n->p n=true/\pb n=true:=λn hn=>hp n (by unfold gi;rw[O,ho];exact jv hn)
        intro r hr;unfold oT at L;cases res with
        | one q=>
         simp only at L;split at L
         ·rename_i y U;injection L with L;rw[<-L]at hr;have hr:ck _ t y t=A.lf (Lf.own [r]):=hr;rw[cu]at hr;subst hr;obtain⟨b,vs⟩:=q;cases b with
          |true=>cases U
          | false=>
           match vs,U with
           | [v],U=>
            have U:some (A.lf (bif v.aF then Lf.v v else Lf.own [1000000000100000+1000*t]))=some (A.lf (Lf.own [r])):=U;injection U with U;injection U with U;cases hf:v.aF with
            |true=>rw[hf]at U;cases U
            | false=>
             rw[hf]at U;injection U with U;injection U with U;subst U;exact qg _ (dW _)
         ·cases L
        | fB ps=>
         injection L with L;rw[<-L]at hr;have hr:ck _ t _ t=A.lf (Lf.own [r]):=hr;rw[cu]at hr;cases hr
       ·cases C6
      ·cases C6
     | false=>
      unfold dU at C;rw[hw]at C;obtain⟨E,_⟩:=tv C;injection E with E;rw[<-E,O];intro r hr;have hr:ck σ.t t .skip t = .lf (.own [r]):=hr;rw[cu]at hr;cases hr
   ·exact hk t O ht
 unfold dU at h;rw[arN a1]at h;split at h
 ·rename_i hw;have arV:Nonempty (tw P N Φ D p pb (gI σ oi.dst v) τ):=by
   rcases ht with ht|ht|⟨ty,t,y,L,Y,h3,h4⟩|⟨x,y,t1,t2,L,Y,hn,h3⟩
   ·exact arL eP ht hp h
   ·exact ht.elim
   ·refine arP L Y ?_ h;have e1:aP (gI σ oi.dst v) (.tmp t)=aP σ (.tmp t):=XG a1 v (by rw[L];simp[Op.operands]);have e1:(gI σ oi.dst v).t t=σ.t t:=e1;rw[e1];exact h4
   ·refine arR L hn.1 hn.2.1 hn.2.2 hp ?_ h;have e1:aP (gI σ oi.dst v) (.tmp x)=aP σ (.tmp x):=XG a1 v (by rw[L];simp[Op.operands,Call.operands]);have e1:(gI σ oi.dst v).t x=σ.t x:=e1;rw[e1];exact h3
  obtain⟨G,u,e,hr,hg,hs,hbp⟩:=arV;have sg:dU P N Φ ops σ D some=some (gI (G σ) D.dst u):=by
   unfold dU;rw[hw];exact hr σ (λx hx=>(XG a1 v hx).symm) (arM _ _).symm
  refine⟨gI (G σ) D.dst u,sg,?_,(hF.grow (hg σ)).put a3,λwA t r j ht Z qg=>?_,fin _ sg λt Z ht=>?_,aeq _ sg λt Z ht=>?_⟩
  ·refine e.trans ?_;have:∀ dst,G (gI σ dst v)=gI (G σ) dst v:=by
    intro dst;cases dst with
    |none=>rfl
    |some d=>exact hs σ d v hF.nr
   rw[this];exact aeo _ _ a2
  ·rw[FK _ _ t Z];exact hbp wA σ t r j ht qg
  ·rw[FK _ _ t Z];exact(hg σ).st ht
  ·rw[FK _ _ t Z];exact(hg σ).tg ht
 ·rename_i hw;obtain⟨L,Y⟩:=tv h;injection L with L;have sg:dU P N Φ ops σ D some=some (gI σ D.dst .skip):=by
   unfold dU;rw[hw];exact(Y σ).at_ _
  exact⟨gI σ D.dst .skip,sg,by rw[<-L];exact aeo _ _ a2,hF.put a3,λ_ t r j ht Z _=>(by rw[FK _ _ t Z];exact ht),fin _ sg λt Z ht=>(by rw[FK _ _ t Z];exact ht),aeq _ sg λt Z ht=>(by rw[FK _ _ t Z];exact ht)⟩
 ·cases h
def Any(P:Program)(N:Nat)(Φ:eX)(ops:Array Oper)(K:S->Prop):Nat->Nat->S->Prop
 |0,L,σ=>(∀j,mM ops L j=false)/\K σ
 |f+1,L,σ=>((∀j,mM ops L j=false)->K σ)/\∀j,mM ops L j=true->∃o C,ops[j]?=some o/\dU P N Φ ops σ o some=some C/\Any P N Φ ops K f (L |||2 ^ j) C
def AK(L i j:Nat):(L ||| 2 ^ i).testBit j=(L.testBit j || decide (i=j)):=by
 rw[Nat.testBit_or,Nat.testBit_two_pow]
def JU{ops:Array Oper}{L j:Nat}:mM ops L j=true ↔ L.testBit j=false /\ ∃ o,ops[j]?=some o /\ ∀ e∈o.after,Region.binds .any e=true -> L.testBit e.on=true:=by
 unfold mM
 grind
def XL{ops:Array Oper}{L i j:Nat}(h:mM ops L j=true)(C:j≠i):mM ops (L ||| 2 ^ i) j=true:=by
 rw[JU]at h ⊢
 grind
def ny.step{ops:Array Oper}{C:Oper}{v:A}(L:ny P ops C p pb v σ)(O:∀ σ:S,iH N σ C.dst v some=some (gI σ C.dst v)):dU P N Φ ops σ C some=some (gI σ C.dst v):=by
 unfold dU;rcases L with ⟨D,E,T,_,_,_⟩|⟨D,E⟩
 ·rw[D];unfold eA;rw[E,au];exact(T.at_ _).trans (O σ)
 ·simp_all
def XM{K:S -> Prop}{ops:Array Oper}{i W:Nat}{U:Oper}(hi:ops[i]?=some U)(hW:∀ j C,ops[j]?=some C -> W.testBit j=true -> ∃ e∈C.after,Region.binds .any e=true/\(e.on=i \/ W.testBit e.on=true))(E:S -> S)(I:Nat -> S -> Prop)
  (r1:∀L σ,I L σ -> dU P N Φ ops σ U some=some (E σ))
  (r2:∀L σ j C Y,I L σ -> ops[j]?=some C -> j≠i -> L.testBit j=false -> W.testBit j=false -> dU P N Φ ops (E σ) C some=some Y -> ∃O,dU P N Φ ops σ C some=some O/\Y=E O/\I (L |||2 ^ j) O):
  ∀(f L:Nat) (σ:S),(∀j,W.testBit j=true -> L.testBit j=false) -> mM ops L i=true -> I L σ -> Any P N Φ ops K f (L |||2 ^ i) (E σ) -> Any P N Φ ops K (f+1) L σ:=by
 intro f
 induction f with
 | zero=>
  intro L σ wC T Z H
  refine⟨λh=>absurd (h i) (by rw[T];simp),λj hj=>?_⟩
  by_cases D:j=i
  ·subst D;exact⟨U,_,hi,r1 L σ Z,H⟩
  ·have:=XL hj D;rw[H.1]at this;cases this
 | succ f ih=>
  intro L σ wC T Z H
  refine⟨λh=>absurd (h i) (by rw[T];simp),λj hj=>?_⟩
  by_cases D:j=i
  ·subst D;exact⟨U,_,hi,r1 L σ Z,H⟩
  ·obtain⟨C,Y,yl,iS,H'⟩:=H.2 j (XL hj D);obtain⟨FM,oj',Qj,uH⟩:=JU.1 hj;rw[yl]at Qj;injection Qj with Qj;subst Qj;have AL:W.testBit j=false:=by
    cases AL:W.testBit j with
    |false=>rfl
    | true=>
     obtain⟨e,he,hb,ni⟩:=hW j C yl AL;have h1:=uH e he hb;rcases ni with ni|ni
     ·rw[ni,(JU.1 T).1]at h1;cases h1
     ·rw[wC _ ni]at h1;cases h1
   obtain⟨O,hs,AM,hI'⟩:=r2 L σ j C Y Z yl D FM AL iS
   refine⟨C,O,yl,hs,ih (L |||2 ^ j) O (λk hk=>?_) (XL T (Ne.symm D)) hI' ?_⟩
   ·grind
   ·rw[<- AM]
    grind
theorem arW[Inhabited Wd](eP:gu P Φ){ok:Nat -> Nat -> Bool}{rZ nt nu:Nat -> Bool}{K:S -> Prop}{ops:Array Oper}{i W:Nat}{O:Oper}{v:A}(hi:ops[i]?=some O)(hN:∀ σ:S,iH N σ O.dst v some=some (gI σ O.dst v))
  (hW:∀j C,ops[j]?=some C -> W.testBit j=true -> ∃e∈C.after,Region.binds .any e=true/\(e.on=i \/ W.testBit e.on=true)) (f L:Nat) (σ:S)
  (jP:∀t r,ok t r=true -> ∀j C,ops[j]?=some C -> j≠i -> L.testBit j=false -> W.testBit j=false -> C.dst≠some t/\gi C r=false/\isApp C=false)
  (Ql:∀x,nu x=true -> ∀j C,ops[j]?=some C -> j≠i -> L.testBit j=false -> W.testBit j=false -> C.dst≠some x) (hX:∀x,nu x=true -> kr p (σ.t x))
  (Qm:∀t,rZ t=true -> ∀j C,ops[j]?=some C -> j≠i -> L.testBit j=false -> W.testBit j=false -> C.dst≠some t \/ (wB C=true/\p t=true) \/ ∃s x f,C.op = .fieldAddr s (.tmp x) f/\nu x=true)
  (Qn:∀t,nt t=true -> ∀j C,ops[j]?=some C -> j≠i -> L.testBit j=false -> W.testBit j=false -> C.dst≠some t \/ (o7 C=true/\p t=true/\pb t=true) \/ (isApp C=true \/ AI Φ C=true))
  (C7:∀j C,ops[j]?=some C -> j≠i -> L.testBit j=false -> W.testBit j=false -> O.apart ops C=true/\Calm Φ ok rZ nt p pb σ C /\ ∀n,gi C n=true -> p n=true/\pb n=true)
  (wC:∀j,W.testBit j=true -> L.testBit j=false) (hr:mM ops L i=true) (hF:ny P ops O p pb v σ) (H:Any P N Φ ops K f (L |||2 ^ i) (gI σ O.dst v)):Any P N Φ ops K (f+1) L σ:=by
 refine XM hi hW (λσ=>gI σ O.dst v)
  (λL σ=>ny P ops O p pb v σ/\(∀ t r,ok t r=true -> ∀ j C,ops[j]?=some C -> j≠i -> L.testBit j=false -> W.testBit j=false -> C.dst≠some t/\gi C r=false/\isApp C=false) /\
   ((∀x,nu x=true -> ∀j C,ops[j]?=some C -> j≠i -> L.testBit j=false -> W.testBit j=false -> C.dst≠some x) /\ ∀x,nu x=true -> kr p (σ.t x)) /\
   (∀t,rZ t=true -> ∀j C,ops[j]?=some C -> j≠i -> L.testBit j=false -> W.testBit j=false -> C.dst≠some t \/ (wB C=true/\p t=true) \/ ∃s x f,C.op = .fieldAddr s (.tmp x) f/\nu x=true) /\
   (∀t,nt t=true -> ∀j C,ops[j]?=some C -> j≠i -> L.testBit j=false -> W.testBit j=false -> C.dst≠some t \/ (o7 C=true/\p t=true/\pb t=true) \/ (isApp C=true \/ AI Φ C=true)) /\
   ∀j C,ops[j]?=some C -> j≠i -> L.testBit j=false -> W.testBit j=false -> O.apart ops C=true/\Calm Φ ok rZ nt p pb σ C /\ ∀n,gi C n=true -> p n=true/\pb n=true)
  (λL σ h=>h.1.step hN) (λL σ j C τ h yl JV FM AL iS=>?_) f L σ wC hr ⟨hF,jP,⟨Ql,hX⟩,Qm,Qn,C7⟩ H
 obtain⟨hF,jP,⟨Ql,hX⟩,Qm,Qn,C7⟩:=h;obtain⟨c1,c2,c3⟩:=C7 j C yl JV FM AL;obtain⟨dz,hs,AM,hF',Xf,kP,hta⟩:=arS (nu:=nu) eP hX hF c1 c2 c3 iS;have hL:∀ k,(L ||| 2 ^ j).testBit k=false -> L.testBit k=false:=by
  intro k D;rw[AK,pN]at D;exact D.1
 refine⟨dz,hs,AM,hF',λt r E k T D U Y Z=>jP t r E k T D U (hL k Y) Z,⟨λx hx k T D U Y Z=>Ql x hx k T D U (hL k Y) Z,λx hx=>kP x (hX x hx) (.inl (Ql x hx j C yl JV FM AL))⟩,λt E k T D U Y Z=>Qm t E k T D U (hL k Y) Z,λt E k T D U Y Z=>Qn t E k T D U (hL k Y) Z,λk T D U Y Z=>?_⟩
 obtain⟨d1,d2,d3⟩:=C7 k T D U (hL k Y) Z
 refine⟨d1,d2.mE (λt r j' E h=>?_) (λt h E=>kP t E (Qm t h j C yl JV FM AL)) (λt h E=>hta t E (Qn t h j C yl JV FM AL)),d3⟩
 grind
def A.XN(y:A)(a b:Nat):(y.drop a).drop b=(y.drop b).drop a:=A.pR y _ _
def bu.XN(y:bu)(a b:Nat):(y.drop a).drop b=(y.drop b).drop a:=bu.pR y _ _
def nA.drop(h:nA e u){n:Nat}(C:e≠n):u.drop n=u:=by
 rcases h with rfl|rfl
 ·simp only[A.drop,pS C,aq,A.cL,xK]
 ·have:dc n [e]=false:=by simp[dc,C]
  simp only[A.drop,Lf.drop,this,aq,A.cL,xK,Lf.cL]
def nA.fE(h:nA e u){ns cn:aa Nat}(D:dS e ns=false)(C:dS e cn=false):u.fE ns cn=u:=by
 rcases h with rfl|rfl
 ·simp only[A.fE,C,aq,A.cL,Fu]
 ·have E:gQ [e] ns=false:=D;have L:gQ [e] cn=false:=C;simp only[A.fE,Lf.fE,E,L,A.cL,Fu,Lf.cL];rfl
def sj(k:Nat):(cQ e x u σ).t k=if k=e then u else (σ.t k).drop e:=by
 by_cases C:k=e
 ·subst C;rw[bJ rfl];exact cu _ _ _
 ·rw[bQ C];exact cU _ _ _ C
def qi(n:Nat):(cQ e x u σ).m n=if n=e then some x else (σ.m n).map (bu.drop e):=by
 show ck (λr=>bif Nat.beq r e then none else (σ.m r).map (bu.drop e)) e (some x) n=_;by_cases C:n=e
 ·subst C;rw[bJ rfl,cu]
 ·rw[bQ C,cU _ _ _ C,pS C];rfl
def XO(c:Nat)(y:bu)(k:Nat):((σ.drop c).root c y).t k=(σ.t k).drop c:=rfl
def aer(c:Nat)(y:bu)(n:Nat):((σ.drop c).root c y).m n=if n=c then some y else (σ.m n).map (bu.drop c):=by
 show ck (λr=>bif Nat.beq r c then none else (σ.m r).map (bu.drop c)) c (some y) n=_;by_cases C:n=c
 ·subst C;rw[bJ rfl,cu]
 ·rw[bQ C,cU _ _ _ C,pS C];rfl
def aes{c:Nat}(z:V)(L:kT x)(O:nA e u)(T:e≠c):((cQ e x u σ).drop c).root c (.sl z)=cQ e x u ((σ.drop c).root c (.sl z)):=by
 refine S.ext' (λk=>?_) λn=>?_
 ·rw[XO,sj,sj,XO];by_cases C:k=e
  ·rw[bJ C,bJ C];exact O.drop T
  ·rw[bQ C,bQ C];exact A.pR _ _ _
 ·rw[aer,qi,qi,aer];by_cases D:n=c
  ·rw[bJ D,bQ,bJ D];rfl
  ·rw[bQ D];by_cases E:n=e
   ·rw[bJ E,bJ E];simp only[Option.map_some,L.drop]
   ·rw[bQ E,bQ E,bQ D,Option.map_map,Option.map_map];congr 1;funext y;exact bu.pR y _ _
def Qo(C:kT x)(D:nA e u):∀ (xs:aa V) (c:Nat) (σ:S),e<c -> ng c (cQ e x u σ) xs=cQ e x u (ng c σ xs)
 |[],c,σ,_=>rfl
 | y :: xs,c,σ,h=>by
  simp[ng];cases E:y.aF with
  |true=>exact Qo C D xs _ σ (by omega)
  | false=>
   rw[aes y C D (by omega)];exact Qo C D xs _ _ (by omega)
def aet(C:kT x)(D:nA e u):∀ (ps:aa Pt) (c:Nat) (σ:S),e<c -> qd c (cQ e x u σ) ps=cQ e x u (qd c σ ps)
 |[],c,σ,_=>rfl
 | q :: ps,c,σ,h=>by
  simp[qd];rw[Qo C D _ _ _ h];exact aet C D ps _ _ (by omega)
def Qp{v:A}(D:d≠e)(E:v.drop e=v):(cQ e x u σ).set d v=cQ e x u (σ.set d v):=by
 refine S.ext' (λk=>?_) λn=>?_
 ·show ck (cQ e x u σ).t d v k=_;rw[sj];show _=if k=e then u else (ck σ.t d v k).drop e;by_cases C:k=d
  ·subst C;rw[cu,bQ D,cu,E]
  ·rw[cU _ _ _ C,cU _ _ _ C,sj]
 ·rfl
def arX{v:A}{C:ah Tmp}(D:C≠some e)(E:v.drop e=v):gI (cQ e x u σ) C v=cQ e x u (gI σ C v):=by
 cases C with
 |none=>rfl
 |some d=>exact Qp (by rintro rfl;exact D rfl) E
def arY{ns cn:aa Nat}{nr:aa (Nat×bu)}(T:kT x)(U:nA e u)(E:dS e ns=false)(L:dS e cn=false)(O:∀ q∈nr,q.1≠e/\q.2.drop e=q.2):(cQ e x u σ).fE ns cn nr=cQ e x u (σ.fE ns cn nr):=by
 have hl:nr.lookup e=none:=by
  cases hl:nr.lookup e with
  |none=>rfl
  |some y=>exact absurd rfl (O _ (XH hl)).1
 refine S.ext' (λk=>?_) λn=>?_
 ·show ((cQ e x u σ).t k).fE ns cn=_;rw[sj,sj];by_cases C:k=e
  ·rw[bJ C,bJ C];exact U.fE E L
  ·rw[bQ C,bQ C];exact A.pR _ _ _
 ·rw[qi];show (match nr.lookup n with | some x=>some x | none=>bif dS n ns || dS n cn then none else ((cQ e x u σ).m n).map (bu.fE ns cn))=if n=e then some x else (match nr.lookup n with | some x=>some x | none=>bif dS n ns || dS n cn then none else (σ.m n).map (bu.fE ns cn)).map (bu.drop e);by_cases D:n=e
  ·subst D;rw[bJ rfl,hl,E,L];simp only[Bool.or_false,aq,qi,if_true,Option.map_some,T.fE]
  ·rw[bQ D];cases Y:nr.lookup n with
   |some y=>simp only[Option.map_some];rw[(O _ (XH Y)).2]
   | none=>
    simp only;cases (dS n ns ||dS n cn)with
    |true=>rfl
    | false=>
     simp only[aq];rw[qi,bQ D,Option.map_map,Option.map_map];congr 1;funext y;exact bu.pR y _ _
/-! What a call reads. -/
def aeu{q:aa Nat}{k:V->ah X}(h:dc e q=false):jA (cQ e x u σ).m q k=jA σ.m q k:=arG q k h
def ym{y:Operand}(h:(aP σ y).nr p=true)(C:p e=true)(D:y ≠ .tmp e):aP (cQ e x u σ) y=aP σ y:=by
 cases y with
 | tmp t=>
  show (cQ e x u σ).t t=σ.t t;rw[sj,bQ (by rintro rfl;exact D rfl)];exact A.AE h C
 |_=>rfl
def XP{l:Lf}{k:V->ah X}(h:l.nr p=true)(C:p e=true):pW (cQ e x u σ) l k=pW σ l k:=by
 cases l with
 |own q=>exact aeu (adT h C)
 |_=>rfl
def aev{q:aa Nat}{s i j:Nat}{k:V->ah X}(h:oZ p q=true)(C:p e=true):vU (cQ e x u σ) q s i j k=vU σ q s i j k:=by
 unfold vU;exact aeu (adT h C)
def arZ{y:A}{k:V->ah X}(h:y.nr p=true)(C:p e=true):sV (cQ e x u σ) y k=sV σ y k:=by
 cases y with
 |lf l=>exact XP h C
 |view q s i j=>exact aev h C
 |_=>rfl
def XQ(C:p e=true):∀ (xs:aa Lf) (k:aa V -> ah X),xs.all (Lf.nr p)=true -> rT (cQ e x u σ) xs k=rT σ xs k
 |[],k,_=>rfl
 | y :: xs,k,h=>by
  rw[List.all_cons,aS]at h;simp[rT,XP h.1 C];congr 1;funext z;exact XQ C xs _ h.2
def ar0{y:A}{k:Pt->ah X}(h:y.nr p=true)(C:p e=true):oR (cQ e x u σ) y k=oR σ y k:=by
 cases y with
 |lf l=>simp only[oR];exact XQ C _ _ (by rw[List.all_cons,show l.nr p=true from h];rfl)
 |agg cs=>simp only[oR];exact XQ C _ _ h
 |view q s i j=>simp only[oR];exact aev h C
 |jy cs=>cases cs<;>rfl
 |_=>rfl
def aew(C:p e=true):∀ (xs:aa Operand) (k:aa Pt->ah X),(∀ y∈xs,(aP σ y).nr p=true/\y ≠ .tmp e)->sY (cQ e x u σ) xs k=sY σ xs k
 |[],k,_=>rfl
 | y :: xs,k,h=>by
  obtain⟨D,E⟩:=h y (.head _);unfold sY we;rw[ym D C E,ar0 D C];congr 1;funext z;exact aew C xs _ (λy L=>h y (.tail _ L))
def XR{ns:aa Nat}(C:p e=true):∀ (xs:aa Lf) (k:aa V -> ah X),xs.all (Lf.nr p)=true -> x7 (cQ e x u σ) ns xs k=x7 σ ns xs k
 |[],k,_=>rfl
 | y :: xs,k,h=>by
  rw[List.all_cons,aS]at h;simp[x7,XP h.1 C];congr 2;funext z;exact XR C xs _ h.2
def aex{d:Nat}:∀ (xs:aa Lf),rO (xs.map (Lf.drop d))=rO xs
 |[]=>rfl
 | x :: xs=>by
  have C:(x.drop d).pl=x.pl:=by
   cases x with
   | own k=>
    show (bif dc d k then _ else Lf.own k).pl=_;cases dc d k<;>rfl
   |_=>rfl
  simp[List.map_cons,rO,C,aex]
def ar1{ns:aa Nat}{y:A}{k:Pt->ah X}(h:y.nr p=true)(C:p e=true):wj (cQ e x u σ) ns y k=wj σ ns y k:=by
 cases y with
 |lf l=>simp only[wj];exact XR C _ _ (by rw[List.all_cons,show l.nr p=true from h];rfl)
 |agg cs=>simp only[wj];exact XR C _ _ h
 |n8 f cs=>cases cs<;>rfl
 | fn f cap=>
  match cap,h with
  |[],_=>rfl
  |_::_::_,_=>rfl
  | [(D,j)],h=>
   have E:p D=false:=by simpa [A.nr,A.fr,wz]using h
   have L:D≠e:=by rintro rfl;rw[C]at E;cases E
   simp only[wj,qi,bQ L];cases σ.m D with
   |none=>rfl
   | some z=>
    cases z with
    |aB cs=>simp only[Option.map_some,bu.JQ,<-List.map_drop,aex]
    |_=>rfl
 |_=>rfl
def ar2{l:Lf}(h:l.nr p=true)(C:p e=true):Ax (cQ e x u σ).m l=Ax σ.m l:=by
 cases l with
 | own k=>
  match k with
  |[]=>rfl
  | [q]=>
   have D:q≠e:=by
    have h:(!p q)=true:=by simpa [Lf.nr,Lf.fr,oZ,jM]using h
    rintro rfl;rw[C]at h;cases h
   simp only[Ax];rw[qi,bQ D];cases σ.m q with
   |none=>rfl
   |some y=>cases y<;>rfl
  |_::_::_=>rfl
 |v x=>rfl
 |dead=>rfl
def aey(D:p e=true):∀ (C:aa Lf),C.all (Lf.nr p)=true -> uB (cQ e x u σ).m C=uB σ.m C
 |[],_=>rfl
 | l :: C,h=>by
  rw[List.all_cons,aS]at h;simp[uB,ar2 h.1 D,aey D C h.2]
def aez{m:Nat->ah bu}:∀ {cs:aa Lf} {E:aa (V×ah Nat)},uB m cs=some E->cs.all (Lf.nr p)=true->∀ v∈E,∀ q,v.2=some q->p q=false
 |[],E,h,_=>by injection h with h;subst h;simp
 | c :: cs,E,h,L=>by
  rw[List.all_cons,aS]at L;unfold uB at h;split at h
  ·rename_i v Y C T;injection h with h;subst h;intro u hu q D;rcases iG.1 hu with rfl | hu
   ·unfold Ax at C;split at C
    ·injection C with C;rw[<-C]at D;cases D
    ·rename_i Z;split at C
     ·rename_i y _;cases O:y.aF with
      |true=>rw[O]at C;injection C with C;rw[<-C]at D;cases D
      | false=>
       rw[O,aq]at C;injection C with C;rw[<-C]at D;injection D with D;subst D;have U:=L.1
       simpa [Lf.nr,Lf.fr,oZ,jM]using U
     ·cases C
    ·cases C
   ·exact aez T L.2 u hu q D
  ·cases h
def Qq(p:Nat->Bool):Mu->Prop
 |.aB r cs C=>p r=false/\cs.all (Lf.nr p)=true/\∀v∈C,∀q,v.2=some q->p q=false
 |.sl q _=>p q=false
def XS(L:p e=true):∀ (ps:aa PK) (xs:aa Operand) (O:aa Mu),(∀ y∈xs,(aP σ y).nr p=true/\y ≠ .tmp e)->(∀ n∈o6 σ ps xs,yh σ p n=true)->oh σ ps xs=some O->oh (cQ e x u σ) ps xs=some O/\∀ C∈O,Qq p C
 |[],[],O,_,_,h=>⟨h,by injection h with h;subst h;simp⟩
 |[],_::_,O,_,_,h=>by cases h
 |_::_,[],O,_,_,h=>by cases h
 | q :: ps,y :: xs,O,hy,hl,h=>by
  obtain⟨E,h2⟩:=hy y (.head _);have v8:∀ n∈o6 σ ps xs,yh σ p n=true:=by
   intro n Z;refine hl n ?_;cases q with
   |v=>exact Z
   |s=>exact Z
   | p t g off=>
    simp only[o6];split
    ·exact .tail _ Z
    ·exact Z
  unfold oh at h;have D:∀ z,CN σ q (aP σ y)=some z->CN (cQ e x u σ) q (aP (cQ e x u σ) y)=some z/\∀ C,z=some C->Qq p C:=by
   intro z hz;rw[ym E L h2];have T:=CQ hz;cases q with
   | v=>
    cases z with
    |some C=>exact T.elim
    |none=>exact⟨hz,by simp⟩
   | p t g off=>
    cases z with
    |none=>exact T.elim
    | some C=>
     cases C with
     |sl=>exact T.elim
     | aB Y cs vs=>
      obtain⟨U,hm,hg,hlen⟩:=T;have fU:p Y=false:=by
       rw[U]at E;have E:(!p Y)=true:=E
       simpa using E
      have dH:Y≠e:=by rintro rfl;rw[L]at fU;cases fU
      have gP:cs.all (Lf.nr p)=true:=by
       have:=hl Y (by simp only[o6,U];exact .head _);unfold yh at this;rw[hm]at this;exact this
      have vW:(cQ e x u σ).m Y=some (.aB cs):=by
       rw[qi,bQ dH,hm];simp only[Option.map_some,bu.JQ,rK.AE gP L]
      refine⟨?_,λC D=>?_⟩
      ·rw[U];simp only[CN,Nat.beq_refl,au,vW,aey L cs gP,hg];have:Nat.blt cs.length 999=true:=jv hlen;rw[this];rfl
      ·injection D with D;subst D;exact⟨fU,gP,aez hg gP⟩
   | s t g=>
    cases z with
    |none=>exact T.elim
    | some C=>
     cases C with
     |aB=>exact T.elim
     | sl q y0=>
      obtain⟨U,hm,hf⟩:=T;have hq:p q=false:=by
       rw[U]at E;have E:(!p q)=true:=by simpa [A.nr,A.fr,wz,Lf.nr,Lf.fr,oZ,jM]using E
       simpa using E
      have dH:q≠e:=by rintro rfl;rw[L]at hq;cases hq
      refine⟨?_,λC D=>?_⟩
      ·rw[U];simp only[CN];rw[qi,bQ dH,hm];simp only[Option.map_some,bu.drop,hf,aq,bu.cL]
      ·injection D with D;subst D;exact hq
  split at h
  ·rename_i C P5 k1 k2;injection h with h;subst h;obtain⟨g1,g2⟩:=D _ k1;obtain⟨f1,f2⟩:=XS L ps xs P5 (λy h=>hy y (.tail _ h)) v8 k2
   refine⟨by simp only[oh,g1,f1],λm hm=>?_⟩
   rcases iG.1 hm with rfl|hm
   ·exact g2 _ rfl
   ·exact f2 m hm
  next P5 k1 k2=>injection h with h;subst h;obtain⟨g1,g2⟩:=D _ k1;obtain⟨f1,f2⟩:=XS L ps xs P5 (λy h=>hy y (.tail _ h)) v8 k2;exact⟨by simp only[oh,g1,f1],f2⟩
  ·cases h
def Qr(D:p e=true)(ns:aa Nat):∀ (ps:aa PK) (xs:aa Operand) (C:aa Mu) (k:nh ps->ah X),(∀ y∈xs,(aP σ y).nr p=true/\y ≠ .tmp e)->oX (cQ e x u σ) ns ps xs C k=oX σ ns ps xs C k
 |[],[],[],k,_=>rfl
 | .v b t :: ps,y :: xs,C,k,h=>by
  obtain⟨L,O⟩:=h y (.head _);simp only[oX];rw[ym L D O,ar1 L D];congr 1;funext z;congr 1;split
  ·exact Qr D ns ps xs C _ (λy E=>h y (.tail _ E))
  ·rfl
 | .p t g off :: ps,y :: xs,.aB T cs U :: C,k,h=>by
  simp only[oX];split
  ·exact Qr D ns ps xs C _ (λy E=>h y (.tail _ E))
  ·rfl
 | .s t g :: ps,y :: xs,.sl q Y :: C,k,h=>by
  simp only[oX];split
  ·exact Qr D ns ps xs C _ (λy E=>h y (.tail _ E))
  ·rfl
 |[],[],_::_,k,_=>rfl
 |[],_::_,_,k,_=>rfl
 |.v _ _::_,[],_,k,_=>rfl
 |.p _ _ _::_,[],_,k,_=>rfl
 |.s _ _::_,[],_,k,_=>rfl
 |.p _ _ _::_,_::_,[],k,_=>rfl
 |.s _ _::_,_::_,[],k,_=>rfl
 |.p _ _ _::_,_::_,.sl _ _::_,k,_=>rfl
 |.s _ _::_,_::_,.aB _ _ _::_,k,_=>rfl
def XT{i:Nat}:∀ (C:aa (V×ah Nat)) (j:Nat),(∀ v∈C,∀ q,v.2=some q -> p q=false) -> ∀ u∈Jk i j C,p u.1=false
 |[],_,_,u,hu=>by cases hu
 |(y,none)::C,j,h,u,hu=>XT C (j+1) (λv D=>h v (.tail _ D)) u hu
 | (y,some q) :: C,j,h,u,hu=>by
  rcases iG.1 hu with rfl|hu
  ·simp_all
  ·exact XT C (j+1) (λv D=>h v (.tail _ D)) u hu
def XU:∀ (C:aa Mu) (i:Nat),(∀ E∈C,Qq p E) -> ∀ u∈oW i C,p u.1=false
 |[],_,_,u,hu=>by cases hu
 | .aB U cs L :: C,i,h,u,hu=>by
  obtain⟨O,Y,T⟩:=h _ (.head _);rcases iG.1 hu with rfl|hu
  ·exact O
  ·rcases List.mem_append.1 hu with hu | hu
   ·exact XT L 0 T u hu
   ·exact XU C _ (λm D=>h m (.tail _ D)) u hu
 | .sl q y :: C,i,h,u,hu=>by
  rcases iG.1 hu with rfl|hu
  ·exact h _ (.head _)
  ·exact XU C (i+1) (λm D=>h m (.tail _ D)) u hu
def XV{c0:Nat}(E:∀ n,c0 <= n -> p n=false):∀ (C:aa (V×ah Nat)) (n:Nat),(∀ v∈C,∀ q,v.2=some q -> p q=false) -> ∀ u∈qf c0 n C,p u=false
 |[],_,_,u,hu=>by cases hu
 | (y,none) :: C,n,h,u,hu=>by
  rcases iG.1 hu with rfl|hu
  ·simp_all
  ·exact XV E C (n+1) (λv D=>h v (.tail _ D)) u hu
 | (y,some q) :: C,n,h,u,hu=>by
  rcases iG.1 hu with rfl|hu
  ·simp_all
  ·exact XV E C (n+1) (λv D=>h v (.tail _ D)) u hu
def XW:∀ (C:aa Nat) (xs:aa V),∀ u∈CR C xs,u∈C
 |[],[],u,hu=>by cases hu
 | n :: C,y :: xs,u,hu=>by
  simp[CR]at hu;cases D:y.aF with
  |true=>rw[D]at hu;exact .tail _ (XW C xs u hu)
  | false=>
   rw[D]at hu;rcases iG.1 hu with rfl|hu
   ·simp_all
   ·exact .tail _ (XW C xs u hu)
def aeA{ns cn:aa Nat}:∀ (C:aa Nat) (D:aa Lf) (xs:aa V),(∀ n∈C,p n=false)->D.all (Lf.nr p)=true->(qL ns cn C D xs).all (Lf.nr p)=true
 |[],_,_,_,_=>by simp[qL]
 |_::_,[],_,_,_=>by simp[qL]
 |_::_,_::_,[],_,_=>by simp[qL]
 | n :: C,l :: D,y :: xs,L,E=>by
  rw[List.all_cons,aS]at E;simp only[qL,List.all_cons,aS]
  refine⟨?_,aeA C D xs (λn O=>L n (.tail _ O)) E.2⟩
  cases y.plain with
  |true=>rfl
  | false=>
   simp only[aq];cases y.aF with
   | true=>
    simp only[au];cases l with
    | own k=>
     have T:Lf.fE ns cn (.own k)=(bif gQ k cn ||(gQ k ns && !(Nat.beq k.length 1))then .dead else .own k):=rfl;rw[T];cases (gQ k cn ||(gQ k ns && !(Nat.beq k.length 1)))with
     |true=>rfl
     |false=>exact E.1
    |v x=>rfl
    |dead=>rfl
   | false=>
    show (!p n)=true;rw[L n (.head _)];rfl
def XX:∀ (C:aa Nat) (xs:aa V),∀ u∈Az C xs,u.1∈C /\ ∃ y,u.2 = .sl y
 |[],[],u,hu=>by cases hu
 |[],_::_,u,hu=>by cases hu
 | n :: C,y :: xs,u,hu=>by
  simp[Az]at hu;cases L:y.aF with
  |true=>rw[L]at hu;obtain⟨D,E⟩:=XX C xs u hu;exact⟨.tail _ D,E⟩
  | false=>
   rw[L]at hu;rcases iG.1 hu with rfl|hu
   ·simp_all
   ·obtain⟨D,E⟩:=XX C xs u hu;exact⟨.tail _ D,E⟩
def XY{c0:Nat}{ns cn:aa Nat}(E:p e=true)(T:∀ n,c0<=n->p n=false):∀ (D:aa Mu) (outs:aa In) (C:Nat),(∀ mu∈D,Qq p mu)->(∀ u∈qK c0 C D outs,p u=false)/\∀ u∈oY ns cn c0 C D outs,u.1≠e/\u.2.drop e=u.2
 |[],outs,C,_=>⟨(λu hu=>by simp[qK]at hu),(λu hu=>by simp[oY]at hu)⟩
 |.aB _ _ _::_,[],C,_=>⟨(λu hu=>by cases hu),(λu hu=>by cases hu)⟩
 |.sl _ _::_,[],C,_=>⟨(λu hu=>by cases hu),(λu hu=>by cases hu)⟩
 |.aB _ _ _::_,.sl _::_,C,_=>⟨(λu hu=>by cases hu),(λu hu=>by cases hu)⟩
 |.sl _ _::_,.aB _::_,C,_=>⟨(λu hu=>by cases hu),(λu hu=>by cases hu)⟩
 | .aB r' cs vs :: D,.aB xs :: outs,C,h=>by
  obtain⟨L,h2,h3⟩:=h _ (.head _);obtain⟨U,O⟩:=XY (ns:=ns) (cn:=cn) E T D outs (C+1+vs.length) (λm Y=>h m (.tail _ Y));have dH:∀n,p n=false->n≠e:=by rintro n hn rfl;rw[E]at hn;cases hn
  have Z:=XV T vs (C+1) h3
  refine⟨λu hu=>?_,λu hu=>?_⟩
  ·simp only[qK]at hu;rcases List.mem_append.1 hu with hu | hu
   ·exact Z u (XW _ _ u hu)
   ·exact U u hu
  ·simp only[oY]at hu;rcases iG.1 hu with rfl | hu
   ·refine⟨dH _ L,?_⟩;rw[bu.JQ,rK.AE (aeA _ _ _ Z h2) E]
   ·rcases List.mem_append.1 hu with hu | hu
    ·obtain⟨g1,y,g2⟩:=XX _ _ u hu;exact⟨dH _ (Z _ g1),by rw[g2];rfl⟩
    ·exact O u hu
 | .sl q y :: D,.sl y' :: outs,C,h=>by
  have L:p q=false:=h _ (.head _);obtain⟨U,O⟩:=XY (ns:=ns) (cn:=cn) E T D outs (C+1) (λm Y=>h m (.tail _ Y))
  refine⟨λu hu=>U u (by simpa [qK]using hu),λu hu=>?_⟩
  simp only[oY]at hu;cases hy:y'.kJ with
  |false=>rw[hy]at hu;exact O u hu
  |true=>
  rw[hy]at hu;rcases iG.1 hu with rfl|hu
  ·exact⟨(by rintro rfl;rw[E]at L;cases L),rfl⟩
  ·exact O u hu
def XZ:∀ (xs:aa V) (c:Nat),e<c->(oS c xs).map (Lf.drop e)=oS c xs
 |[],_,_=>rfl
 | y :: xs,c,h=>by
  simp only[oS,List.map_cons];rw[XZ xs (c+1) (by omega)];cases y.aF with
  |true=>rfl
  | false=>
   have:dc e [c]=false:=by simp[dc];omega
   simp only[aq,Lf.drop,this,Lf.cL]
def ar3{b:Bool}{xs:aa Lf}{y:A}(h:Ab (b,xs)=some y)(C:xs.map (Lf.drop e)=xs):y.drop e=y:=by
 unfold Ab at h;split at h
 next D=>injection h with h;subst h;obtain⟨_,rfl⟩:=D;exact bf A.agg C
 next z D=>injection h with h;subst h;obtain⟨_,rfl⟩:=D;simp at C;exact bf A.lf C
 ·cases h
def aeB:∀ (ps:aa Pt) (c:Nat),e<c->(sZ c ps).map (λq=>(q.1,q.2.map (Lf.drop e)))=sZ c ps
 |[],_,_=>rfl
 | q :: ps,c,h=>by
  simp only[sZ,List.map_cons];rw[XZ _ _ h,aeB ps _ (by omega)]
def ar4(ps:aa Pt)(c:Nat)(h:e<c):A.drop e (.fB (sZ c ps)) = .fB (sZ c ps):=bf A.fB (aeB ps c h)
def aeC(C:kT x)(D:nA e u)(U:e<20000)(E:d≠e){L:gC}{O:S}(h:oT σ d L some=some O):oT (cQ e x u σ) d L some=some (cQ e x u O):=by
 unfold oT at h ⊢;split at h
 ·split at h
  next y T=>injection h with h;subst h;rw[Qo C D _ _ _ (by omega),Qp E (ar3 T (XZ _ _ (by omega)))]
  ·cases h
 ·injection h with h;subst h;rw[aet C D _ _ _ (by omega),Qp E (ar4 _ _ (by omega))]
def ar5(O:kT x)(T:nA e u)(U:e<20000){C:ah Tmp}(Y:C≠some e){E:gC}{D:S}(h:wm N σ C E some=some D):wm N (cQ e x u σ) C E some=some (cQ e x u D):=by
 cases C with
 | none=>
  have h:some σ=some D:=h;injection h with h;rw[<-h];rfl
 | some d=>
  unfold wm at h ⊢;cases L:Nat.blt d N with
  |false=>simp only[L,aq]at h;cases h
  | true=>
   simp only[L,au]at h ⊢;exact aeC O T U (by rintro rfl;exact Y rfl) h
def ar6(eP:gu P Φ)(hx:kT x)(Y:nA e u)(he:e<20000)(T:p e=true)(yo:∀ n,20000<=n->p n=false)(C:oq Φ o=true)(hd:o.dst≠some e)(tA:∀ y∈o.op.operands,(aP σ y).nr p=true/\y ≠ .tmp e)(hl:∀ n∈tq Φ σ o,yh σ p n=true){τ:S}
  (h:eA P N Φ σ o some=some τ):eA P N Φ (cQ e x u σ) o some=some (cQ e x u τ):=by
 have wD:∃ f args oe,o.op = .call { callee:=.value (.func f),args:=args,argTypes:=oe }:=by
  unfold oq at C;split at C
  ·exact⟨_,_,_,by assumption⟩
  ·cases C
 obtain⟨f,args,oe,D⟩:=wD;have mJ:∀ y∈args.toList,(aP σ y).nr p=true/\y ≠ .tmp e:=by
  intro y hy;refine tA y ?_;rw[D];simp only[Op.operands,Call.operands];simp only[Array.mem_append]
  first
   |exact .inr (by simpa using hy)
   |exact .inl (by simpa using hy)
 have dZ:∀ σ2,eA P N Φ σ2 o some=jb P N Φ σ2 o some:=by
  intro σ2;unfold eA;rw[show gv o.op=false by rw[D];rfl,aq]
 rw[dZ]at h ⊢;cases L:Φ f with
 |none=>simp only[jb,D,L]at h;cases h
 | some c=>
  cases c with
  |n F=>rw[oq,D]at C;simp[L]at C
  |v c=>rw[oq,D]at C;simp[L]at C
  |i c=>rw[oq,D]at C;simp[L]at C
  |d c=>rw[oq,D]at C;simp[L]at C
  |q c=>rw[oq,D]at C;simp[L]at C
  |c c=>rw[oq,D]at C;simp[L]at C
  | p c=>
   simp only[jb,D,L]at h ⊢;obtain⟨d,Z,h⟩:=kS h;have hde:d≠e:=by rintro rfl;exact hd Z
   obtain⟨res,sW,h1,E,h3⟩:=PY (JS eP L) FC h;injection E with E;subst E;simp only[hU,Z];exact(h3 (cQ e x u σ) (cQ e x u sW) (λX k=>sY (cQ e x u σ) args.toList k) (λX k=>aew T _ k mJ) (aeC hx Y he hde h1)).at_ _
  | m c=>
   simp only[jb,D,L]at h ⊢;have Jt:∀ n∈o6 σ c.ps args.toList,yh σ p n=true:=by
    intro n U;refine hl n ?_;simp only[tq,D,L];exact U
   unfold td at h;split at h
   ·rename_i O AD;obtain⟨g1,g2⟩:=XS (x:=x) (u:=u) T c.ps args.toList O mJ Jt AD;cases ni:(once (oW 0 O)&&Nat.ble O.length 40)with
    |false=>rw[ni]at h;cases h
    | true=>
     rw[ni,au]at h;obtain⟨z,E,aeD⟩:=(Xh _ _ _).oc h;simp only[td,g1,ni,au];rw[Qr T _ _ _ _ _ mJ];refine(aeD S _).trans ?_;split at E
     ·rename_i y hy;unfold PJ at E ⊢;generalize qa:qK (jm o.dst) (fV c.ro y.1).len O (lY (fQ c.ps) y.2)=cn at E;generalize jP:Jq N O (lY (fQ c.ps) y.2) cn=ok at E;cases ok with
      |false=>cases E
      | true=>
       rw[au]at E;have x4:∀ n,jm o.dst<=n->p n=false:=by
        intro n U;refine yo n ?_;cases Z:o.dst with
        |none=>rw[Z]at U;simp only[jm]at U;omega
        |some d=>rw[Z]at U;simp only[jm]at U;omega
       obtain⟨k1,k2⟩:=XY (ns:=(oW 0 O).map (·.1)) (cn:=cn) T x4 O (lY (fQ c.ps) y.2) (fV c.ro y.1).len g2;rw[qa]at k1;rw[au,arY hx Y ?_ ?_ k2]
       ·exact ar5 hx Y he hd E
       ·cases hm:dS e ((oW 0 O).map (·.1))with
        |false=>rfl
        | true=>
         obtain⟨u,Y,e1⟩:=List.mem_map.1 (x6.1 hm);have:=XU O 0 g2 u Y;rw[e1,T]at this;cases this
       ·cases hm:dS e cn with
        |false=>rfl
        |true=>have:=k1 e (x6.1 hm);rw[T]at this;cases this
     ·cases E
   ·cases h
def A.aeE{y:A}(h:y.gv=true)(K:n9):y.cL K=y:=by
 refine A.rJ ?_;cases y with
 |lf l=>cases l<;>first|rfl|cases h
 | agg cs=>
  refine cw.2 λl hl=>?_
  have:=cw.1 h l hl;cases l<;>first|rfl|cases this
 |_=>cases h
def A.Qs{y:A}(h:y.gv=true)(n:Nat):y.drop n=y:=A.aeE h _
def A.ar7{y:A}(h:y.gv=true)(ns cn:aa Nat):y.fE ns cn=y:=A.aeE h _
def X0:∀ (xs:aa V) (c:Nat) (σ:S) {t:Nat},(σ.t t).gv=true -> (ng c σ xs).t t=σ.t t
 |[],c,σ,t,h=>rfl
 | y :: xs,c,σ,t,h=>by
  simp[ng];cases y.aF with
  |true=>exact X0 xs _ σ h
  | false=>
   simp;have C:(((σ.drop c).root c (.sl y)).t t)=σ.t t:=by rw[XO];exact A.Qs h c
   rw[X0 xs _ _ (by rw[C];exact h),C]
def aeF:∀ (ps:aa Pt) (c:Nat) (σ:S) {t:Nat},(σ.t t).gv=true -> (qd c σ ps).t t=σ.t t
 |[],c,σ,t,h=>rfl
 | q :: ps,c,σ,t,h=>by
  simp[qd];have C:=X0 q.2 c σ h;rw[aeF ps _ _ (by rw[C];exact h),C]
def aeG{D:gC}{C:S}(h:oT σ d D some=some C){t:Nat}(E:(σ.t t).gv=true)(L:t≠d):C.t t=σ.t t:=by
 obtain⟨ps,u,O⟩:=aek h;rw[O]at h;injection h with h;rw[<-h];exact(cU _ _ _ L).trans (aeF _ _ _ E)
def ar8{C:ah Tmp}{L:gC}{D:S}(h:wm N σ C L some=some D){t:Nat}(O:(σ.t t).gv=true)(T:C≠some t):D.t t=σ.t t:=by
 cases C with
 | none=>
  have h:some σ=some D:=h;injection h with h;rw[<-h]
 | some d=>
  unfold wm at h;cases E:Nat.blt d N with
  |false=>simp only[E,aq]at h;cases h
  | true=>
   simp only[E,au]at h;exact aeG h O (by rintro rfl;exact T rfl)
def ar9(eP:gu P Φ)(C:oq Φ o=true){U:S}(h:eA P N Φ σ o some=some U){t:Nat}(T:(σ.t t).gv=true)(Y:o.dst≠some t):U.t t=σ.t t:=by
 have wD:∃ f args Z,o.op = .call { callee:=.value (.func f),args:=args,argTypes:=Z }:=by
  unfold oq at C;split at C
  ·exact⟨_,_,_,by assumption⟩
  ·cases C
 obtain⟨f,args,Z,E⟩:=wD;have dZ:eA P N Φ σ o some=jb P N Φ σ o some:=by
  unfold eA;rw[show gv o.op=false by rw[E];rfl,aq]
 rw[dZ]at h;cases L:Φ f with
 |none=>simp only[jb,E,L]at h;cases h
 | some c=>
  cases c with
  |n F=>rw[oq,E]at C;simp[L]at C
  |v c=>rw[oq,E]at C;simp[L]at C
  |i c=>rw[oq,E]at C;simp[L]at C
  |d c=>rw[oq,E]at C;simp[L]at C
  |q c=>rw[oq,E]at C;simp[L]at C
  |c c=>rw[oq,E]at C;simp[L]at C
  | p c=>
   simp only[jb,E,L]at h;obtain⟨d,uI,h⟩:=kS h;obtain⟨res,sW,h1,D,h3⟩:=PY (JS eP L) FC h;injection D with D;subst D;exact aeG h1 T (by rintro rfl;exact Y uI)
  | m c=>
   simp only[jb,E,L]at h;unfold td at h;split at h
   ·rename_i O AD;cases ni:(once (oW 0 O)&&Nat.ble O.length 40)with
    |false=>rw[ni]at h;cases h
    | true=>
     rw[ni,au]at h;obtain⟨z,D,aeD⟩:=(Xh _ _ _).oc h;split at D
     ·rename_i y hy;unfold PJ at D;generalize Jq N O (lY (fQ c.ps) y.2) (qK (jm o.dst) (fV c.ro y.1).len O (lY (fQ c.ps) y.2))=ok at D;cases ok with
      |false=>cases D
      | true=>
       rw[au]at D;have e1:∀ns cn nr,(σ.fE ns cn nr).t t=σ.t t:=λns cn nr=>A.ar7 T ns cn
       have:=ar8 (t:=t) D (by rw[e1];exact T) Y;rw[this,e1]
     ·cases D
   ·cases h
def asa{E:Nat}{L:bu}{O:A}(T:kT x)(U:nA e u)(Y:kT L)(Z:nA E O)(h:e≠E):cQ E L O (cQ e x u σ)=cQ e x u (cQ E L O σ):=by
 refine S.ext' (λk=>?_) λn=>?_
 ·simp only[sj];by_cases C:k=E
  ·subst C;rw[bJ rfl,bQ (Ne.symm h),bJ rfl,Z.drop (Ne.symm h)]
  ·rw[bQ C];by_cases D:k=e
   ·subst D;rw[bJ rfl,bJ rfl,U.drop h]
   ·rw[bQ D,bQ D,bQ C,A.XN]
 ·simp only[qi];by_cases C:n=E
  ·subst C;rw[bJ rfl,bQ (Ne.symm h),bJ rfl,Option.map_some,Y.drop]
  ·rw[bQ C];by_cases D:n=e
   ·subst D;rw[bJ rfl,bJ rfl,Option.map_some,T.drop]
   ·rw[bQ D,bQ D,bQ C];cases σ.m n with
    |none=>rfl
    |some y=>simp only[Option.map_some,bu.XN]
def asb(O:kT x)(T:nA e u)(U:p e=true)(Y:o7 o=true)(Z:o.dst≠some e)(C:∀ y∈o.op.operands,(aP σ y).nr p=true/\y ≠ .tmp e){D:S}
  (h:eA P N Φ σ o some=some D):eA P N Φ (cQ e x u σ) o some=some (cQ e x u D):=by
 obtain⟨e',x',u',hd',Jj,mH,vX,iS,uH⟩:=Qh (o:={ o with guard:=none }) (ops:=#[]) Y rfl h;have dH:e≠e':=by rintro rfl;exact Z hd'
 have E:=uH (cQ e x u σ) rfl λy L=>ym (C y L).1 U (C y L).2
 rw[asa O T mH vX dH,<- iS]at E;exact E
def asc(D:o7 o=true){C:S}(h:eA P N Φ σ o some=some C){t:Nat}(E:(σ.t t).gv=true)(L:o.dst≠some t):C.t t=σ.t t:=by
 obtain⟨O,Z,u',T,Jj,mH,vX,U,uH⟩:=Qh (o:={ o with guard:=none }) (ops:=#[]) D rfl h;have Y:t≠O:=by rintro rfl;exact L T
 rw[U,sj,bQ Y,A.Qs E]
def asd(hx:kT x)(hu:nA e u)(C:p e=true)(hm:isApp o=true)(hd:o.dst≠some e)(O:∀ y∈o.op.operands,(aP σ y).nr p=true/\y ≠ .tmp e){T:S}
  (h:eA P N Φ σ o some=some T):eA P N Φ (cQ e x u σ) o some=some (cQ e x u T):=by
 obtain⟨a,b,t,t',L,hn,od,hk⟩:=XJ hm;have E:=O a (by rw[L];simp[Op.operands,Call.operands]);have hb:=O b (by rw[L];simp[Op.operands,Call.operands]);rw[JT L hn od hk]at h ⊢;obtain⟨d,U,h⟩:=kS h;obtain⟨r,v,iS,hr,uH⟩:=Qi h;have Y:d≠e:=by rintro rfl;exact hd U
 have Z:r≠e:=by
  rcases hr with h1|h1
  ·rw[h1];exact Y
  ·rintro rfl;have D:=E.1;rw[h1]at D;simp[A.nr,A.fr,wz,Lf.nr,Lf.fr,oZ,jM,C]at D
 unfold hU;rw[U];simp only;rw[ym E.1 C E.2,ym hb.1 C hb.2,uH (cQ e x u σ) (λk=>arZ hb.1 C) (λr' v' fU vW=>?_)]
 ·rw[aes v hx hu (Ne.symm Z),Qp Y ?_,iS];have:dc e [r]=false:=by simp[dc,Z]
  simp only[A.drop,Lf.drop,this,aq,A.cL,xK,Lf.cL]
 ·have dH:r'≠e:=by
   rintro rfl;have D:=E.1;rw[fU]at D;simp[A.nr,A.fr,wz,Lf.nr,Lf.fr,oZ,jM,C]at D
  rw[qi,bQ dH,vW];rfl
def ase(D:isApp o=true){C:S}(h:eA P N Φ σ o some=some C){t:Nat}(E:(σ.t t).gv=true)(L:o.dst≠some t):C.t t=σ.t t:=by
 obtain⟨a,b,t1,t2,O,T,U,Y⟩:=XJ D;rw[JT O T U Y]at h;obtain⟨d,Z,h⟩:=kS h;obtain⟨r,v,iS,hr,uH⟩:=Qi h;have dH:t≠d:=by rintro rfl;exact L Z
 rw[iS];show ck ((σ.drop r).root r _).t d _ t=_;rw[cU _ _ _ dH];exact A.Qs E r
def aeH(C:∃ ty t y,o.op = .store ty (.tmp t) y/\o.dst=none /\ ∃ r j,σ.t t = .aG r j){L:S}(h:eA P N Φ σ o some=some L):∃ t y r j cs xs,o.op.operands = #[.tmp t,y]/\σ.t t = .aG r j/\(aP σ y).z0=some xs/\σ.m r=some (.aB cs)/\L=σ.root r (.aB (splice cs j xs)) /\
  ∀(σ2:S) (D:aa Lf),σ2.t t = .aG r j -> aP σ2 y=aP σ y -> σ2.m r=some (.aB D) -> D.length=cs.length -> eA P N Φ σ2 o some=some (σ2.root r (.aB (splice D j xs))):=by
 obtain⟨ty,t,y,C,Y,r,j,O⟩:=C;have T:∀ σ2:S,σ2.t t = .aG r j -> eA P N Φ σ2 o some=qG P σ2 ty (.aG r j) (aP σ2 y) some:=by
  intro σ2 E;unfold eA;rw[show gv o.op=false by rw[C];rfl,aq];simp[jb,C,Y];have Z:aP σ2 (.tmp t) = .aG r j:=E;rw[Z,show yf _ _=false from rfl,aq]
 rw[T σ O]at h;unfold qG at h;split at h
 ·rename_i n xs hn U;split at h
  ·rename_i hlen;simp only at h;split at h
   ·rename_i cs gP;split at h
    ·rename_i hj;cases hl:xs.all Lf.live with
     |false=>simp_all
     | true=>
      rw[hl,au]at h;injection h with h
      refine⟨t,y,r,j,cs,xs,by rw[C];rfl,O,U,gP,h.symm,λσ2 D h1 E h3 h4=>?_⟩
      rw[T σ2 h1,E];simp only[qG,hn,U,bJ hlen,h3];rw[bJ (by rw[h4];exact hj),hl];rfl
    ·cases h
   ·cases h
  ·cases h
 ·cases h
def aeI(C:JN o=true)(E:yg σ o=true):∃ ty t y,o.op = .store ty (.tmp t) y/\o.dst=none /\ ∃ r j,σ.t t = .aG r j:=by
 unfold JN at C;rw[aS]at C;obtain⟨D,L⟩:=C;split at D
 ·rename_i ty t y O;refine⟨ty,t,y,O,Option.isNone_iff_eq_none.1 L,?_⟩;unfold yg at E
  grind
 ·cases D
def asf{y:A}{xs:aa Lf}(h:y.z0=some xs)(C:y.nr p=true):xs.all (Lf.nr p)=true:=by
 cases y with
 |lf l=>injection h with h;subst h;rw[List.all_cons,show l.nr p=true from C];rfl
 |agg cs=>injection h with h;subst h;exact C
 |_=>cases h
def asg(hx:kT x)(hu:nA e u)(C:p e=true)(hm:JN o=true)(hs:yg σ o=true)(O:∀ y∈o.op.operands,(aP σ y).nr p=true/\y ≠ .tmp e){T:S}
  (h:eA P N Φ σ o some=some T):eA P N Φ (cQ e x u σ) o some=some (cQ e x u T):=by
 obtain⟨t,y,r,j,cs,xs,U,Y,g3,g4,g5,g6⟩:=aeH (aeI hm hs) h;have D:=O (.tmp t) (by rw[U];simp);have E:=O y (by rw[U];simp);have e1:(cQ e x u σ).t t = .aG r j:=(ym D.1 C D.2).trans Y;have Z:r≠e:=by
  have h2:(aP σ (.tmp t)).nr p=true:=D.1;have h3:aP σ (.tmp t) = .aG r j:=Y;rw[h3]at h2;exact arH h2 C
 have e3:(cQ e x u σ).m r=some (.aB (cs.map (Lf.drop e))):=by
  rw[qi,bQ Z,g4];rfl
 have pX:=rK.AE (asf g3 E.1) C;rw[g6 (cQ e x u σ) _ e1 (ym E.1 C E.2) e3 (by rw[eK]),g5];congr 1
 refine S.ext' (λk=>?_) λn=>?_
 ·show (cQ e x u σ).t k=(cQ e x u (σ.root r (.aB (splice cs j xs)))).t k;rw[sj,sj];rfl
 ·show ck (cQ e x u σ).m r (some (.aB (splice (cs.map (Lf.drop e)) j xs))) n=(cQ e x u (σ.root r (.aB (splice cs j xs)))).m n;rw[qi];by_cases L:n=r
  ·subst L;rw[cu,bQ Z];show _=(ck σ.m n (some (bu.aB (splice cs j xs))) n).map (bu.drop e);rw[cu];simp only[Option.map_some,bu.JQ,splice,List.map_append,List.map_take,List.map_drop,pX]
  ·rw[cU _ _ _ L,qi];have:(σ.root r (.aB (splice cs j xs))).m n=σ.m n:=cU _ _ _ L;rw[this]
def ash(D:JN o=true)(E:yg σ o=true){C:S}(h:eA P N Φ σ o some=some C)(t:Nat):C.t t=σ.t t:=by
 obtain⟨_,_,r,j,cs,xs,_,_,_,_,L,_⟩:=aeH (aeI D E) h;rw[L];rfl
def asi(Y:gu P Φ)(C:kT x)(D:nA e u)(Z:e<20000)(E:p e=true)(yo:∀ n,20000<=n->p n=false)(O:JO Φ o=true)(kP:yg σ o=true)(T:o.dst≠some e)(L:∀ y∈o.op.operands,(aP σ y).nr p=true/\y ≠ .tmp e)(hl:∀ n∈tq Φ σ o,yh σ p n=true){U:S}
  (h:eA P N Φ σ o some=some U):eA P N Φ (cQ e x u σ) o some=some (cQ e x u U):=by
 unfold JO at O;rw[eR,eR,eR]at O;rcases O with ((hc|hc)|hc)|hc
 ·exact ar6 Y C D Z E yo hc T L hl h
 ·exact asb C D E hc T L h
 ·exact asd C D E hc T L h
 ·exact asg C D E hc kP L h
def asj(O:gu P Φ)(C:JO Φ o=true)(T:yg σ o=true){L:S}(h:eA P N Φ σ o some=some L){t:Nat}(D:(σ.t t).gv=true)(E:o.dst≠some t):L.t t=σ.t t:=by
 unfold JO at C;rw[eR,eR,eR]at C;rcases C with ((hc|hc)|hc)|hc
 ·exact ar9 O hc h D E
 ·exact asc hc h D E
 ·exact ase hc h D E
 ·exact ash hc T h t
def aeJ{i W j:Nat}{C:Oper}(D:ops[j]?=some C)(h:JK ops i W j=true):∃ e∈C.after,Region.binds .any e=true/\(e.on=i\/W.testBit e.on=true):=by
 unfold JK at h;rw[D]at h;obtain⟨e,E,hb⟩:=List.any_eq_true.1 h;rw[aS,eR]at hb
 refine⟨e,by simpa using E,hb.1,hb.2.imp (λh=>cK h) id⟩
def X3{g:Oper -> Bool}{C:Oper}{i L W:Nat}:∀ (n j:Nat),JL g ops C i L W n j=true -> ∀ k,j <= k -> k<j+n -> k=i \/ L.testBit k=true \/ (W.testBit k=true/\JK ops i W k=true) \/ (W.testBit k=false /\ ∀ ok,ops[k]?=some ok -> g ok=true/\C.apart ops ok=true)
 |0,j,_,k,D,E=>by omega
 | n+1,j,h,k,D,E=>by
  unfold JL at h;rw[aS,eR,eR]at h;by_cases O:k=j
  ·subst O;rcases h.1 with (h | h) | h
   ·exact .inl (cK h)
   ·exact .inr (.inl h)
   ·grind
  ·exact X3 n (j+1) h.2 k (by omega) (by omega)
def qR{g:Oper -> Bool}{i L W:Nat}:∀ (n j:Nat) (k:Nat),j <= k -> k<j+n -> k≠i -> L.testBit k=false -> W.testBit k=false -> ∀ ok,ops[k]?=some ok -> g ok=true -> ko g ops i L W n j=true
 |0,j,k,C,D,_,_,_,_,_,_=>by omega
 | n+1,j,k,C,D,hi,E,O,ok,T,U=>by
  unfold ko;rw[eR];by_cases Y:k=j
  ·subst Y;refine .inl ?_;have hb:Nat.beq k i=false:=by
    cases hb:Nat.beq k i with
    |false=>rfl
    |true=>simp_all
   simp_all
  ·exact .inr (qR n _ k (by omega) (by omega) hi E O ok T U)
def aeK{g:Oper -> Bool}{i L W:Nat}:∀ (n j:Nat),ko g ops i L W n j=true -> ∃ k ok,ops[k]?=some ok/\k≠i/\L.testBit k=false/\W.testBit k=false/\g ok=true
 |0,j,h=>by cases h
 | n+1,j,h=>by
  unfold ko at h;rw[eR]at h;rcases h with h|h
  ·rw[aS,g9,pN,pN]at h;obtain⟨⟨⟨D,E⟩,O⟩,C⟩:=h;split at C
   next ok T=>exact⟨j,ok,T,(by rintro rfl;rw[Nat.beq_refl]at D;cases D),E,O,C⟩
   ·cases C
  ·exact aeK n _ h
theorem asl[Inhabited Wd]{L i:Nat}{k:S -> ah X}(E:gv o.op=true \/ gw σ ops o=some false)(O:Xr σ (AH Φ ops i L (waits ops i ops.size 0 0) σ) (C4 σ ops i L (waits ops i ops.size 0 0)) o=true)(h:JM P N Φ ops L i σ o k=some r):
  ∃v,k (gI σ o.dst v)=some r/\ny P ops o (AH Φ ops i L (waits ops i ops.size 0 0) σ) (C4 σ ops i L (waits ops i ops.size 0 0)) v σ /\ ∀σ:S,iH N σ o.dst v some=some (gI σ o.dst v):=by
 unfold JM at h;unfold Xr at O;rw[aS]at O;split at h
 ·rename_i C;obtain⟨v,D,hd,_⟩:=Xw (w0:=default) (N:=N) h;cases T:v.qh _ _ with
  |false=>rw[T]at D;cases D
  | true=>
   rw[T,au]at D;obtain⟨U,Y⟩:=tv D;have E:=E.resolve_right (by rw[C];simp)
   refine⟨v,U,.inl ⟨C,E,hd,λy Z=>cw.1 O.1 y (by simpa using Z),T,λt y r j e Z=>?_⟩,λσ=>(Y σ).at_ _⟩
   simp_all
 next C=>obtain⟨U,Y⟩:=tv h;exact⟨.skip,U,.inr ⟨C,rfl⟩,λσ=>(Y σ).at_ _⟩
 ·cases h
def JW{i L W n:Nat}(h:C3 Φ ops i L W σ n=true):AH Φ ops i L W σ n=true:=by unfold AH;rw[h];rfl
def asm{i L W:Nat}(h:IA Φ ops i L W σ o=true):∃ ty t y,o.op = .store ty (.tmp t) y/\o.dst=none/\Qc Φ ops i L W σ t=true/\(∀ k,σ.t t ≠ .ptr k) /\ ∀ r j,σ.t t = .aG r j -> C2 σ o=[r]:=by
 unfold IA at h;split at h
 ·rename_i ty t y C;rw[aS,aS]at h
  refine⟨ty,t,y,C,by simpa using h.1.1,h.1.2,λk E=>?_,λr j D=>by simp[C2,C,D]⟩
  simp_all
 ·cases h
def asn{i L W:Nat}(h:Xp Φ ops i L W o=true):∃ x y t C,o.op = .call ⟨.builtin .append,⟨[.tmp x,y]⟩,⟨[t,C]⟩⟩/\nt Φ ops i L W x=true/\(qO t=false/\Nat.beq t C=true/\C0 o.dst t (.tmp x)=false):=by
 unfold Xp at h
 grind
def JX{p:Nat -> Bool}:∀ (ps:aa PK) (xs:aa Operand),(∀ x∈xs,(aP σ x).nr p=true) -> ∀ n∈o6 σ ps xs,p n=false
 |[],[],_,n,hn=>by cases hn
 |.v _ _::ps,x::xs,h,n,hn=>JX ps xs (λy C=>h y (.tail _ C)) n hn
 |.s _ _::ps,x::xs,h,n,hn=>JX ps xs (λy C=>h y (.tail _ C)) n hn
 | .p _ _ _ :: ps,x :: xs,h,n,hn=>by
  simp[o6]at hn;split at hn
  ·rename_i L j E;rcases iG.1 hn with rfl | hn
   ·have D:=h x (.head _);rw[E]at D;have D:(!p n)=true:=D
    simpa using D
   ·exact JX ps xs (λy C=>h y (.tail _ C)) n hn
  ·exact JX ps xs (λy C=>h y (.tail _ C)) n hn
def Qt{D:ah Tmp}{g:Bool}{k:S -> ah X}(h:tj σ D g k=some r):k σ=some r:=by
 unfold tj at h;cases g with
 |false=>exact h
 | true=>
  rw[au]at h;split at h
  ·rename_i d;split at h
   ·rename_i b hb;have:∀ c,b=c -> σ.set d (.lf (.v (.bool c)))=σ:=by
     rintro c rfl
     refine S.ext' (λk=>?_) λ_=>rfl
     show ck _ _ _ _=_;by_cases C:k=d
     ·subst C;rw[cu,hb]
     ·rw[cU _ _ _ C]
    grind
   ·exact h
  ·exact h
def aeL{L j:Nat}(h:mM ops L j=true):j<ops.size:=by
 obtain⟨_,o,C,_⟩:=JU.1 h
 grind
def C8{L j:Nat}:j∈(List.range ops.size).filter (mM ops L) ↔ mM ops L j=true:=by
 rw[List.mem_filter,fI];exact⟨λh=>h.2,λh=>⟨aeL h,h⟩⟩
structure aeM (ops:Array Oper) (p:Nat->Bool) (σ:S) (o:Oper):Prop where
 is:o7 o=true
 want:gw σ ops o=some true
 aIG:∀y∈o.op.operands,(aP σ y).gv=true/\∀t,y = .tmp t->p t=false
 guard:∀g c t,o.guard=some (g,c)->(ops[g]?).bind (·.dst)=some t->p t=false
def aso{x:A}{n:Nat}{z:V}(h:rW x n=some z)(X:Type)(k:A -> ah X):Cv x n k=k (.lf (.v z)):=by
 unfold rW at h;split at h
 ·split at h
  next xs _ _ C=>injection h with h;subst h;simp[Cv,C,Option.bind_some,Ab]
  ·cases h
 ·cases h
def aeN{x:A}{n:Nat}{z:V}{g:Lf -> Lf}{G:A -> A}(C:∀ xs,G (.fB xs) = .fB (xs.map λp=>(p.1,p.2.map g)))(D:∀ z,g (.v z) = .v z)(h:rW x n=some z):rW (G x) n=some z:=by
 unfold rW at h;split at h
 ·split at h
  next xs _ _ E=>injection h with h;subst h;rw[C];simp[rW,ff,E,Option.map_some,List.map_cons,List.map_nil,D]
  ·cases h
 ·cases h
def X4{v:A}(C:∀ q,v.drop q=v){rr d:Nat}{key:Nat -> aa Nat}:∀ (f j:Nat) (xs:aa Lf) (σ:S),iJ rr key f j xs (σ.set d v)=(iJ rr key f j xs σ).map λp=>(p.1,p.2.set d v)
 |_,_,[],σ=>by simp[iJ]
 |0,j,x::xs,σ=>by cases x<;>simp[iJ]
 | f+1,j,.v x :: xs,σ=>by
  simp only[iJ,X4 C f];cases iJ rr key f (j+1) xs σ<;>rfl
 | f+1,j,.own [q] :: xs,σ=>by
  simp only[iJ];show (match σ.m q with
   |some (.sl z)=>_
   |_=>none)=_
  cases D:σ.m q with
  |none=>rfl
  | some y=>
   cases y with
   | sl z=>
    cases Nat.beq q rr with
    |true=>rfl
    | false=>
     simp only[aq];rw[S.drop_set q (C q),X4 C f];cases iJ rr key f (j+1) (xs.map (Lf.drop q)) (σ.drop q)<;>rfl
   |_=>rfl
 |f+1,j,.own []::xs,σ=>rfl
 |f+1,j,.own (_::_::_)::xs,σ=>rfl
 |f+1,j,.dead::xs,σ=>rfl
def X5{rr:Nat}{key:Nat -> aa Nat}{x n:Nat}{z:V}:∀ (f j:Nat) (xs:aa Lf) (σ C:S) (D:aa V),iJ rr key f j xs σ=some (D,C) -> rW (σ.t x) n=some z -> rW (C.t x) n=some z
 | _,_,[],σ,C,D,h,E=>by
  simp only[iJ]at h;simp_all
 |0,j,y::xs,σ,C,D,h,E=>by cases y<;>simp[iJ]at h
 | f+1,j,.v y :: xs,σ,C,D,h,E=>by
  simp only[iJ]at h;cases L:iJ rr key f (j+1) xs σ with
  |none=>simp_all
  | some p=>
   rw[L]at h;injection h with h;injection h with _ h;subst h;exact X5 f (j+1) xs σ p.2 p.1 L E
 | f+1,j,.own [q] :: xs,σ,C,D,h,E=>by
  simp only[iJ]at h;split at h
  ·cases hb:Nat.beq q rr with
   |true=>simp_all
   | false=>
    rw[hb,aq]at h;cases L:iJ rr key f (j+1) (xs.map (Lf.drop q)) (σ.drop q)with
    |none=>simp_all
    | some p=>
     rw[L]at h;injection h with h;injection h with _ h;subst h;refine X5 f (j+1) _ (σ.drop q) p.2 p.1 L ?_;exact aeN (G:=A.drop q) (g:=Lf.drop q) (λ_=>rfl) (λ_=>rfl) E
  ·cases h
def asp{d:Nat}{v:V}{t:TypeId}{x y:A}{L:S}(h:uD P (σ.set d (.lf (.v v))) t x y some=some L):∃ D,uD P σ t x y some=some D/\L=D.set d (.lf (.v v)) /\ ∀ (e n:Nat) (z:V),rW (σ.t e) n=some z -> rW (D.t e) n=some z:=by
 unfold uD at h;split at h
 ·rename_i n xs j i s rr hn pX;split at h
  ·rename_i hlen;cases O:xs.all Lf.live with
   |false=>simp_all
   | true=>
    rw[O,au]at h;split at h
    ·rename_i vs τ1 C;rw[X4 (v:=.lf (.v v)) (λ_=>rfl)]at C;cases E:iJ rr (λm=>(j+m) :: i :: s :: [rr]) xs.length 0 xs σ with
     |none=>simp_all
     | some p=>
      rw[E]at C;obtain⟨vs0,T⟩:=p;injection C with C;injection C with e1 e2;subst e1 e2;split at h
      ·rename_i U Y Z l iS;have asq:T.m rr=some (.sl (.sl U (Y+2) Z l)):=iS;split at h
       ·rename_i pU;split at h
        ·rename_i hi;split at h
         ·rename_i hj;split at h
          ·rename_i e he;injection h with h
           refine⟨T.fE [rr] [] [(rr,.sl (.sl U (Y+2) Z (l.set i e)))],?_,?_,λex nx z hz=>?_⟩
           ·simp[uD,hn,pX,bJ hlen,O,au,E,asq,bJ pU,aA hi,bJ hj,he]
           ·rw[<- h];exact S.arO _ rfl
           ·exact aeN (G:=A.fE [rr] []) (λ_=>rfl) (λ_=>rfl) (X5 _ _ _ _ _ _ E hz)
          ·cases h
         ·cases h
        ·cases h
       ·cases h
      ·cases h
    ·cases h
  ·cases h
 ·cases h
def aeO{t:TypeId}{a b:Operand}(C:o.op = .store t a b)(D:o.dst=none)(E:yf (aP σ a) (aP σ b)=true):eA P N Φ σ o some=uD P σ t (aP σ a) (aP σ b) some:=by
 unfold eA;rw[show gv o.op=false by rw[C];rfl,aq];simp[jb,C,D,E,au]
theorem asr[Inhabited Wd](eP:gu P Φ){K:S -> Prop}{f L i:Nat}{Y:Oper}{τ:S}(hi:ops[i]?=some Y)(hr:mM ops L i=true)(D:Xt ops L σ i=true)(iS:dU P N Φ ops σ Y some=some τ)(H:Any P N Φ ops K f (L ||| 2 ^ i) τ):Any P N Φ ops K (f+1) L σ:=by
 unfold Xt at D;rw[hi]at D;split at D
 ·rename_i oi' j0 e1 ass;injection e1 with e1;subst e1;split at D
  ·rename_i x n d oj wD AN C9 hj0;split at D
   ·rename_i ty a b Z aeP aeQ;rw[aS,aS]at D;obtain⟨⟨c1,c2⟩,c3⟩:=D;obtain⟨z,hz⟩:=Option.isSome_iff_exists.1 c1;obtain⟨a1,a2,a3⟩:=Oper.apart_spec c3;have hpd:∀ j,j<ops.size -> j≠i -> L.testBit j=false -> j=j0:=by
     intro j E O T;have:j∈(List.range ops.size).filter (λj=>!(Nat.beq j i || L.testBit j)):=by
      rw[List.mem_filter];refine⟨fI.2 E,?_⟩;rw[T,Bool.or_false];cases hb:Nat.beq j i with
      |false=>rfl
      |true=>exact absurd (cK hb) O
     rw[ass]at this;exact List.mem_singleton.1 this
    have sg:∀ σ2:S,rW (σ2.t x) n=some z -> dU P N Φ ops σ2 Y some=iH N σ2 (some d) (.lf (.v z)) some:=by
     intro σ2 h2;unfold dU;simp only[gw,C9];unfold eA;rw[show gv Y.op=true by rw[wD];rfl,au,wD];simp only[nq];rw[show aP σ2 (.tmp x)=σ2.t x from rfl,aso h2,AN]
    have hN:∀ σ2:S,iH N σ2 (some d) (.lf (.v z)) some=some (σ2.set d (.lf (.v z))):=by
     intro σ2;rw[sg σ hz]at iS;obtain⟨_,g2⟩:=tv iS;exact(g2 σ2).at_ _
    have hE:τ=σ.set d (.lf (.v z)):=by
     grind
    rw[hE]at H
    refine XM (W:=0) hi (λj oj _ E=>by rw[Nat.zero_testBit]at E;cases E) (λσ=>σ.set d (.lf (.v z)))
     (λL' C=>rW (C.t x) n=some z /\ ∀j,j<ops.size -> j≠i -> L'.testBit j=false -> j=j0/\yf (aP C a) (aP C b)=true)
     (λL' C hI=>(sg C hI.1).trans (hN C)) (λL' C j oj' sW hI U O T _ AM=>?_) f L σ (λj E=>by rw[Nat.zero_testBit]at E;cases E) hr
     ⟨hz,λj E O T=>⟨hpd j E O T,c2⟩⟩ H
    obtain⟨rfl,hg⟩:=hI.2 j (jj.1 U).1 O T;rw[hj0]at U;injection U with U;subst U;have ha:aP (C.set d (.lf (.v z))) a=aP C a:=FI (a1 d AN) _ (by rw[Z];simp[Op.operands]);have hb:aP (C.set d (.lf (.v z))) b=aP C b:=FI (a1 d AN) _ (by rw[Z];simp[Op.operands]);have kP:dU P N Φ ops (C.set d (.lf (.v z))) oj some=uD P (C.set d (.lf (.v z))) ty (aP C a) (aP C b) some:=by
     unfold dU;simp only[gw,aeQ];rw[aeO Z aeP (by rw[ha,hb];exact hg),ha,hb]
    rw[kP]at AM;obtain⟨σ2,h1,h2,h3⟩:=asp AM
    refine⟨σ2,?_,h2,h3 _ _ _ hI.1,λk hk hki hkL=>?_⟩
    ·unfold dU;simp only[gw,aeQ];rw[aeO Z aeP hg];exact h1
    ·grind
   ·cases D
  ·cases D
 ·cases D
theorem JY[Inhabited Wd](eP:gu P Φ):∀ (f L:Nat) (σ:S) (k:S->ah X),rX P N Φ ops f L σ k=some r->Any P N Φ ops (λτ=>k τ=some r) f L σ
 | 0,L,σ,k,h=>by
  unfold rX at h;split at h
  ·rename_i hr
   refine⟨λj=>?_,h⟩
   cases Z:mM ops L j with
   |false=>rfl
   |true=>have:=C8.2 Z;rw[hr]at this;cases this
  ·cases h
 | f+1,L,σ,k,h=>by
  unfold rX at h;split at h
  ·rename_i hr
   refine⟨λ_=>h,λj Z=>?_⟩
   have:=C8.2 Z;rw[hr]at this;cases this
  ·rename_i i hr;have hi:mM ops L i=true:=C8.1 (by rw[hr];exact .head _)
   refine⟨λh=>absurd (h i) (by rw[hi];simp),λj Z=>?_⟩
   have Z:=C8.2 Z;rw[hr]at Z;obtain rfl:=List.mem_singleton.1 Z;split at h
   next o ho=>obtain⟨τ,h1,h2⟩:=XD eP h;exact⟨o,τ,ho,h2,JY eP f _ τ k (Qt h1)⟩
   ·cases h
  ·rename_i rs hn hs;split at h
   ·rename_i i hf;have hc:=List.find?_some hf;have hm:=List.mem_of_find?_eq_some hf;have hi:=C8.1 hm;split at h
    ·rename_i o ho;unfold ad7 at hc;rw[ho,aS,aS,aS]at hc;obtain⟨⟨⟨c1,c2⟩,c3⟩,c4⟩:=hc;have c1:gv o.op=true\/gw σ ops o=some false:=by
      rw[eR]at c1
      refine c1.imp id λc1=>?_
      split at c1
      next b hb=>rw[hb];cases b<;>first|rfl|cases c1
      ·cases c1
     obtain⟨v,h1,hF,hN⟩:=asl c1 c4 h;have yp:=X3 _ _ c3;have c2:=cK c2;have JZ:∀ j,(waits ops i ops.size 0 0).testBit j=true->(L ||| 2 ^ i).testBit j=false:=by
      intro j Z;have:((L |||2 ^ i) &&& waits ops i ops.size 0 0).testBit j=false:=by rw[c2];exact Nat.zero_testBit j
      rw[Nat.testBit_and,Z,Bool.and_true]at this;exact this
     have wC:∀ j,(waits ops i ops.size 0 0).testBit j=true->L.testBit j=false:=by
      intro j Z;have:=JZ j Z;rw[AK,pN]at this;exact this.1
     refine arW (W:=waits ops i ops.size 0 0) (ok:=λt r=>!ko (lZ t) ops i L (waits ops i ops.size 0 0) ops.size 0 && !ko (λok=>gi ok r) ops i L (waits ops i ops.size 0 0) ops.size 0 && !ko isApp ops i L (waits ops i ops.size 0 0) ops.size 0) (rZ:=Qc Φ ops i L (waits ops i ops.size 0 0) σ) (nu:=nu Φ ops i L (waits ops i ops.size 0 0) σ) (nt:=nt Φ ops i L (waits ops i ops.size 0 0)) eP ho hN (λj C D Z=>?_) f L σ (λt r jP j C D T U Y=>?_) (λx hx j C D T U Y=>?_) (λx hx=>?_) (λt jP j C D T U Y=>?_) (λt jP j C D T U Y=>?_) (λj C D T U Y=>?_) wC hi hF (JY eP f _ _ k (Qt h1))
     ·have dQ:=(jj.1 D).1;rcases yp j (by omega) (by omega)with e | e | e | e
      ·subst e;have:=JZ j Z;rw[AK]at this;simp at this
      ·rw[wC j Z]at e;cases e
      ·exact aeJ D e.2
      ·rw[Z]at e;cases e.1
     ·have dQ:=(jj.1 D).1;rw[aS,aS,g9,g9,g9]at jP
      refine⟨λhd=>?_,?_,?_⟩
      ·have:=qR (g:=lZ t) ops.size 0 j (by omega) (by omega) T U Y C D (by unfold lZ;rw[hd];exact Nat.beq_refl t);rw[jP.1.1]at this;cases this
      ·cases hn:gi C r with
       |false=>rfl
       | true=>
        have:=qR (g:=λok=>gi ok r) ops.size 0 j (by omega) (by omega) T U Y C D hn;rw[jP.1.2]at this;cases this
      ·cases hn:isApp C with
       |false=>rfl
       | true=>
        have:=qR (g:=isApp) ops.size 0 j (by omega) (by omega) T U Y C D hn;rw[jP.2]at this;cases this
     ·have dQ:=(jj.1 D).1;unfold nu at hx;rw[aS]at hx;intro hd;have:=qR (g:=lZ x) ops.size 0 j (by omega) (by omega) T U Y C D (by unfold lZ;rw[hd];exact Nat.beq_refl x);rw[this]at hx;cases hx.1
     ·unfold nu at hx;rw[aS]at hx;have hx:=hx.2;cases hz:σ.t x with
      |aG r j=>rw[hz]at hx;exact hx
      |jy cs=>trivial
      |_=>rw[hz]at hx;cases hx
     ·have dQ:=(jj.1 D).1;by_cases hd:C.dst=some t
      ·refine .inr ?_;have X6:lZ t C=true:=by unfold lZ;rw[hd];exact Nat.beq_refl t
       cases FL:wB C with
       | false=>
        cases J0:Qb Φ ops i L (waits ops i ops.size 0 0) σ C with
        | false=>
         have:=qR (g:=λok=>lZ t ok && !(wB ok ||Qb Φ ops i L (waits ops i ops.size 0 0) σ ok)) ops.size 0 j (by omega) (by omega) T U Y C D (by rw[X6,FL,J0];rfl);unfold Qc at jP;rw[this]at jP;cases jP
        | true=>
         unfold Qb at J0;split at J0
         next s x f AO=>exact .inr ⟨s,x,f,AO,J0⟩
         ·cases J0
       | true=>
        refine .inl ⟨rfl,?_⟩;refine JW ?_;unfold C3;rw[eR]
        refine .inl (qR (g:=λo=>gi o t) _ 0 j (by omega) (by omega) T U Y C D ?_)
        obtain⟨ty,e,h1,_,h3,_⟩:=aep FL;unfold gi;rw[hd,h1];exact Nat.beq_refl t
      ·exact .inl hd
     ·have dQ:=(jj.1 D).1;by_cases hd:C.dst=some t
      ·refine .inr ?_;have X6:lZ t C=true:=by unfold lZ;rw[hd];exact Nat.beq_refl t
       cases wg:o7 C with
       | false=>
        cases hma:isApp C with
        |true=>exact .inr (.inl rfl)
        | false=>
         cases C6:AI Φ C with
         |true=>exact .inr (.inr rfl)
         | false=>
          have:=qR (g:=λok=>lZ t ok && !(o7 ok ||isApp ok ||AI Φ ok)) ops.size 0 j (by omega) (by omega) T U Y C D (by rw[X6,wg,hma,C6];rfl);unfold nt at jP;rw[this]at jP;cases jP
       | true=>
        refine .inl ?_;have qg:gi C t=true:=by
         unfold o7 at wg;rw[aS]at wg;have h1:=wg.1;unfold gi;rw[hd];split at h1
         next CH=>simp only[CH];exact Nat.beq_refl t
         next CH=>simp only[CH];exact Nat.beq_refl t
         next CH=>simp only[CH];exact Nat.beq_refl t
         ·cases h1
        have h9:=qR (g:=λo=>gi o t) ops.size 0 j (by omega) (by omega) T U Y C D qg;refine⟨rfl,?_,?_⟩
        ·refine JW ?_;unfold C3;rw[eR];exact .inl h9
        ·unfold C4;rw[eR];exact .inl h9
      ·exact .inl hd
     ·have dQ:=(jj.1 D).1;rcases yp j (by omega) (by omega)with e | e | e | e
      ·exact absurd e T
      ·rw[U]at e;cases e
      ·rw[Y]at e;cases e.1
      ·obtain⟨e1,e2⟩:=e.2 C D
       refine⟨e2,?_,λn hn=>?_⟩
       ·rw[eR,eR,eR]at e1;rcases e1 with ((e1 | e1) | e1) | e1
        ·exact .inl e1
        ·cases e1
        ·obtain⟨ty,t,y,g1,g2,g3,g4,g5⟩:=asm e1;refine .inr (.inr (.inl ⟨ty,t,y,g1,g2,g3,?_⟩));cases hx:σ.t t with
         | aG r' j'=>
          show AH Φ ops i L (waits ops i ops.size 0 0) σ r'=true;refine JW ?_;unfold C3;rw[eR]
          refine .inr (qR (g:=λo=>dS r' (tq Φ σ o) ||dS r' (C2 σ o)) _ 0 j (by omega) (by omega) T U Y C D ?_)
          rw[g5 r' j' hx,eR];exact .inr (x6.2 (.head _))
         |ptr k=>exact absurd hx (g4 k)
         |_=>trivial
        ·obtain⟨x,y,t1,t2,g1,g2,g3⟩:=asn e1
         refine .inr (.inr (.inr ⟨x,y,t1,t2,g1,g2,g3,λr' fU=>⟨?_,?_⟩⟩))
         ·refine JW ?_;unfold C3;rw[eR]
          refine .inr (qR (g:=λo=>dS r' (tq Φ σ o) ||dS r' (C2 σ o)) _ 0 j (by omega) (by omega) T U Y C D ?_)
          have:C2 σ C=[r']:=by simp only[C2,g1,fU]
          rw[this,eR];exact .inr (x6.2 (.head _))
         ·unfold C4;rw[eR]
          refine .inr (qR (g:=λo=>dS r' (Qa σ o)) _ 0 j (by omega) (by omega) T U Y C D ?_)
          have:Qa σ C=[r']:=by simp only[Qa,g1,fU]
          rw[this];exact x6.2 (.head _)
       ·have h9:=qR (g:=λo=>gi o n) ops.size 0 j (by omega) (by omega) T U Y C D hn;refine⟨?_,?_⟩
        ·refine JW ?_;unfold C3;rw[eR];exact .inl h9
        ·unfold C4;rw[eR];exact .inl h9
    ·cases h
   ·split at h
    ·rename_i i hf;have hc:=List.find?_some hf;have hm:=List.mem_of_find?_eq_some hf;have hi:=C8.1 hm;split at h
     ·rename_i o ho;unfold ad8 at hc;rw[ho,aS,aS,aS,aS,aS]at hc;obtain⟨⟨⟨⟨⟨c1,c2⟩,c3⟩,c4⟩,c5⟩,c6⟩:=hc;have yp:=X3 _ _ c3;have c2:=cK c2;have JZ:∀ j,(waits ops i ops.size 0 0).testBit j=true->(L ||| 2 ^ i).testBit j=false:=by
       intro j Z;have:((L |||2 ^ i) &&& waits ops i ops.size 0 0).testBit j=false:=by rw[c2];exact Nat.zero_testBit j
       rw[Nat.testBit_and,Z,Bool.and_true]at this;exact this
      have wC:∀ j,(waits ops i ops.size 0 0).testBit j=true->L.testBit j=false:=by
       intro j Z;have:=JZ j Z;rw[AK,pN]at this;exact this.1
      obtain⟨τ,h1,h2⟩:=XD eP h;generalize hp:(λn=>ko (λo=>FH o n) ops i L (waits ops i ops.size 0 0) ops.size 0)=p at c4 c5;have hpe:∀ j C e,ops[j]?=some C->j≠i->L.testBit j=false->(waits ops i ops.size 0 0).testBit j=false->C.dst=some e->p e=true:=by
       intro j C e D T U Y hd;have dQ:=(jj.1 D).1;rw[<-hp];exact qR (g:=λo=>FH o e) _ 0 j (by omega) (by omega) T U Y C D (by unfold FH lZ;rw[hd];exact Nat.beq_refl e)
      have C7:∀ j C,ops[j]?=some C->j≠i->L.testBit j=false->(waits ops i ops.size 0 0).testBit j=false->Xs ops i L (waits ops i ops.size 0 0) σ C=true/\o.apart ops C=true:=by
       intro j C D T U Y;have dQ:=(jj.1 D).1;rcases yp j (by omega) (by omega)with e|e|e|e
       ·exact absurd e T
       ·rw[U]at e;cases e
       ·rw[Y]at e;cases e.1
       ·exact e.2 C D
      have wg:∀ j C,ops[j]?=some C->j≠i->L.testBit j=false->(waits ops i ops.size 0 0).testBit j=false->aeM ops p σ C:=by
       intro j C D T U Y;have hb:=(C7 j C D T U Y).1;unfold Xs at hb;rw[aS,aS,aS]at hb;obtain⟨⟨⟨b1,b2⟩,b3⟩,b4⟩:=hb;have Qf:∀t,ko (lZ t) ops i L (waits ops i ops.size 0 0) ops.size 0=false->p t=false:=λt ht=>by rw[<-hp];exact ht
       refine⟨b1,?_,λy O=>?_,λg c t hg ht=>?_⟩
       ·split at b2
        next b Cy=>rw[Cy,b2]
        ·cases b2
       ·have:=cw.1 b3 y (by simpa using O);rw[aS]at this
        refine⟨this.1,λt ht=>?_⟩
        have h2:=this.2;rw[ht]at h2;exact Qf t (by simpa using h2)
       ·rw[hg]at b4;simp only[ht]at b4;exact Qf t (by simpa using b4)
      have yo:∀ n,20000<=n->p n=false:=by
       intro n hn;cases Da:p n with
       |false=>rfl
       | true=>
        rw[<-hp]at Da;obtain⟨k',X7,hk1,X8,hk3,hk4,Qu⟩:=aeK _ _ Da;have hm:=(wg k' X7 hk1 X8 hk3 hk4).is;unfold o7 at hm;rw[aS]at hm;have hm:=hm.2;unfold FH lZ at Qu;split at Qu
        next e he=>rw[he]at hm;have h1:e=n:=cK Qu;subst h1;exact absurd (cX hm) (Nat.not_le_of_gt (Nat.lt_succ_of_le hn))
        ·cases Qu
      have hE:τ=(dU P N Φ ops σ o some).getD σ:=by rw[h2];rfl
      refine XM (W:=waits ops i ops.size 0 0) ho (λj C D Z=>?_) (λσ=>(dU P N Φ ops σ o some).getD σ)
       (λL' E=>((dU P N Φ ops E o some).isSome=true/\Xq E p o=true/\(tq Φ E o).all (yh E p)=true/\yg E o=true)/\(∀ j,L'.testBit j=false->L.testBit j=false)/\
        ∀j C,ops[j]?=some C->j≠i->L'.testBit j=false->(waits ops i ops.size 0 0).testBit j=false->aeM ops p E C)
       (λL' E hI=>?_) (λL' E j C sW hI D T U Y iS=>?_) f L σ wC hi ⟨⟨by rw[h2];rfl,c4,c5,c6⟩,λ_ h=>h,wg⟩ (by rw[<-hE];exact JY eP f _ τ k (Qt h1))
      ·have dQ:=(jj.1 D).1;rcases yp j (by omega) (by omega)with e | e | e | e
       ·subst e;have:=JZ j Z;rw[AK]at this;simp at this
       ·rw[wC j Z]at e;cases e
       ·exact aeJ D e.2
       ·rw[Z]at e;cases e.1
      ·obtain⟨z,hz⟩:=Option.isSome_iff_exists.1 hI.1.1;rw[hz];rfl
      ·obtain⟨⟨i1,i2,i3,i6⟩,i4,i5⟩:=hI;have ap:=(C7 j C D T (i4 j U) Y).2;obtain⟨m1,m2,m3,m4⟩:=i5 j C D T U Y;obtain⟨a1,a2,a3⟩:=Oper.apart_spec ap;obtain⟨z,hz⟩:=Option.isSome_iff_exists.1 i1;have hEz:(dU P N Φ ops E o some).getD E=z:=by rw[hz];rfl
       have iS:dU P N Φ ops z C some=some sW:=by rw[<-hEz];exact iS
       have aeR:∀ t,(E.t t).gv=true->o.dst≠some t->z.t t=E.t t:=by
        intro t ht hd;unfold dU at hz;split at hz
        ·exact asj eP c1 i6 hz ht hd
        ·obtain⟨g1,_⟩:=tv hz;injection g1 with g1;rw[<-g1];cases AN:o.dst with
         |none=>rfl
         |some d=>exact cU _ _ _ (by rintro rfl;exact hd AN)
        ·cases hz
       have ast:∀ g c t,C.guard=some (g,c)->(ops[g]?).bind (·.dst)=some t->(E.t t).gv=true\/E.t t = .skip:=by
        intro g c t hg ht;unfold gw at m2;rw[hg]at m2;simp only[ht]at m2;split at m2
        next b hb=>left;rw[hb];rfl
        next hb=>exact .inr hb
        ·cases m2
       have C9:∀ g c t,C.guard=some (g,c)->(ops[g]?).bind (·.dst)=some t->o.dst≠some t:=by
        intro g c t hg ht hd;refine a1 t hd (List.mem_append_right _ ?_);rw[hg];simp only[ht];simp
       have hwz:gw z ops C=some true:=by
        rw[AJ (σ:=E) λg c t hg ht=>?_]
        ·exact m2
        ·rcases ast g c t hg ht with h | h
         ·exact aeR t h (C9 g c t hg ht)
         ·exfalso;unfold gw at m2;rw[hg]at m2;simp only[ht,h]at m2;cases m2
       have asu:∀ y∈C.op.operands,aP z y=aP E y:=by
        intro y O;cases y with
        | tmp t=>
         refine aeR t (m3 _ O).1 λhd=>?_
         exact a1 t hd (List.mem_append_left _ (List.mem_filterMap.2 ⟨.tmp t,by simpa using O,rfl⟩))
        |_=>rfl
       obtain⟨e,x,u,hd,he,hx,hu,AM,uH⟩:=Qh m1 hwz iS;have Db:=hpe j C e D T (i4 j U) Y hd;have rR:=a3 e hd;have tA:∀ y∈o.op.operands,(aP E y).nr p=true/\y ≠ .tmp e:=by
        intro y O;refine⟨cw.1 i2 y (by simpa using O),?_⟩;rintro rfl;exact rR (List.mem_append_left _ (List.mem_filterMap.2 ⟨.tmp e,by simpa using O,rfl⟩))
       have AN:o.dst≠some e:=λh=>a2 e h hd
       have asv:gw (cQ e x u E) ops o=gw E ops o:=by
        have hw:∃ b,gw E ops o=some b:=by
         unfold dU at hz;cases hw:gw E ops o with
         |none=>rw[hw]at hz;cases hz
         |some b=>exact⟨b,rfl⟩
        obtain⟨b,hw⟩:=hw
        refine AJ λg c t' E7 ht'=>?_
        rw[sj,bQ ?_]
        ·exact A.FD (p:=p) (pb:=p) (XE hw g c t' E7 ht') Db Db
        ·rintro rfl;refine rR (List.mem_append_right _ ?_);rw[E7];simp only[ht'];simp
       have sg:dU P N Φ ops (cQ e x u E) o some=some (cQ e x u z):=by
        unfold dU at hz ⊢;rw[asv];split at hz
        next hw=>exact asi eP hx hu he Db yo c1 i6 AN tA (λn hn=>cw.1 i3 n hn) hz
        next hw=>obtain⟨g1,g2⟩:=tv hz;injection g1 with g1;refine((g2 (cQ e x u E)).at_ _).trans ?_;rw[<-g1,arX AN rfl]
        ·cases hz
       have X9:∀y∈o.op.operands,aP (cQ e x u E) y=aP E y:=λy O=>ym (tA y O).1 Db (tA y O).2
       have hL:∀ k,(L' ||| 2 ^ j).testBit k=false->L'.testBit k=false/\k≠j:=by
        intro k hk;rw[AK,pN]at hk;refine⟨hk.1,?_⟩;rintro rfl;simp at hk
       refine⟨cQ e x u E,uH E m2 (λy O=>(asu y O).symm),?_,⟨by rw[sg];rfl,?_,?_,?_⟩,λk hk=>i4 k (hL k hk).1,λk X7 hk hki hkL hkW=>?_⟩
       ·rw[AM,sg];rfl
       ·unfold Xq;rw[cw];intro y O;rw[X9 y (by simpa using O)];exact(tA y (by simpa using O)).1
       ·have hrj:tq Φ (cQ e x u E) o=tq Φ E o:=by
         unfold tq;split
         ·rename_i f' args oe AO;split
          ·refine Qg _ _ λy O=>X9 y ?_
           rw[AO];simp only[Op.operands,Call.operands];simp only[Array.mem_append]
           first
            |exact .inr (by simpa using O)
            |exact .inl (by simpa using O)
          ·rfl
         ·rfl
        rw[hrj,cw];intro n hn;have h3:=cw.1 i3 n hn;have dH:n≠e:=by
         rintro rfl;have Da:p n=false:=by
          unfold tq at hn;split at hn
          ·rename_i f' args oe AO;split at hn
           ·refine JX _ _ (λy O=>(tA y ?_).1) n hn
            rw[AO];simp only[Op.operands,Call.operands];simp only[Array.mem_append]
            first
             |exact .inr (by simpa using O)
             |exact .inl (by simpa using O)
           ·cases hn
          ·cases hn
         rw[Db]at Da;cases Da
        unfold yh at h3 ⊢;rw[qi,bQ dH];cases hm:E.m n with
        |none=>rfl
        | some y=>
         cases y with
         |sl=>rfl
         |mp=>rfl
         |gh=>rfl
         | aB cs=>
          rw[hm]at h3;simp only[Option.map_some,bu.JQ,rK.AE h3 Db];exact h3
       ·unfold yg at i6 ⊢;split
        next ty t y AO=>rw[AO]at i6;have e1:(cQ e x u E).t t=E.t t:=X9 (.tmp t) (by rw[AO];simp[Op.operands]);rw[e1];exact i6
        ·rfl
       ·obtain⟨n1,n2,n3,n4⟩:=i5 k X7 hk hki (hL k hkL).1 hkW;have asw:∀ t,p t=false->t≠e:=by rintro t ht rfl;rw[Db]at ht;cases ht
        have aeS:∀ t,(E.t t).gv=true->p t=false->(cQ e x u E).t t=E.t t:=by
         intro t ht htp;rw[sj,bQ (asw t htp)];exact A.Qs ht e
        refine⟨n1,?_,λy O=>?_,n4⟩
        ·rw[AJ (σ:=E) λg c t hg ht=>?_]
         ·exact n2
         ·unfold gw at n2;rw[hg]at n2;simp only[ht]at n2;split at n2
          next b hb=>exact aeS t (by rw[hb];rfl) (n4 g c t hg ht)
          next hb=>cases n2
          ·cases n2
        ·refine⟨?_,(n3 y O).2⟩;cases y with
         | tmp t=>
          show ((cQ e x u E).t t).gv=true;rw[aeS t (n3 _ O).1 ((n3 _ O).2 t rfl)];exact(n3 _ O).1
         |const v=>exact(n3 _ O).1
         |global g=>exact(n3 _ O).1
         |func f=>exact(n3 _ O).1
     ·cases h
    ·split at h
     ·rename_i i hf;have hc:=List.find?_some hf;have hm:=List.mem_of_find?_eq_some hf;have hi:=C8.1 hm;split at h
      next o ho=>obtain⟨τ,h1,h2⟩:=XD eP h;exact asr eP ho hi hc h2 (JY eP f _ τ k (Qt h1))
      ·cases h
     ·cases h
def FN{b:Bool}(h:gw σ ops o=some b)(hR:Rl w0 N aj ρ σ a w):Region.wanted o (yielded ops a.tmps)=b:=by
 unfold gw at h;split at h
 next L=>injection h with h;subst h;simp[Region.wanted,L]
 ·rename_i j want L;split at h
  ·rename_i t O;have D:=hR.tmp t;rw[iV]at D;split at h
   ·rename_i c T;rw[T]at D;have E:=D.2.zZ;injection h with h;subst h;cases C:a.tmps[t]? with
    |none=>rw[C]at E;cases E
    | some v=>
     rw[C]at E;subst E;simp only[Region.wanted,L,yielded,O,Option.bind_some,C];simp_all
   ·rename_i T;rw[T]at D;injection h with h;subst h;cases C:a.tmps[t]? with
    |none=>simp[Region.wanted,L,yielded,O,C]
    | some v=>
     rw[C]at D;have E:=D;subst E;simp only[Region.wanted,L,yielded,O,Option.bind_some,C,undef];simp_all
   ·cases h
  ·cases h
structure uJ (ops:Array Oper) (aeT:Array Bool) (L:Nat):Prop where
 size:aeT.size=ops.size
 bit:∀j,j<ops.size->aeT[j]?=some (L.testBit j)
 out:∀j,ops.size<=j->L.testBit j=false
def uJ.aeU{C:Array Bool}{L:Nat}(h:uJ ops C L)(j:Nat):C.getD j false=L.testBit j:=by
 rw[iV];by_cases D:j<ops.size
 ·rw[h.bit j D];rfl
 ·rw[h.out j (by omega),Array.getElem?_eq_none (by rw[h.size];omega)];rfl
def uJ.ready{U:Array Bool}{L:Nat}(h:uJ ops U L)(j:Nat):j∈Region.ready .any ops U ↔ mM ops L j=true:=by
 rw[mem_ready,JU];constructor
 ·rintro⟨D,o,C,E⟩;have O:=(jj.1 C).1;rw[iV,h.bit j O]at D;exact⟨D,o,C,λe T hb=>by rw[<-h.aeU];exact E e T hb⟩
 ·rintro⟨D,o,C,E⟩;have O:=(jj.1 C).1;exact⟨by rw[iV,h.bit j O];exact D,o,C,λe T hb=>by rw[h.aeU];exact E e T hb⟩
def uJ.set{D:Array Bool}{L i:Nat}(h:uJ ops D L)(hi:i<ops.size):uJ ops (D.setIfInBounds i true) (L ||| 2 ^ i):=by
 refine⟨by simp[h.size],λj C=>?_,λj C=>?_⟩
 ·rw[AK];by_cases E:i=j
  ·subst E;rw[Array.getElem?_setIfInBounds_self_of_lt (by rw[h.size];exact hi)];simp
  ·rw[Array.getElem?_setIfInBounds_ne E,h.bit j C];simp_all
 ·rw[AK,h.out j C]
  grind
def uJ.start:uJ ops (Array.replicate ops.size false) 0:=
 ⟨by simp,λj C=>by simp[C],λj _=>Nat.zero_testBit j⟩
def asx(Y:gu P Φ){k:S -> ah X}{i:Nat}(hi:ops[i]?=some o)(h:dU P N Φ ops σ o k=some r):∃ E,k E=some r /\ ∀ a w (K:Act -> World -> Prop) (Q:Exit -> Act -> World -> Prop),R w0 N σ a w -> (∀ T w',R w0 N E T w' -> K T w') -> wpOp P ops Q i K a w:=by
 unfold dU at h;split at h
 ·rename_i L;obtain⟨E,Z,wD⟩:=Xx Y h
  refine⟨E,Z,λa w K Q hR D=>?_⟩
  obtain⟨aj,ρ,C⟩:=hR;unfold wpOp;rw[hi];simp[FN L C];exact .inl (wD a w K Q ⟨aj,ρ,C⟩ D)
 ·rename_i L;unfold iH at h;split at h
  ·rename_i O
   refine⟨σ,h,λa w K Q hR D=>?_⟩
   obtain⟨aj,ρ,C⟩:=hR;unfold wpOp;rw[hi];simp[FN L C,O];exact D _ _ ⟨aj,ρ,C⟩
  ·rename_i d O;cases U:Nat.blt d N with
   |false=>simp_all
   | true=>
    rw[U,au]at h
    refine⟨_,h,λa w K Q hR D=>?_⟩
    obtain⟨aj,ρ,C⟩:=hR;unfold wpOp;rw[hi];simp only[FN L C,O];exact D _ _ ⟨aj,ρ,C.set rfl (by have:=cX U;omega)⟩
 ·cases h
def aeV(Y:gu P Φ){K:S -> Prop}{Q:Exit -> Act -> World -> Prop}(O:∀ T,K T -> ∀ a w,R w0 N T a w -> Q .normal a w):
  ∀(f L:Nat) (σ:S) (E:Array Bool),Any P N Φ ops K f L σ -> uJ ops E L -> ∀a w,R w0 N σ a w -> wpAny P .any ops Q f E a w
 | 0,L,σ,E,h,D,a,w,hR=>by
  refine⟨List.eq_nil_iff_forall_not_mem.2 λj C=>?_,O σ h.2 a w hR⟩
  rw[D.ready,h.1]at C;cases C
 | f+1,L,σ,E,h,D,a,w,hR=>by
  refine⟨λhr=>O σ (h.1 λj=>?_) a w hR,λj C=>?_⟩
  ·cases C:mM ops L j with
   |false=>rfl
   | true=>
    have:=(D.ready j).2 C;simp_all
  ·have Z:=(D.ready j).1 C;obtain⟨o,T,ho,hd,hA⟩:=h.2 j Z;obtain⟨sW,U,hw⟩:=asx Y ho hd;injection U with U;subst U;exact hw a w _ Q hR λa' w' dR=>aeV Y O f _ _ _ hA (D.set (aeL Z)) a' w' dR
def R.drawn(hR:R w0 N σ a w):R w0 N σ a { w with drawn:=w.drawn+1 }:=by
 obtain⟨aj,ρ,h⟩:=hR;exact⟨aj,ρ,h.grow ⟨rfl,rfl,rfl,dW _,λ_ _=>rfl⟩ (λ_ _=>rfl) (λb k hb hl=>absurd (h.dD b k hl).2.1 (Nat.not_lt.2 hb))⟩
theorem asy[Inhabited Wd](C:gu P Φ){id:Nat}{k:S->ah X}(E:P.follows .mixedOrders=true)(h:rX P N Φ ops ops.size 0 σ k=some r){Q:Exit->Act->World->Prop}(L:∀ D,k D=some r->∀ a w,R w0 N D a w->Q .normal a w)(hR:R w0 N σ a w):
  (Code.region id ops true).wp P Q a w:=
 wp_region_any E (aeV C L _ _ _ _ (JY C _ _ _ _ h) uJ.start a _ hR.drawn)
/-! Values. -/
end
end Go.Proofs.YtnilicojgkhpnaaGreat
