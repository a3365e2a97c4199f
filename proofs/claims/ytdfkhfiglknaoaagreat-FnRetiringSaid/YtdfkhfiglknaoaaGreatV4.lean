/-
  Running the program over pure contents, and that it follows (part 4). Nothing here is a claim.
-/
import Derived.Test.YtdfkhfiglknaoaaGreatV3
set_option linter.unusedSimpArgs false
namespace Go.Proofs.YtdfkhfiglknaoaaGreat
set_option linter.defProp false
open Go.RowKit
set_option linter.unusedVariables false
def gQ(σ:S):ah Tmp->A->S
 |none,_=>σ
 |some d,v=>σ.set d v
section
variable {P:Program} {w w':World} {w0:Wd} {B N:Nat} {aj aD:bJ} {ρ ρ':Nat->Loc} {σ:S} {a:Act} {X:Type} {d:Nat} {r:X} {o:Oper} {Φ:fl} {p pb:Nat->Bool} {e:Nat} {x:aX} {u:A} {ops:Array Oper}
def tV{C:ah Tmp}{x:A}{k:S -> ah X}(h:iU N σ C x k=some r):k (gQ σ C x)=some r /\ ∀ (σ2:S),nS (λX k=>iU (X:=X) N σ2 C x k) (gQ σ2 C x):=by
 unfold iU at h;split at h
 ·exact⟨h,λ_ X k=>rfl⟩
 ·rename_i d;cases D:Nat.blt d N with
  |false=>simp_all
  |true=>rw[D]at h;exact⟨h,λ_ X k=>by simp[iU,D];rfl⟩
def JD{f:Nat}{c:jQ}(C:gF P Φ)(h:Φ f=some (.p c)):jl P f c:=(C f _ h).2
def qOK{f:Nat}{c:jQ}(C:gF P Φ)(h:Φ f=some (.q c)):jl P f c:=(C f _ h).2
def aqY{f:Nat}{C:ah Tmp}{c:vc}{xs:aa A}(D:gF P Φ)(h:Φ f=some (.i c)):cU λX k=>Jl (X:=X) N σ C c xs k:=λX Y k g=>
 ((D f _ h).2.1 N σ xs X Y _ g).trans (bC (c.run Y N σ xs) (funext λE=>funext λy=>yJ X Y k g))
def adu(C:gF P Φ):cU λX k=>eA (X:=X) P N Φ σ o k:=λX Y k g=>by
 unfold eA
 refine dN ((WN.comp λv=>yJ) X Y k g) ?_
 unfold jo iG sE AL An wK Aj
 repeat' first
  |rfl
  |exact O8 _ _ _ _
  |exact acX _ _ _ _
  |exact aqi _ _ _ _
  |exact ac0 (JD C (by assumption)) Jf _ _ _ _
  |exact ac6 _ _ _ _
  |exact aqk _ _ _ _
  |exact aqY C (by assumption) _ _ _ _
  |exact ac0 (qOK C (by assumption)) acZ _ _ _ _
  |exact aqs _ _ _ _
  |exact aqg _ _ _ _
  |exact aqJ _ _ _ _
  |exact ap0 _ _ _ _
  |exact aqy _ _ _ _
  |exact(aqz.comp λv=>yJ) X Y k g
  |exact aqA _ _ _ _
  |exact yJ _ _ _ _
  |exact(aoY.comp λv=>yJ) X Y k g
  |refine dN ?_ ?_
  |split
def iN.bp{σ C:S}(h:iN p pb σ C){t r j:Nat}(D:σ.t t = .aE r j)(E:pb r=false):C.t t = .aE r j:=by
 rw[<-D];exact h.t (by rw[D];simpa [A.pQ,A.fr,va]using E)
def kP(p:Nat->Bool):A->Prop
 |.aE r _=>p r=true
 |.ptr _=>False
 |_=>True
def iN.st{D:Nat->Bool}{σ C:S}(h:iN p pb σ C){t:Nat}(E:kP D (σ.t t)):kP D (C.t t):=by
 rcases h.nw t with e|e
 ·rw[e];exact E
 ·revert e;cases C.t t<;>simp[A.yO,kP]
def iN.WY{σ C:S}(h:iN p pb σ C){x:Operand}(D:(aL σ x).pQ p pb=true):aL C x=aL σ x:=by
 cases x with
 |tmp t=>exact h.t D
 |const v=>rfl
 |global g=>rfl
 |func f=>rfl
def iN.val{σ Y:S}(h:iN p pb σ Y){E:Op}{v:A}(D:nS (λX k=>nW (X:=X) P σ E k) v)(U:∀ y∈E.operands,(aL σ y).pQ p pb=true)(hv:v.pQ p pb=true)(O:∀ t y r j,E = .load t y->aL σ y = .aE r j->p r=false):nS (λX k=>nW (X:=X) P Y E k) v:=by
 intro X k
 refine(adk E (λy I=>⟨h.WY (U y I),λq e X k=>Px h.sl q k (adq (U y I) e)⟩) (λt y e k=>?_) k).trans (D X k)
 subst e;have D:nS (λX k=>pH (X:=X) P σ t (aL σ y) k) v:=D;have I:=U y (by simp[Op.operands]);have O:=λr j=>O t y r j rfl
 generalize aL σ y=u at D I O;by_cases hu:∃r j,u = .aE r j
 ·obtain⟨r,j,rfl⟩:=hu;have C:pH P σ t (.aE r j) some=some v:=D A some;rw[D.at_ k];simp only[pH]at C ⊢;split at C
  ·cases C
  ·split at C
   next cs gA=>obtain⟨f,e1,e2⟩:=h.aB r (O r j rfl) cs gA;obtain⟨z,⟨⟩,e4⟩:=O7.m6 C;rw[e1];simp only[];rw[<-List.map_drop,<-List.map_take,List.map_congr_left λl hl=>e2 l (aqV C hv l hl),List.map_id'];exact e4.at_ k
   ·cases C
 ·exact Sm.load (λq e X k=>Px h.sl q k (adq I e)) (λr j e=>absurd ⟨r,j,e⟩ hu) k
def WZ:∀ (xs:aa V) (c:Nat) (σ:S),(∀ n,c <= n -> p n=true/\pb n=true) -> iN p pb σ (nU c σ xs)
 |[],c,σ,h=>.refl σ
 | x :: xs,c,σ,h=>by
  simp[nU];cases D:x.aI with
  |true=>exact WZ xs _ σ (λn C=>h n (by omega))
  |false=>exact .trans (.root c (.sl x) (h c (dc _)).1 (h c (dc _)).2 (.refl σ)) (WZ xs (c+1) _ (λn C=>h n (by omega)))
def JE:∀ (ps:aa Pt) (c:Nat) (σ:S),(∀ n,c<=n->p n=true/\pb n=true)->iN p pb σ (pL c σ ps)
 |[],c,σ,h=>.refl σ
 |q::ps,c,σ,h=>(WZ q.2 c σ h).trans (JE ps _ _ (λn C=>h n (by omega)))
def AR{σ2:S}{ops:Array Oper}(h:∀ g b t,o.guard=some (g,b) -> (ops[g]?).bind (·.dst)=some t -> σ2.t t=σ.t t):gG σ2 ops o=gG σ ops o:=by
 unfold gG
 grind
def sR(p pb:Nat->Bool)(x:A):Prop:=∀r,x = .lf (.own [r])->p r=true/\pb r=true
def iN.tg{C D:Nat->Bool}{σ E:S}(h:iN p pb σ E){t:Nat}(I:sR C D (σ.t t)):sR C D (E.t t):=by
 rcases h.nw t with e|e
 ·rw[e];exact I
 ·intro r O;rw[O]at e;cases e
structure sS (P:Program) (N:Nat) (Φ:fl) (o:Oper) (p pb:Nat->Bool) (ve τ:S) where
 G:S->S
 u:A
 eq:τ=gQ (G ve) o.dst u
 run:∀σ2:S,(∀x∈o.op.operands,aL σ2 x=aL ve x)->σ2.m=ve.m->eA P N Φ σ2 o some=some (gQ (G σ2) o.dst u)
 grow:∀σ,iN p pb σ (G σ)
 set:∀(σ:S) d v,(A.pQ p pb v)=true->G (σ.set d v)=(G σ).set d v
 bp:isApp o=false->∀(σ:S) t r j,σ.t t = .aE r j->fH o r=false->(G σ).t t = .aE r j
theorem sS.new{D:S}{d:Nat}(E:o.dst=some d)(C:p d=true/\pb d=true)(U:fH o d=true)(x:aX)(u:A){I:S}(e:I=((D.drop d).root d x).set d u)
  (Y:∀σ2:S,(∀x∈o.op.operands,aL σ2 x=aL D x)->eA P N Φ σ2 o some=some (((σ2.drop d).root d x).set d u)):Nonempty (sS P N Φ o p pb D I):=
 ⟨{ G:=λσ=>(σ.drop d).root d x,u:=u,eq:=by rw[E];exact e,run:=λσ2 h _=>by rw[Y σ2 h,E];rfl,grow:=λσ=>.root d x C.1 C.2 (.refl σ),
    set:=λσ e v hv=>by rw[S.drop_set d (A.CO hv C.1 C.2)];rfl
    bp:=λ_ σ t r j ht O=>by
     show A.drop d (σ.t t)=_;rw[ht];exact A.qm (by simp only[A.fr,ye];rw[qq (by rintro rfl;rw[U]at O;cases O)];rfl) }⟩
def W0{d:Nat}{C:gM}{D:S}(h:oH σ d C some=some D):∃ (ps:aa Pt) (u:A),∀ σ,oH σ d C some=some ((pL (1000000000100000+1000*d) σ ps).set d u):=by
 unfold oH at h ⊢;split at h
 ·rename_i q;split at h
  next y E=>exact⟨[q],y,λσ=>rfl⟩
  ·cases h
 ·exact⟨_,_,λσ=>rfl⟩
theorem adv{f d:Nat}{c:jQ}{U:S}{ev:S->(X:Type)->(aa Pt->ah X)->ah X}(Y:o.dst=some d)(E:∀ n,1000000000100000+1000*d<=n->fH o n=true)(hp:∀ n,fH o n=true->p n=true/\pb n=true)(hc:jl P f c)(C:cU (ev σ))
  (VJ:∀σ2:S,(∀x∈o.op.operands,aL σ2 x=aL σ x)->σ2.m=σ.m->∀(X:Type) (k:aa Pt->ah X),ev σ2 X k=ev σ X k) (cH:∀σ2,eA P N Φ σ2 o some=tL N σ2 d c (ev σ2 S) some) (h:tL N σ d c (ev σ S) some=some U):Nonempty (sS P N Φ o p pb σ U):=by
 obtain⟨res,tH,D,I,h3⟩:=Pa hc C h;injection I with I;subst I;obtain⟨ps,u,hG⟩:=W0 D;have O:∀n,1000000000100000+1000*d<=n->p n=true/\pb n=true:=λn C=>hp n (E n C)
 rw[hG]at D;injection D with D;exact⟨{ G:=λσ=>pL (1000000000100000+1000*d) σ ps,u:=u,eq:=by rw[Y];exact D.symm,run:=λσ2 qK hm=>by rw[cH,Y];exact(h3 σ2 _ _ (VJ σ2 qK hm) (hG σ2)).at_ _,grow:=λσ=>JE ps _ σ O,set:=λσ e v hv=>Wo v ps _ σ λn C=>A.CO hv (O n C).1 (O n C).2,bp:=λ_ σ t r j ht hr=>(JE (p:=fH o) (pb:=fH o) ps _ σ (λn C=>⟨E n C,E n C⟩)).bp ht hr }⟩
theorem aqZ[Inhabited Wd](eE:gF P Φ){τ:S}(E:Po Φ o.op=true)(hp:∀ n,fH o n=true->p n=true/\pb n=true)(h:eA P N Φ σ o some=some τ):Nonempty (sS P N Φ o p pb σ τ):=by
 have h0:=h;unfold eA at h;cases hv:gB o.op with
 | true=>
  rw[hv,aq]at h;obtain⟨v,I,D,_⟩:=WO (w0:=default) (N:=N) h;obtain⟨U,h3⟩:=tV I;injection U with U
  refine⟨{ G:=λσ=>σ,u:=v,eq:=U.symm,run:=λσ2 C hm=>?_,grow:=.refl,set:=λ_ _ _ _=>rfl,bp:=λ_ _ _ _ _ h _=>h }⟩
  unfold eA;rw[hv,aq,adl o.op hm C];refine(D.at_ _).trans ?_;exact(h3 σ2).at_ _
 | false=>
  rw[hv,av]at h;have cH:∀σ2,eA P N Φ σ2 o some=jo P N Φ σ2 o some:=λσ2=>by unfold eA;rw[hv,av]
  unfold jo at h cH;unfold Po at E;rw[hv,Bool.false_or]at E;split at h
  ·rename_i e C;obtain⟨d,D,h⟩:=lG h;obtain⟨x,y,I,_,U⟩:=apZ h;injection I with I;have Y:fH o d=true:=by unfold fH;rw[D,C];exact Nat.beq_refl d
   refine sS.new D (hp d Y) Y x y I.symm λσ2 _=>?_
   rw[cH,C];simp only[iG,D];exact(U σ2).at_ _
  ·rename_i e x C;obtain⟨d,D,h⟩:=lG h;obtain⟨y,u,I,U⟩:=ap4 h;injection I with I;have Y:fH o d=true:=by unfold fH;rw[D,C];exact Nat.beq_refl d
   refine sS.new D (hp d Y) Y _ _ I.symm λσ2 O=>?_
   rw[cH,C];simp only[iG,D];rw[O x (by rw[C];simp[Op.operands])];exact(U σ2).at_ _
  ·rename_i t len parts C;obtain⟨d,D,h⟩:=lG h;have Y:fH o d=true:=by unfold fH;rw[D,C];exact Nat.beq_refl d
   cases hn:rF t with
   | true=>
    rw[hn,aq]at h;obtain⟨y,u,I,U⟩:=aqa h;injection I with I
    refine sS.new D (hp d Y) Y _ _ I.symm λσ2 O=>?_
    rw[cH,C];simp only[iG,D,hn,aq]
    refine(U σ2 λq hq=>O _ ?_).at_ _
    rw[C];simp only[Op.operands];exact List.mem_toArray.2 (List.mem_map_of_mem (f:=(·.2)) hq)
   | false=>
    rw[hn,av]at h;obtain⟨y,I,U⟩:=acV h;injection I with I
    refine sS.new D (hp d Y) Y _ _ I.symm λσ2 O=>?_
    rw[cH,C];simp only[iG,D,hn,av]
    refine(U σ2 λq hq=>O _ ?_).at_ _
    rw[C];simp only[Op.operands];exact List.mem_toArray.2 (List.mem_map_of_mem (f:=(·.2)) hq)
  next t x y C=>rw[C]at E;cases E
  ·rename_i t l c C;obtain⟨d,D,h⟩:=lG h;obtain⟨y,I,U⟩:=acU h;injection I with I;have Y:fH o d=true:=by unfold fH;rw[D,C];exact Nat.beq_refl d
   refine sS.new D (hp d Y) Y _ _ I.symm λσ2 O=>?_
   rw[cH,C];simp only[iG,D];rw[O l (by rw[C];simp[Op.operands]),O c (by rw[C];simp[Op.operands])];exact(U σ2).at_ _
  ·rename_i f args iW C;have adw:∀ σ2:S,(∀ x∈o.op.operands,aL σ2 x=aL σ x)->∀ x∈args.toList,aL σ2 x=aL σ x:=λσ2 O x hx=>O x (by
    rw[C];simp only[Op.operands,Call.operands,Array.mem_append]
    first
     |exact .inr (by simpa using hx)
     |exact .inl (by simpa using hx))
   have nm:∀d,o.dst=some d->∀n,1000000000100000+1000*d<=n->fH o n=true:=λd D n hn=>by unfold fH;rw[D,C];exact mT hn
   split at h
   next c hc=>obtain⟨d,D,h⟩:=lG h;exact adv D (nm d D) hp (JD eE hc) (ev:=λσ X k=>uT σ args.toList k) Jf (λσ2 O hm X k=>aqO hm _ _ (adw σ2 O)) (λσ2=>by rw[cH,C];simp only[hc,iG,D];rfl) h
   iterate 5 (rename_i c hc;rw[C]at E;simp[hc]at E)
   next c hc=>obtain⟨d,D,h⟩:=lG h;exact adv D (nm d D) hp (qOK eE hc) (ev:=λσ X k=>CC σ args.toList k) acZ (λσ2 O hm X k=>aqQ hm _ _ (adw σ2 O)) (λσ2=>by rw[cH,C];simp only[hc,iG,D];rfl) h
   next c hc=>rw[C]at E;simp[hc]at E
   ·cases h
  next x y t t' C=>rw[C]at E;cases E
  next t C=>rw[C]at E;cases E
  next t x i C=>rw[C]at E;cases E
  next t x i v C=>rw[C]at E;cases E
  next t args iW C=>rw[C]at E;cases E
  next f adj C=>rw[C]at E;cases E
  next x t C=>rw[C]at E;cases E
  ·cases h
def adx(C:gF P Φ){ops:Array Oper}:cU λX k=>ek (X:=X) P N Φ ops σ o k:=λX Y k g=>by
 unfold ek;split
 ·exact adu C _ _ _ _
 ·exact yJ _ _ _ _
 ·rfl
theorem W2[Inhabited Wd](D:gF P Φ){ops:Array Oper}{k:S->ah X}(h:ek P N Φ ops σ o k=some r):∃ C,k C=some r/\ek P N Φ ops σ o some=some C:=
 let ⟨C,E,I⟩:=(adx D).m6 h
 ⟨C,E,I S some⟩
def W3{ops:Array Oper}{b:Bool}(h:gG σ ops o=some b):∀ g c t,o.guard=some (g,c) -> (ops[g]?).bind (·.dst)=some t -> (σ.t t).pQ p pb=true:=by
 intro g c t C D;unfold gG at h;rw[C]at h;simp[D]at h;split at h
 next hb=>rw[hb];rfl
 next hb=>rw[hb];rfl
 ·cases h
def FC{ops:Array Oper}{d:Nat}(h:d ∉ o.looksAt ops)(v:A){x:Operand}(C:x∈o.op.operands):aL (σ.set d v) x=aL σ x:=by
 cases x with
 | tmp t=>
  have:t≠d:=by
   rintro rfl;exact h (List.mem_append_left _ (List.mem_filterMap.2 ⟨.tmp t,by simpa using C,rfl⟩))
  exact cN _ _ _ this
 |_=>rfl
def W4{ops:Array Oper}{d:Nat}(h:d ∉ o.looksAt ops)(v:A):∀ g b t,o.guard=some (g,b) -> (ops[g]?).bind (·.dst)=some t -> (σ.set d v).t t=σ.t t:=by
 intro g b t C D;have:t≠d:=by
  rintro rfl;refine h (List.mem_append_right _ ?_);simp_all
 exact cN _ _ _ this
def nZ(P:Program)(ops:Array Oper)(C:Oper)(p pb:Nat->Bool)(v:A)(σ:S):Prop:=
 (gG σ ops C=some true/\gB C.op=true/\nS (λX k=>nW (X:=X) P σ C.op k) v/\(∀y∈C.op.operands,(aL σ y).pQ p pb=true)/\v.pQ p pb=true/\∀t y r j,C.op = .load t y->aL σ y = .aE r j->p r=false)\/(gG σ ops C=some false/\v = .skip)
def nZ.grow{ops:Array Oper}{Y:Oper}{v:A}(h:nZ P ops Y p pb v σ){cW:S}(C:iN p pb σ cW):nZ P ops Y p pb v cW:=by
 rcases h with ⟨D,I,h3,E,h5,h6⟩|⟨D,I⟩
 ·refine .inl ⟨?_,I,C.val h3 E h5 h6,λy hy=>?_,h5,λt y r j e h=>?_⟩
  ·rw[AR λg b t O U=>C.t (W3 D g b t O U)];exact D
  ·rw[C.WY (E y hy)];exact E y hy
  ·exact h6 t y r j e (by rw[<-C.WY (E y (by rw[e];simp[Op.operands]))];exact h)
 ·refine .inr ⟨?_,I⟩;rw[AR λg b t O U=>C.t (W3 D g b t O U)];exact D
def nZ.set{ops:Array Oper}{D:Oper}{v u:A}(h:nZ P ops D p pb v σ){d:Nat}(C:d ∉ D.looksAt ops):nZ P ops D p pb v (σ.set d u):=by
 rcases h with ⟨E,I,U,Y,h5,h6⟩|⟨E,I⟩
 ·refine .inl ⟨?_,I,λX k=>?_,λy O=>?_,h5,λt y r j e h=>?_⟩
  ·rw[AR (W4 C u)];exact E
  ·exact(adl (σ:=σ) (σ2:=σ.set d u) D.op rfl (λx hx=>FC C u hx) k).trans (U.at_ k)
  ·rw[FC C u O];exact Y y O
  ·exact h6 t y r j e (by rw[<-FC C u (by rw[e];simp[Op.operands])];exact h)
 ·refine .inr ⟨?_,I⟩;rw[AR (W4 C u)];exact E
def nZ.put{ops:Array Oper}{C:Oper}{v u:A}(h:nZ P ops C p pb v σ){D:ah Tmp}(E:∀ d,D=some d->d ∉ C.looksAt ops):nZ P ops C p pb v (gQ σ D u):=by
 cases D with
 |none=>exact h
 |some d=>exact h.set (E d rfl)
def nZ.nr{ops:Array Oper}{C:Oper}{v:A}(h:nZ P ops C p pb v σ):v.pQ p pb=true:=by
 rcases h with ⟨_,_,_,_,D,_⟩|⟨_,E⟩
 ·exact D
 ·rw[E];rfl
def ady{x y:ah Tmp}(v u:A)(h:∀ d,x=some d->y≠some d):gQ (gQ σ x v) y u=gQ (gQ σ y u) x v:=by
 cases x with
 |none=>rfl
 | some d=>cases y with
  |none=>rfl
  |some e=>exact S.set_set (λC=>h d rfl (bC some C)) v u
def aq0(x:ah Tmp)(v:A):(gQ σ x v).m=σ.m:=by cases x<;>rfl
def Py{ops:Array Oper}{C:ah Tmp}(h:∀ d,C=some d->d ∉ o.looksAt ops)(v:A){x:Operand}(D:x∈o.op.operands):aL (gQ σ C v) x=aL σ x:=by
 cases C with
 |none=>rfl
 |some d=>exact FC (h d rfl) v D
def aq1{ops:Array Oper}{C:ah Tmp}(h:∀ d,C=some d->d ∉ o.looksAt ops)(v:A):gG (gQ σ C v) ops o=gG σ ops o:=by
 cases C with
 |none=>rfl
 |some d=>exact AR (W4 (h d rfl) v)
/-! Calls that write blocks alone. -/
def adz{σ2:S}(C:σ2.m=σ.m)(ns:aa Nat):∀ (xs:aa Lf) (k:aa V -> ah X),tO σ2 ns xs k=tO σ ns xs k
 |[],k=>rfl
 | x :: xs,k=>by
  simp[tO,WR C];congr 2;funext y;exact adz C ns xs _
def aq2{σ2:S}(C:σ2.m=σ.m)(ns:aa Nat)(x:A)(k:Pt->ah X):sO σ2 ns x k=sO σ ns x k:=by
 unfold sO;split<;>simp only[adz C,C]
def aq3{σ2:S}(C:σ2.m=σ.m)(p:PK)(x:A):wF σ2 p x=wF σ p x:=by
 cases p<;>simp only[wF,C]
def adA{σ2:S}(C:σ2.m=σ.m):∀ (ps:aa PK) (xs:aa Operand),(∀ x∈xs,aL σ2 x=aL σ x)->kz σ2 ps xs=kz σ ps xs
 |[],[],_=>rfl
 |[],_::_,_=>rfl
 |_::_,[],_=>rfl
 | p :: ps,x :: xs,h=>by
  simp only[kz];rw[h x (.head _),aq3 C,adA C ps xs (λy D=>h y (.tail _ D))]
def Pz{σ2:S}(E:σ2.m=σ.m)(ns:aa Nat):∀ (ps:aa PK) (xs:aa Operand) (C:aa Mu) (k:mH ps->ah X),(∀ x∈xs,aL σ2 x=aL σ x)->kA σ2 ns ps xs C k=kA σ ns ps xs C k
 |[],[],[],k,_=>rfl
 | .v b t :: ps,x :: xs,C,k,h=>by
  simp only[kA];rw[h x (.head _),aq2 E];congr 1;funext p;congr 1;split
  ·exact Pz E ns ps xs C _ (λy D=>h y (.tail _ D))
  ·rfl
 | .p t g off :: ps,x :: xs,.aB I cs O :: C,k,h=>by
  simp only[kA];split
  ·exact Pz E ns ps xs C _ (λy D=>h y (.tail _ D))
  ·rfl
 | .s t g :: ps,x :: xs,.sl q U :: C,k,h=>by
  simp only[kA];split
  ·exact Pz E ns ps xs C _ (λy D=>h y (.tail _ D))
  ·rfl
 |[],[],_::_,k,_=>rfl
 |[],_::_,_,k,_=>rfl
 |.v _ _::_,[],_,k,_=>rfl
 |.p _ _ _::_,[],_,k,_=>rfl
 |.s _ _::_,[],_,k,_=>rfl
 |.p _ _ _::_,_::_,[],k,_=>rfl
 |.s _ _::_,_::_,[],k,_=>rfl
 |.p _ _ _::_,_::_,.sl _ _::_,k,_=>rfl
 |.s _ _::_,_::_,.aB _ _ _::_,k,_=>rfl
def aq4{m:Nat -> ah aX}{l:Lf}{v:V}{q:Nat}(h:wE m l=some (v,some q)):v.aI=false:=by
 unfold wE at h
 grind
def adB{m:Nat->ah aX}:∀ {cs:aa Lf} {C:aa (V×ah Nat)},sN m cs=some C->(∀ v∈C,v.1.aI=true)->∀ v∈C,v.2=none
 |[],C,h,_=>by injection h with h;subst h;simp
 | c :: cs,C,h,D=>by
  unfold sN at h;split at h
  ·rename_i v U E I;injection h with h;subst h;intro u hu;rcases gZ.1 hu with rfl | hu
   ·obtain⟨x,q⟩:=u;cases q with
    |none=>rfl
    |some q=>have:=aq4 E;rw[D _ (.head _)]at this;cases this
   ·exact adB I (λv O=>D v (.tail _ O)) u hu
  ·cases h
def adC{i:Nat}:∀ (C:aa (V×ah Nat)) (j:Nat),(∀ v∈C,v.2=none) -> Fm i j C=[]
 |[],_,_=>rfl
 | (x,q) :: C,j,h=>by
  have:=h _ (.head _);subst this;exact adC C _ (λv D=>h v (.tail _ D))
def W5:∀ (C:aa Nat) (xs:aa V),(∀ x∈xs,x.aI=true)->wJ C xs=[]/\uZ C xs=[]
 |[],[],_=>⟨rfl,rfl⟩
 |[],_::_,_=>⟨rfl,rfl⟩
 |_::_,[],_=>⟨rfl,rfl⟩
 | n :: C,x :: xs,h=>by
  simp only[wJ,uZ,h x (.head _),aq];exact W5 C xs (λx D=>h x (.tail _ D))
def FD(ps:aa PK):Bool:=ps.all λp=>match p with
 |.v _ _=>true
 |.p _ g _=>Nat.beq g 0
 |.s _ _=>false
def W7{ns:aa Nat}:∀ (ps:aa PK) (xs:aa Operand) (D:aa Mu) (k:mH ps->ah X),FD ps=true->kz σ ps xs=some D->kA σ ns ps xs D k=some r->∀ (i E c0:Nat) (y:sM (fk ps)),
  (∀p∈m9 i D,p.1∈jC σ ps xs)/\oJ c0 E D (jR (fk ps) y)=[]/\∀(JF cn:aa Nat),∀p∈mI JF cn c0 E D (jR (fk ps) y),p.1∈jC σ ps xs
 | [],[],D,k,_,C,h=>by
  injection C with C;subst C;intro i E c0 y;exact⟨(λp hp=>by cases hp),by simp[oJ],(λ_ _ p hp=>by simp[mI]at hp)⟩
 | .v b t :: ps,x :: xs,D,k,Y,C,h=>by
  have ru:kz σ ps xs=some D:=by
   unfold kz at C;split at C
   next mu nc I O=>exact(wI I).elim
   next nc I O=>rw[O];exact C
   ·cases C
  have E4:FD ps=true:=by simpa [FD]using Y
  unfold kA at h;obtain⟨p,O,_⟩:=ac5.m6 h;cases hb:p.1==b with
  |false=>rw[hb]at O;cases O
  | true=>
   rw[hb,aq]at O;split at O
   ·intro i E c0 y;exact W7 ps xs D _ E4 ru O i E c0 y
   ·cases O
 | .p t g off :: ps,x :: xs,D,k,Y,C,h=>by
  unfold kz at C;split at C
  ·rename_i mu nc I O;injection C with C;subst C;have I:=wI I;cases mu with
   |sl=>exact I.elim
   | aB r' cs U=>
    have I:aL σ x = .aE r' off/\AF σ (.aB r' cs U):=I;have Y:Nat.beq g 0=true/\FD ps=true:=by simpa [FD]using Y
    have hg:=cL Y.1;subst hg;unfold kA at h;split at h
    ·rename_i z hz;have hz:dec t 0 (U.map (·.1))=some z:=hz;have hw:=mY t 0 _ z hz;have W8:∀ v∈U,v.1.aI=true:=by
      intro v hv;obtain⟨j,hj⟩:=List.mem_iff_getElem?.1 hv;have PB:(U.map (·.1))[j]?=some v.1:=by rw[fh,hj];rfl
      have yh:j<(enc t 0 z).length:=by rw[<-hw.1];exact(eO.1 PB).1
      have hk:=hw.2 j _ _ PB (bT yh);have wN:=sy t 0 z (by omega) j _ (bT yh);cases W8:v.1.aI with
      |true=>rfl
      |false=>rw[hk.V6 W8]at wN;cases wN
     have hn:=adB I.2.2.1 W8;intro i E c0 y;obtain⟨k1,k2,k3⟩:=W7 ps xs nc _ Y.2 O h (i+1) (E+1+U.length) c0 y.2;have hyf:∀ u∈enc t 0 y.1,u.aI=true:=by
      intro u hu;obtain⟨j,hj⟩:=List.mem_iff_getElem?.1 hu;exact sy t 0 y.1 (by omega) j u hj
     have CR:jC σ (.p t 0 off::ps) (x::xs)=r'::jC σ ps xs:=by simp only[jC,I.1]
     rw[CR]
     refine⟨λp hp=>?_,?_,λJF cn p hp=>?_⟩
     ·simp only[m9,adC U 0 hn,kJ]at hp;rcases gZ.1 hp with rfl | hp
      ·exact .head _
      ·exact .tail _ (k1 p hp)
     ·show wJ (nV c0 (E+1) U) (enc t 0 y.1)++oJ c0 (E+1+U.length) nc (jR (fk ps) y.2)=[]
      rw[(W5 _ _ hyf).1,k2];rfl
     ·have hp:p∈(r',aX.aB (qH JF cn (nV c0 (E+1) U) cs (enc t 0 y.1))) :: (uZ (nV c0 (E+1) U) (enc t 0 y.1)++mI JF cn c0 (E+1+U.length) nc (jR (fk ps) y.2)):=hp;rw[(W5 _ _ hyf).2,kJ]at hp;rcases gZ.1 hp with rfl | hp
      ·exact .head _
      ·exact .tail _ (k3 JF cn p hp)
    ·cases h
  next nc I O=>exact(wI I).elim
  ·cases C
 |.s t g::ps,x::xs,D,k,Y,C,h=>by simp[FD]at Y
 |[],_::_,D,k,_,C,h=>by cases C
 |_::_,[],D,k,_,C,h=>by cases C
def S.W9{ns:aa Nat}{nr:aa (Nat×aX)}(v:A)(h:v.dR ns []=v):(σ.set d v).dR ns [] nr=(σ.dR ns [] nr).set d v:=by
 refine S.ext' (λk=>?_) λ_=>rfl
 show (cc σ.t d v k).dR ns []=cc (λk=>(σ.t k).dR ns []) d v k;by_cases C:k=d
 ·subst C;rw[cm,cm];exact h
 ·rw[cN _ _ _ C,cN _ _ _ C]
def PC{n:Nat}{x:aX}:∀ {l:aa (Nat×aX)},l.lookup n=some x -> (n,x)∈l
 |[],h=>by cases h
 | q :: l,h=>by
  rw[List.lookup_cons]at h;cases hb:n==q.1 with
  |true =>grind
  |false=>rw[hb]at h;exact .tail _ (PC h)
theorem aq5{τ:S}{f:Nat}{args:Array Operand}{iW:Array TypeId}{c:qG}(ho:o.op = .call { callee:=.value (.func f),args,argTypes:=iW })(hc:Φ f=some (.m c))(hfl:Pp c=true)(hp:∀ n,fH o n=true->p n=true/\pb n=true)(Fu:∀ n∈jC σ c.ps args.toList,p n=true)
  (h:eA P N Φ σ o some=some τ):Nonempty (sS P N Φ o p pb σ τ):=by
 have cH:∀ σ2,eA P N Φ σ2 o some=qI N σ2 o.dst c args.toList some:=by
  intro σ2;unfold eA;rw[show gB o.op=false by rw[ho];rfl,av];simp only[jo,ho,hc]
 rw[cH]at h;have adD:∀ σ2:S,(∀ x∈o.op.operands,aL σ2 x=aL σ x)->∀ x∈args.toList,aL σ2 x=aL σ x:=by
  intro σ2 E x Y;refine E x ?_;rw[ho];simp only[Op.operands,Call.operands];simp only[Array.mem_append]
  first
   |exact .inr (by simpa using Y)
   |exact .inl (by simpa using Y)
 unfold qI at h;split at h
 ·rename_i O yH;cases lE:(once (m9 0 O)&&Nat.ble O.length 40)with
  |false=>rw[lE]at h;cases h
  | true=>
   rw[lE,aq]at h;have aq6:=W7 c.ps args.toList O _ hfl yH h;obtain⟨x,C,hd⟩:=(Pf _ _ _).m6 h;split at C
   ·rename_i y hy;obtain⟨k1,k2,k3⟩:=aq6 0 (fL c.ro y.1).len (jS o.dst) y.2;unfold Fq at C;rw[k2]at C;generalize gk:Fp N O (jR (fk c.ps) y.2) []=ok at C;cases ok with
    |false=>cases C
    | true=>
     rw[aq]at C;generalize Ac:(m9 0 O).map (·.1)=ns at C hd;generalize Je:mI ns [] (jS o.dst) (fL c.ro y.1).len O (jR (fk c.ps) y.2)=nr at C;have PD:WU p ns nr:=by
      refine⟨λn D=>?_,λn x Y=>?_⟩
      ·rw[<-Ac]at D;obtain⟨q,hq,e⟩:=List.mem_map.1 (uY.1 D);rw[<-e];exact Fu _ (k1 q hq)
      ·rw[<-Je]at Y;exact Fu _ (k3 ns [] _ (PC Y))
     have qL:∀ σ2:S,(∀ x∈o.op.operands,aL σ2 x=aL σ x)->σ2.m=σ.m->qI N σ2 o.dst c args.toList some=rE N (σ2.dR ns [] nr) o.dst (fL c.ro y.1) some:=by
      intro σ2 E U;simp only[qI];rw[adA U _ _ (adD σ2 E),yH];simp only[lE,aq];rw[Ac,Pz U _ _ _ _ _ (adD σ2 E)];refine(hd S _).trans ?_;simp only[hy,Fq,k2,gk,aq,Je]
     have bp0:∀ (σ:S) t r j,σ.t t = .aE r j->(σ.dR ns [] nr).t t = .aE r j:=by
      intro σ t r j ht;show A.dR ns [] (σ.t t)=_;rw[ht];rfl
     generalize mG:fL c.ro y.1=res at C qL;cases I:o.dst with
     | none=>
      rw[I]at C;have C:some (σ.dR ns [] nr)=some τ:=C;injection C with C;exact⟨{ G:=λσ=>σ.dR ns [] nr,u:=.undef,eq:=by rw[I];exact C.symm,run:=λσ2 E U=>by rw[cH,qL σ2 E U,I];rfl,grow:=λσ=>.dR ns nr PD (.refl σ),set:=λσ e v hv=>S.W9 v (A.WX hv PD.ns),bp:=λ_ σ t r j ht _=>bp0 σ t r j ht }⟩
     | some d=>
      rw[I]at C;have kO:∀n,1000000000100000+1000*d<=n->fH o n=true:=λn D=>by unfold fH;rw[I,ho];exact mT D
      have yP:∀n,1000000000100000+1000*d<=n->p n=true/\pb n=true:=λn D=>hp n (kO n D)
      cases hN:Nat.blt d N with
      |false=>simp only[rE,hN,av]at C;cases C
      | true=>
       have e:∀σ,rE N σ (some d) res some=oH σ d res some:=λσ=>by simp only[rE,hN,aq]
       rw[e]at C;obtain⟨ps,u,hG⟩:=W0 C;rw[hG]at C;injection C with C;exact⟨{ G:=λσ=>pL (1000000000100000+1000*d) (σ.dR ns [] nr) ps,u:=u,eq:=by rw[I];exact C.symm,run:=λσ2 E U=>by rw[cH,qL σ2 E U,I,e,hG];rfl,grow:=λσ=>(iN.dR ns nr PD (.refl σ)).trans (JE ps _ _ yP),set:=λσ e v hv=>by rw[S.W9 v (A.WX hv PD.ns),Wo v ps _ _ λn D=>A.CO hv (yP n D).1 (yP n D).2],bp:=λ_ σ t r j ht hr=>(JE (p:=fH o) (pb:=fH o) ps _ _ (λn D=>⟨kO n D,kO n D⟩)).bp (bp0 σ t r j ht) hr }⟩
   ·cases C
 ·cases h
def Calm(Φ:fl)(ok:Nat->Nat->Bool)(sU nX p pb:Nat->Bool)(σ:S)(o:Oper):Prop:=
 Po Φ o.op=true\/(∃f args D c,o.op = .call { callee:=.value (.func f),args:=args,argTypes:=D }/\Φ f=some (.m c)/\Pp c=true/\tT ok σ c.ps args.toList=true/\∀n∈jC σ c.ps args.toList,p n=true)\/
 (∃ty t y,o.op = .store ty (.tmp t) y/\o.dst=none/\sU t=true/\kP p (σ.t t))\/
 ∃x y t C,o.op = .call ⟨.builtin .append,⟨[.tmp x,y]⟩,⟨[t,C]⟩⟩/\nX x=true/\(rF t=false/\Nat.beq t C=true/\CV o.dst t (.tmp x)=false)/\sR p pb (σ.t x)
theorem aq7{τ:S}{ty:TypeId}{t:Tmp}{y:Operand}(I:o.op = .store ty (.tmp t) y)(hd:o.dst=none)(C:kP p (σ.t t))(h:eA P N Φ σ o some=some τ):Nonempty (sS P N Φ o p pb σ τ):=by
 have Jc:∀ (x:A) (z:A),(∀ k,x ≠ .ptr k) -> yK x z=false:=by
  intro x z E;unfold yK;split
  ·grind
  ·rfl
 have cH:∀ σ2:S,(∀ k,σ2.t t ≠ .ptr k) -> eA P N Φ σ2 o some=rq P σ2 ty (σ2.t t) (aL σ2 y) some:=by
  intro σ2 PE;unfold eA;rw[show gB o.op=false by rw[I];rfl,av];simp only[jo,I,hd];rw[show yK (aL σ2 (.tmp t)) (aL σ2 y)=false from Jc _ _ PE,av];rfl
 rw[cH σ (λk O=>by rw[O]at C;exact C)]at h;cases E:σ.t t with
 | aE D j=>
  rw[E]at h C;have hp:p D=true:=C;have key:∃ x,∀ σ2:S,σ2.m=σ.m -> ∀ v,v=aL σ y -> rq P σ2 ty (.aE D j) v some=some (σ2.root D x):=by
   unfold rq at h;split at h
   ·rename_i n xs hn oE;split at h
    ·rename_i hlen;simp only at h;split at h
     ·rename_i cs gA;split at h
      ·rename_i hj;cases hl:xs.all Lf.live with
       |false=>grind
       | true=>
        refine⟨.aB (splice cs j xs),λσ2 U v hv=>?_⟩
        subst hv;simp only[rq,hn,oE,bg hlen,U,gA,bg hj,hl,aq];simp only[S.root,U]
      ·cases h
     ·cases h
    ·cases h
   ·cases h
  obtain⟨x,l5⟩:=key;have Y:=l5 σ rfl _ rfl;rw[h]at Y;injection Y with Y
  refine⟨{ G:=λσ=>σ.root D x,u:=.undef,eq:=by rw[hd];exact Y,run:=λσ2 qK U=>?_,grow:=λσ=>.rt D x hp (.refl σ),set:=λσ d v hv=>rfl,bp:=λ_ σ t r j ht _=>ht }⟩
  have e1:σ2.t t = .aE D j:=(qK (.tmp t) (by rw[I];simp[Op.operands])).trans E;rw[cH σ2 (λk O=>by rw[e1]at O;cases O),e1,l5 σ2 U _ (qK y (by rw[I];simp[Op.operands])),hd];rfl
 |ptr k=>rw[E]at C;exact C.elim
 | _=>
  rw[E]at h;exfalso;revert h;unfold rq;split
  ·grind
  ·grind
def cM(e:Nat)(x:aX)(u:A)(σ:S):S:=((σ.drop e).root e x).set e u
def n5(e:Nat)(u:A):Prop:=u = .aE e 0\/u = .lf (.own [e])
structure lH (x:aX):Prop where
 cG:∀K:oD,x.cG K=x
def lH.drop{x:aX}(h:lH x)(n:Nat):x.drop n=x:=h.cG _
def lH.dR{x:aX}(h:lH x)(ns cn:aa Nat):x.dR ns cn=x:=h.cG _
def lH.zero(C:aa Value):lH (.aB (C.map pI)):=⟨λK=>bC aX.aB (sB.qm (ck.2 λc D=>by
 obtain⟨v,_,rfl⟩:=List.mem_map.1 D;unfold pI;split<;>rfl))⟩
def adE(h:wM o=true):∃ t,∃ e:Nat,o.op = .alloc t/\o.guard=none/\o.dst=some e/\e<20000:=by
 unfold wM at h;rw[aP,aP]at h;obtain⟨⟨C,E⟩,D⟩:=h;split at C
 ·rename_i t I;split at D
  ·simp_all
  ·cases D
 ·cases C
def aq8{ops:Array Oper}{t:TypeId}{e:Nat}(D:o.op = .alloc t)(O:o.guard=none)(U:o.dst=some e){E:S}(h:ek P N Φ ops σ o some=some E):∃ x,lH x/\E=cM e x (.aE e 0) σ/\∀ σ2,ek P N Φ ops σ2 o some=some (cM e x (.aE e 0) σ2):=by
 have I:∀ σ2,ek P N Φ ops σ2 o some=sE P N σ2 e t some:=by
  intro σ2;unfold ek gG;rw[O];simp only;unfold eA;rw[show gB o.op=false by rw[D];rfl,av];simp only[jo,D,iG,U]
 rw[I]at h;unfold sE at h;split at h
 ·rename_i z Y;unfold iF at h;cases C:Nat.blt e N with
  |false=>rw[C]at h;cases h
  | true=>
   rw[C,aq]at h;injection h with h
   refine⟨_,.zero _,h.symm,λσ2=>(I σ2).trans ?_⟩
   unfold sE iF;rw[Y,C];rfl
 ·cases h
def JG{σ2:S}:∀ (ps:aa PK) (xs:aa Operand),(∀ x∈xs,aL σ2 x=aL σ x) -> jC σ2 ps xs=jC σ ps xs
 |[],[],_=>rfl
 |[],_::_,_=>rfl
 |.v _ _::_,[],_=>rfl
 |.p _ _ _::_,[],_=>rfl
 |.s _ _::_,[],_=>rfl
 |.v _ _::ps,x::xs,h=>by simp[jC];exact JG ps xs (λy C=>h y (.tail _ C))
 |.s _ _::ps,x::xs,h=>by simp only[jC];exact JG ps xs (λy C=>h y (.tail _ C))
 | .p _ _ _ :: ps,x :: xs,h=>by
  simp only[jC];rw[h x (.head _),JG ps xs (λy C=>h y (.tail _ C))]
def Xa{ok:Nat -> Nat -> Bool}{σ2:S}(D:∀ t r j,σ.t t = .aE r j -> ok t r=true -> σ2.t t = .aE r j):∀ (ps:aa PK) (xs:aa Operand),tT ok σ ps xs=true -> tT ok σ2 ps xs=true/\jC σ2 ps xs=jC σ ps xs
 |[],[],_=>⟨rfl,rfl⟩
 | .v _ _ :: ps,x :: xs,h=>by
  exact Xa D ps xs h
 | .p _ _ _ :: ps,x :: xs,h=>by
  cases x with
  | tmp t=>
   simp[tT,aP]at h;obtain⟨C,I⟩:=h;obtain⟨O,U⟩:=Xa D ps xs I;split at C
   ·rename_i Y j E;have e:=D t Y j E C;refine⟨?_,?_⟩
    ·simp only[tT,aP];exact⟨by rw[e];exact C,O⟩
    ·simp only[jC,aL,e,E,U]
   ·cases C
  |const v=>simp[tT]at h
  |global g=>simp[tT]at h
  |func f=>simp[tT]at h
def Calm.nQ{ok:Nat->Nat->Bool}{sU nX:Nat->Bool}{σ2:S}(h:Calm Φ ok sU nX p pb σ o)(O:∀ t r j,σ.t t = .aE r j->ok t r=true->σ2.t t = .aE r j)(U:∀ t,sU t=true->kP p (σ.t t)->kP p (σ2.t t))(Y:∀ t,nX t=true->sR p pb (σ.t t)->sR p pb (σ2.t t)):Calm Φ ok sU nX p pb σ2 o:=by
 rcases h with h|⟨f,args,iW,c,E,C,D,I,h5⟩|⟨ty,t,y,E,C,D,I⟩|⟨x,y,t,t',E,C,hn,D⟩
 ·exact .inl h
 ·obtain⟨k1,k2⟩:=Xa O _ _ I;exact .inr (.inl ⟨f,args,iW,c,E,C,D,k1,by rw[k2];exact h5⟩)
 ·exact .inr (.inr (.inl ⟨ty,t,y,E,C,D,U t D I⟩))
 ·exact .inr (.inr (.inr ⟨x,y,t,t',E,C,hn,Y x C D⟩))
def PF{ops:Array Oper}(Y:pP o=true)(hw:gG σ ops o=some true){τ:S}(h:ek P N Φ ops σ o some=some τ):∃ (e:Nat) (x:aX) (u:A),o.dst=some e/\e<20000/\lH x/\n5 e u/\τ=cM e x u σ/\
  ∀σ2,gG σ2 ops o=some true->(∀y∈o.op.operands,aL σ2 y=aL σ y)->ek P N Φ ops σ2 o some=some (cM e x u σ2):=by
 have cH:gB o.op=false->∀ σ2,gG σ2 ops o=some true->ek P N Φ ops σ2 o some=jo P N Φ σ2 o some:=by
  intro hv σ2 I;unfold ek;rw[I];simp only;unfold eA;rw[hv,av]
 have bsl:∀y:V,lH (.sl y):=λy=>⟨λ_=>rfl⟩
 unfold pP at Y;rw[aP]at Y;obtain⟨JH,wO⟩:=Y;split at wO
 ·rename_i e D;have dQ:e<20000:=dj wO;split at JH
  ·rename_i t C;have E:=cH (by rw[C];rfl);rw[E σ hw]at h;simp only[jo,C,iG,D]at h;unfold sE at h;split at h
   ·rename_i z hz;unfold iF at h;cases hN:Nat.blt e N with
    |false=>rw[hN]at h;cases h
    | true=>
     rw[hN,aq]at h;injection h with h
     refine⟨e,.aB (z.cells.toList.map pI),.aE e 0,D,dQ,.zero _,.inl rfl,h.symm,λσ2 I _=>(E σ2 I).trans ?_⟩
     simp only[jo,C,iG,D];unfold sE iF;rw[hz,hN];rfl
   ·cases h
  ·rename_i t len parts C;have E:=cH (by rw[C];rfl);rw[E σ hw]at h;have hn:rF t=false:=by simpa using JH
   simp only[jo,C,iG,D,hn,av]at h;obtain⟨y,O,h2⟩:=acV h;injection O with O
   refine⟨e,.sl y,.lf (.own [e]),D,dQ,bsl y,.inr rfl,O.symm,λσ2 I U=>(E σ2 I).trans ?_⟩
   simp only[jo,C,iG,D,hn,av]
   refine(h2 σ2 λq hq=>U _ ?_).at_ _
   rw[C];simp only[Op.operands];exact List.mem_toArray.2 (List.mem_map_of_mem (f:=(·.2)) hq)
  ·rename_i t l c C;have E:=cH (by rw[C];rfl);rw[E σ hw]at h;simp only[jo,C,iG,D]at h;obtain⟨y,O,h2⟩:=acU h;injection O with O
   refine⟨e,.sl y,.lf (.own [e]),D,dQ,bsl y,.inr rfl,O.symm,λσ2 I U=>(E σ2 I).trans ?_⟩
   simp only[jo,C,iG,D];rw[U l (by rw[C];simp[Op.operands]),U c (by rw[C];simp[Op.operands])];exact(h2 σ2).at_ _
  ·cases JH
 ·cases wO
def PG{d:Nat}{t:TypeId}{y z:A}{Y:S}(h:uM P N σ d t y z some=some Y):∃ (r:Nat) (v:V),Y=((σ.drop r).root r (.sl v)).set d (.lf (.own [r]))/\(r=d\/y = .lf (.own [r]))/\
  ∀σ2:S,(∀(k:V->ah S),tE σ2 z k=tE σ z k)->(∀r v,y = .lf (.own [r])->σ.m r=some (.sl v)->σ2.m r=some (.sl v))->uM P N σ2 d t y z some=some (((σ2.drop r).root r (.sl v)).set d (.lf (.own [r]))):=by
 unfold uM at h;split at h
 ·rename_i e tc lA;cases I:(Nat.beq (full tc) 0&&(zeroOf P e).any (λz=>Nat.beq z.cells.size (aH tc)))with
  |false=>rw[I]at h;cases h
  | true=>
   rw[I,aq]at h;obtain⟨yv,C,hd⟩:=Wi.m6 h;clear h;split at C
   ·cases C
   ·rename_i l2 kL;split at C
    ·cases D:bE l2.length with
     |false=>rw[D]at C;cases C
     | true=>
      rw[D,aq]at C;cases O:Nat.blt d N with
      |false=>unfold iF at C;rw[O]at C;cases C
      | true=>
       have E:=C;unfold iF at E;rw[O,aq]at E;injection E with E
       refine⟨d,.sl tc 2 false l2,E.symm,.inl rfl,λσ2 U wO=>?_⟩
       simp only[uM,lA,I,aq];refine(U _).trans ((hd.at_ _).trans ?_);simp only[kL,D,aq];unfold iF;rw[O,aq]
    ·rename_i rr;split at C
     ·rename_i t' o q l hm;split at C
      ·rename_i qB;cases D:(Nat.blt d N&&(Nat.blt rr N || Nat.ble 60000 rr)&&bE (l.length+l2.length))with
       |false=>rw[D]at C;cases C
       | true=>
        rw[D,aq]at C;injection C with C
        refine⟨rr,_,C.symm,.inr rfl,λσ2 U wO=>?_⟩
        simp only[uM,lA,I,aq];refine(U _).trans ((hd.at_ _).trans ?_);simp only[kL,wO rr _ rfl hm,aC qB,D,aq]
      ·cases C
     ·cases C
    ·cases C
 ·cases h
def Xb(h:isApp o=true):∃ x y t C,o.op = .call ⟨.builtin .append,⟨[x,y]⟩,⟨[t,C]⟩⟩/\rF t=false/\Nat.beq t C=true/\CV o.dst t x=false:=by
 unfold isApp at h
 grind
def JI{x y:Operand}{t D:TypeId}(E:o.op = .call ⟨.builtin .append,⟨[x,y]⟩,⟨[t,D]⟩⟩)(I:rF t=false)(O:Nat.beq t D=true)(C:CV o.dst t x=false)(σ:S):eA P N Φ σ o some=iG o λd=>uM P N σ d t (aL σ x) (aL σ y) some:=by
 unfold eA;rw[show gB o.op=false by rw[E];rfl];simp[jo,E,I,O,aq];unfold iG;cases U:o.dst with
 |none=>rfl
 | some d=>
  rw[U]at C;have C:Pn t d x=false:=C;simp_all
theorem aq9{Y:S}{x:Tmp}{y:Operand}{t t':TypeId}(C:o.op = .call ⟨.builtin .append,⟨[.tmp x,y]⟩,⟨[t,t']⟩⟩)(E:rF t=false)(I:Nat.beq t t'=true)(O:CV o.dst t (.tmp x)=false)(hp:∀ n,fH o n=true->p n=true/\pb n=true)(lC:sR p pb (σ.t x))(h:eA P N Φ σ o some=some Y):Nonempty (sS P N Φ o p pb σ Y):=by
 rw[JI C E I O]at h;obtain⟨d,U,h⟩:=lG h;obtain⟨r,v,jn,hr,qL⟩:=PG h;have D:p r=true/\pb r=true:=by
  rcases hr with hr|hr
  ·rw[hr];exact hp d (by unfold fH;rw[U,C];exact Nat.beq_refl d)
  ·exact lC r hr
 refine⟨{ G:=λσ=>(σ.drop r).root r (.sl v),u:=.lf (.own [r]),eq:=by rw[U];exact jn,run:=λσ2 qK hm=>?_,grow:=λσ=>.root r _ D.1 D.2 (.refl σ),set:=λσ e v' hv=>(by rw[S.drop_set r (A.CO hv D.1 D.2)];rfl),bp:=λha=>(by rw[isApp,C]at ha;simp[E,I,O]at ha) }⟩
 rw[JI C E I O];unfold iG;rw[U];simp only;rw[qK (.tmp x) (by rw[C];simp[Op.operands,Call.operands]),qK y (by rw[C];simp[Op.operands,Call.operands]),qL σ2 (λk=>aqN hm _ k) (λr' v' _ h'=>by rw[hm];exact h')];rfl
theorem ara[Inhabited Wd](eE:gF P Φ){ok:Nat->Nat->Bool}{sU nX nY:Nat->Bool}(hX:∀ x,nY x=true->kP p (σ.t x)){ops:Array Oper}{oi D:Oper}{v:A}{τ:S}(hF:nZ P ops oi p pb v σ)(ha:oi.apart ops D=true)(O:Calm Φ ok sU nX p pb σ D)(hp:∀ n,fH D n=true->p n=true/\pb n=true)
  (h:ek P N Φ ops (gQ σ oi.dst v) D some=some τ):∃ Y,ek P N Φ ops σ D some=some Y/\τ=gQ Y oi.dst v/\nZ P ops oi p pb v Y/\(isApp D=false->∀ t r j,σ.t t = .aE r j->D.dst≠some t->fH D r=false->Y.t t = .aE r j)/\
   (∀t,kP p (σ.t t)->(D.dst≠some t\/(wM D=true/\p t=true)\/∃s x f,D.op = .fieldAddr s (.tmp x) f/\nY x=true)->kP p (Y.t t))/\
   ∀t,sR p pb (σ.t t)->(D.dst≠some t\/(pP D=true/\p t=true/\pb t=true)\/(isApp D=true\/AQ Φ D=true))->sR p pb (Y.t t):=by
 obtain⟨a1,a2,a3⟩:=Oper.apart_spec ha;have FE:∀ (σ:S) (u:A) t,D.dst≠some t->(gQ σ D.dst u).t t=σ.t t:=by
  intro σ u t O;cases U:D.dst with
  |none=>rfl
  |some d=>exact cN _ _ _ (by rintro rfl;exact O U)
 have FF:∀ Y,ek P N Φ ops σ D some=some Y->∀ t,wM D=true->D.dst=some t->p t=true->kP p (Y.t t):=by
  intro Y C t FF U hpt;obtain⟨ty,e,E,h2,h3,_⟩:=adE FF;rw[h3]at U;injection U with U;subst U;obtain⟨x,_,e1,_⟩:=aq8 E h2 h3 C;rw[e1];show kP p (cc _ e (.aE e 0) e);rw[cm];exact hpt
 have fin:∀ Y,ek P N Φ ops σ D some=some Y->(∀ t,D.dst≠some t->kP p (σ.t t)->kP p (Y.t t))->∀ t,kP p (σ.t t)->(D.dst≠some t\/(wM D=true/\p t=true)\/∃ s x f,D.op = .fieldAddr s (.tmp x) f/\nY x=true)->kP p (Y.t t):=by
  intro Y C hk t O Xc;rcases Xc with cx|⟨E,h2⟩|⟨s,x,f,E,h2⟩
  ·exact hk t cx O
  ·by_cases U:D.dst=some t
   ·exact FF Y C t E U h2
   ·exact hk t U O
  ·by_cases U:D.dst=some t
   ·unfold ek at C;split at C
    ·unfold eA at C;rw[show gB D.op=true by rw[E];rfl,aq]at C;rw[E]at C;simp only[nW]at C;have hx:=hX x h2;have hx:kP p (aL σ (.tmp x)):=hx;generalize aL σ (.tmp x)=z at hx C;have key:∀ v,iU N σ D.dst v some=some Y->kP p v->kP p (Y.t t):=by
      intro v hv hA;obtain⟨I,_⟩:=tV hv;injection I with I;rw[<-I,U];show kP p (cc σ.t t v t);rw[cm];exact hA
     unfold E7 at C;split at C
     ·cases C
     ·split at C
      ·split at C
       ·exact key _ C hx
       ·exact key _ C trivial
       ·exact hx.elim
       ·cases C
      ·cases C
    ·obtain⟨I,_⟩:=tV C;injection I with I;rw[<-I,U];show kP p (cc σ.t t .skip t);rw[cm];trivial
    ·cases C
   ·exact hk t U O
 have arb:=O;have adF:∀ Y,ek P N Φ ops σ D some=some Y->(∀ t,D.dst≠some t->sR p pb (σ.t t)->sR p pb (Y.t t))->∀ t,sR p pb (σ.t t)->(D.dst≠some t\/(pP D=true/\p t=true/\pb t=true)\/(isApp D=true\/AQ Φ D=true))->sR p pb (Y.t t):=by
  intro Y C hk t O Xc;rcases Xc with cx|⟨E,h2⟩|arc|CZ
  ·exact hk t cx O
  ·by_cases U:D.dst=some t
   ·cases hw:gG σ ops D with
    |none=>unfold ek at C;rw[hw]at C;cases C
    | some b=>
     cases b with
     | true=>
      obtain⟨e,x,u,I,g2,g3,g4,g5,_⟩:=PF E hw C;rw[U]at I;injection I with I;subst I;rw[g5];intro r hr;have hr:cc _ t u t = .lf (.own [r]):=hr;rw[cm]at hr;rcases g4 with g4|g4
      ·rw[g4]at hr;cases hr
      ·rw[g4]at hr;injection hr with hr;injection hr with hr;injection hr with hr;subst hr;exact h2
     | false=>
      unfold ek at C;rw[hw]at C;obtain⟨I,_⟩:=tV C;injection I with I;rw[<-I,U];intro r hr;have hr:cc σ.t t .skip t = .lf (.own [r]):=hr;rw[cm]at hr;cases hr
   ·exact hk t U O
  ·by_cases U:D.dst=some t
   ·obtain⟨x,y,t1,t2,I,g2,g3,g4⟩:=Xb arc;have hT:sR p pb (aL σ x):=by
     rcases arb with q|⟨f,args,iW,c,q1,_⟩|⟨ty,tt,yy,q1,_⟩|⟨x',y',t1',t2',q1,q2,q3,q4⟩
     ·rw[I]at q;cases q
     ·rw[I]at q1;cases q1
     ·rw[I]at q1;cases q1
     ·rw[I]at q1;injection q1 with q1;injection q1 with _ q1 _;injection q1 with q1;injection q1 with q1 _;subst q1;exact q4
    cases hw:gG σ ops D with
    |none=>unfold ek at C;rw[hw]at C;cases C
    | some b=>
     cases b with
     | true=>
      unfold ek at C;rw[hw]at C;have C:eA P N Φ σ D some=some Y:=C;rw[JI I g2 g3 g4]at C;obtain⟨d,ni,C⟩:=lG C;rw[U]at ni;injection ni with ni;subst ni;obtain⟨r,v,jn,hr,_⟩:=PG C;rw[jn];intro r' gz;have gz:cc ((σ.drop r).root r (.sl v)).t t (.lf (.own [r])) t = .lf (.own [r']):=gz;rw[cm]at gz;injection gz with gz;injection gz with gz;injection gz with gz;subst gz;rcases hr with hr|hr
      ·rw[hr];exact hp t (by unfold fH;rw[U,I];exact Nat.beq_refl t)
      ·exact hT r hr
     | false=>
      unfold ek at C;rw[hw]at C;obtain⟨I,_⟩:=tV C;injection I with I;rw[<-I,U];intro r hr;have hr:cc σ.t t .skip t = .lf (.own [r]):=hr;rw[cm]at hr;cases hr
   ·exact hk t U O
  ·by_cases U:D.dst=some t
   ·cases hw:gG σ ops D with
    |none=>unfold ek at C;rw[hw]at C;cases C
    | some b=>
     cases b with
     | true=>
      unfold ek at C;rw[hw]at C;have C:eA P N Φ σ D some=some Y:=C;unfold AQ at CZ;split at CZ
      ·rename_i f args iW ho;split at CZ
       ·rename_i c hc;unfold eA at C;rw[show gB D.op=false by rw[ho];rfl,av]at C;simp only[jo,ho,hc]at C;obtain⟨d,ni,C⟩:=lG C;rw[U]at ni;injection ni with ni;subst ni;obtain⟨res,tH,E,h2,_⟩:=Pa (JD eE hc) Jf C;injection h2 with h2;subst h2;have kO:∀ n,1000000000100000+1000*t<=n->p n=true/\pb n=true:=λn hn=>hp n (by unfold fH;rw[U,ho];exact mT hn)
        intro r hr;unfold oH at E;cases res with
        | one q=>
         simp only at E;split at E
         ·rename_i y hy;injection E with E;rw[<-E]at hr;have hr:cc _ t y t=A.lf (Lf.own [r]):=hr;rw[cm]at hr;subst hr;obtain⟨b,vs⟩:=q;cases b with
          |true=>cases hy
          | false=>
           match vs,hy with
           | [v],hy=>
            have hy:some (A.lf (bif v.aI then Lf.v v else Lf.own [1000000000100000+1000*t]))=some (A.lf (Lf.own [r])):=hy;injection hy with hy;injection hy with hy;cases hf:v.aI with
            |true=>rw[hf]at hy;cases hy
            | false=>
             rw[hf]at hy;injection hy with hy;injection hy with hy;subst hy;exact kO _ (dc _)
         ·cases E
        | fO ps=>
         injection E with E;rw[<-E]at hr;have hr:cc _ t _ t=A.lf (Lf.own [r]):=hr;rw[cm]at hr;cases hr
       ·cases CZ
      ·cases CZ
     | false=>
      unfold ek at C;rw[hw]at C;obtain⟨I,_⟩:=tV C;injection I with I;rw[<-I,U];intro r hr;have hr:cc σ.t t .skip t = .lf (.own [r]):=hr;rw[cm]at hr;cases hr
   ·exact hk t U O
 unfold ek at h;rw[aq1 a1]at h;split at h
 ·rename_i hw;have ard:Nonempty (sS P N Φ D p pb (gQ σ oi.dst v) τ):=by
   rcases O with O|⟨f,args,iW,c,E,h2,h3,h4,h5⟩|⟨ty,t,y,E,h2,h3,h4⟩|⟨x,y,t1,t2,E,h2,hn,h3⟩
   ·exact aqZ eE O hp h
   ·refine aq5 E h2 h3 hp ?_ h;rw[JG]
    ·exact h5
    ·intro x hx;refine Py a1 v ?_;rw[E];simp only[Op.operands,Call.operands];simp only[Array.mem_append]
     first
      |exact .inr (by simpa using hx)
      |exact .inl (by simpa using hx)
   ·refine aq7 E h2 ?_ h;have e1:aL (gQ σ oi.dst v) (.tmp t)=aL σ (.tmp t):=Py a1 v (by rw[E];simp[Op.operands]);have e1:(gQ σ oi.dst v).t t=σ.t t:=e1;rw[e1];exact h4
   ·refine aq9 E hn.1 hn.2.1 hn.2.2 hp ?_ h;have e1:aL (gQ σ oi.dst v) (.tmp x)=aL σ (.tmp x):=Py a1 v (by rw[E];simp[Op.operands,Call.operands]);have e1:(gQ σ oi.dst v).t x=σ.t x:=e1;rw[e1];exact h3
  obtain⟨G,u,e,hr,hg,hs,PI⟩:=ard;have sV:ek P N Φ ops σ D some=some (gQ (G σ) D.dst u):=by
   unfold ek;rw[hw];exact hr σ (λx hx=>(Py a1 v hx).symm) (aq0 _ _).symm
  refine⟨gQ (G σ) D.dst u,sV,?_,(hF.grow (hg σ)).put a3,λhna t r j O cx kO=>?_,fin _ sV λt cx O=>?_,adF _ sV λt cx O=>?_⟩
  ·refine e.trans ?_;have:∀ dst,G (gQ σ dst v)=gQ (G σ) dst v:=by
    intro dst;cases dst with
    |none=>rfl
    |some d=>exact hs σ d v hF.nr
   rw[this];exact ady _ _ a2
  ·rw[FE _ _ t cx];exact PI hna σ t r j O kO
  ·rw[FE _ _ t cx];exact(hg σ).st O
  ·rw[FE _ _ t cx];exact(hg σ).tg O
 ·rename_i hw;obtain⟨E,h2⟩:=tV h;injection E with E;have sV:ek P N Φ ops σ D some=some (gQ σ D.dst .skip):=by
   unfold ek;rw[hw];exact(h2 σ).at_ _
  exact⟨gQ σ D.dst .skip,sV,by rw[<-E];exact ady _ _ a2,hF.put a3,λ_ t r j O cx _=>(by rw[FE _ _ t cx];exact O),fin _ sV λt cx O=>(by rw[FE _ _ t cx];exact O),adF _ sV λt cx O=>(by rw[FE _ _ t cx];exact O)⟩
 ·cases h
def Any(P:Program)(N:Nat)(Φ:fl)(ops:Array Oper)(K:S->Prop):Nat->Nat->S->Prop
 |0,L,σ=>(∀j,ng ops L j=false)/\K σ
 |f+1,L,σ=>((∀j,ng ops L j=false)->K σ)/\∀j,ng ops L j=true->∃o C,ops[j]?=some o/\ek P N Φ ops σ o some=some C/\Any P N Φ ops K f (L |||2 ^ j) C
def AS(L i j:Nat):(L ||| 2 ^ i).testBit j=(L.testBit j || decide (i=j)):=by
 rw[Nat.testBit_or,Nat.testBit_two_pow]
def JJ{ops:Array Oper}{L j:Nat}:ng ops L j=true ↔ L.testBit j=false /\ ∃ o,ops[j]?=some o /\ ∀ e∈o.after,Region.binds .any e=true -> L.testBit e.on=true:=by
 unfold ng
 grind
def Xd{ops:Array Oper}{L i j:Nat}(h:ng ops L j=true)(C:j≠i):ng ops (L ||| 2 ^ i) j=true:=by
 rw[JJ]at h ⊢
 grind
def nZ.step{ops:Array Oper}{C:Oper}{v:A}(I:nZ P ops C p pb v σ)(O:∀ σ:S,iU N σ C.dst v some=some (gQ σ C.dst v)):ek P N Φ ops σ C some=some (gQ σ C.dst v):=by
 unfold ek;rcases I with ⟨D,E,U,_,_,_⟩|⟨D,E⟩
 ·rw[D];unfold eA;rw[E,aq];exact(U.at_ _).trans (O σ)
 ·simp_all
def Xe{K:S -> Prop}{ops:Array Oper}{i W:Nat}{Y:Oper}(hi:ops[i]?=some Y)(hW:∀ j C,ops[j]?=some C -> W.testBit j=true -> ∃ e∈C.after,Region.binds .any e=true/\(e.on=i \/ W.testBit e.on=true))(E:S -> S)(I:Nat -> S -> Prop)
  (r1:∀L σ,I L σ -> ek P N Φ ops σ Y some=some (E σ))
  (r2:∀L σ j C τ,I L σ -> ops[j]?=some C -> j≠i -> L.testBit j=false -> W.testBit j=false -> ek P N Φ ops (E σ) C some=some τ -> ∃O,ek P N Φ ops σ C some=some O/\τ=E O/\I (L |||2 ^ j) O):
  ∀(f L:Nat) (σ:S),(∀j,W.testBit j=true -> L.testBit j=false) -> ng ops L i=true -> I L σ -> Any P N Φ ops K f (L |||2 ^ i) (E σ) -> Any P N Φ ops K (f+1) L σ:=by
 intro f
 induction f with
 | zero=>
  intro L σ wP U hI H
  refine⟨λh=>absurd (h i) (by rw[U];simp),λj hj=>?_⟩
  by_cases D:j=i
  ·subst D;exact⟨Y,_,hi,r1 L σ hI,H⟩
  ·have:=Xd hj D;rw[H.1]at this;cases this
 | succ f ih=>
  intro L σ wP U hI H
  refine⟨λh=>absurd (h i) (by rw[U];simp),λj hj=>?_⟩
  by_cases D:j=i
  ·subst D;exact⟨Y,_,hi,r1 L σ hI,H⟩
  ·obtain⟨C,τ,yQ,jn,H'⟩:=H.2 j (Xd hj D);obtain⟨FG,oj',PJ,qL⟩:=JJ.1 hj;rw[yQ]at PJ;injection PJ with PJ;subst PJ;have AT:W.testBit j=false:=by
    cases AT:W.testBit j with
    |false=>rfl
    | true=>
     obtain⟨e,he,hb,lE⟩:=hW j C yQ AT;have h1:=qL e he hb;rcases lE with lE|lE
     ·rw[lE,(JJ.1 U).1]at h1;cases h1
     ·rw[wP _ lE]at h1;cases h1
   obtain⟨O,hs,AU,hI'⟩:=r2 L σ j C τ hI yQ D FG AT jn
   refine⟨C,O,yQ,hs,ih (L |||2 ^ j) O (λk hk=>?_) (Xd U (Ne.symm D)) hI' ?_⟩
   ·grind
   ·rw[<- AU]
    grind
theorem arf[Inhabited Wd](eE:gF P Φ){ok:Nat -> Nat -> Bool}{sU nX nY:Nat -> Bool}{K:S -> Prop}{ops:Array Oper}{i W:Nat}{I:Oper}{v:A}(hi:ops[i]?=some I)(hN:∀ σ:S,iU N σ I.dst v some=some (gQ σ I.dst v))
  (hW:∀j C,ops[j]?=some C -> W.testBit j=true -> ∃e∈C.after,Region.binds .any e=true/\(e.on=i \/ W.testBit e.on=true)) (f L:Nat) (σ:S)
  (gk:∀t r,ok t r=true -> ∀j C,ops[j]?=some C -> j≠i -> L.testBit j=false -> W.testBit j=false -> C.dst≠some t/\fH C r=false/\isApp C=false)
  (PL:∀x,nY x=true -> ∀j C,ops[j]?=some C -> j≠i -> L.testBit j=false -> W.testBit j=false -> C.dst≠some x) (hX:∀x,nY x=true -> kP p (σ.t x))
  (PN:∀t,sU t=true -> ∀j C,ops[j]?=some C -> j≠i -> L.testBit j=false -> W.testBit j=false -> C.dst≠some t \/ (wM C=true/\p t=true) \/ ∃s x f,C.op = .fieldAddr s (.tmp x) f/\nY x=true)
  (PO:∀t,nX t=true -> ∀j C,ops[j]?=some C -> j≠i -> L.testBit j=false -> W.testBit j=false -> C.dst≠some t \/ (pP C=true/\p t=true/\pb t=true) \/ (isApp C=true \/ AQ Φ C=true))
  (C0:∀j C,ops[j]?=some C -> j≠i -> L.testBit j=false -> W.testBit j=false -> I.apart ops C=true/\Calm Φ ok sU nX p pb σ C /\ ∀n,fH C n=true -> p n=true/\pb n=true)
  (wP:∀j,W.testBit j=true -> L.testBit j=false) (hr:ng ops L i=true) (hF:nZ P ops I p pb v σ) (H:Any P N Φ ops K f (L |||2 ^ i) (gQ σ I.dst v)):Any P N Φ ops K (f+1) L σ:=by
 refine Xe hi hW (λσ=>gQ σ I.dst v)
  (λL σ=>nZ P ops I p pb v σ/\(∀ t r,ok t r=true -> ∀ j C,ops[j]?=some C -> j≠i -> L.testBit j=false -> W.testBit j=false -> C.dst≠some t/\fH C r=false/\isApp C=false) /\
   ((∀x,nY x=true -> ∀j C,ops[j]?=some C -> j≠i -> L.testBit j=false -> W.testBit j=false -> C.dst≠some x) /\ ∀x,nY x=true -> kP p (σ.t x)) /\
   (∀t,sU t=true -> ∀j C,ops[j]?=some C -> j≠i -> L.testBit j=false -> W.testBit j=false -> C.dst≠some t \/ (wM C=true/\p t=true) \/ ∃s x f,C.op = .fieldAddr s (.tmp x) f/\nY x=true) /\
   (∀t,nX t=true -> ∀j C,ops[j]?=some C -> j≠i -> L.testBit j=false -> W.testBit j=false -> C.dst≠some t \/ (pP C=true/\p t=true/\pb t=true) \/ (isApp C=true \/ AQ Φ C=true)) /\
   ∀j C,ops[j]?=some C -> j≠i -> L.testBit j=false -> W.testBit j=false -> I.apart ops C=true/\Calm Φ ok sU nX p pb σ C /\ ∀n,fH C n=true -> p n=true/\pb n=true)
  (λL σ h=>h.1.step hN) (λL σ j C τ h yQ JK FG AT jn=>?_) f L σ wP hr ⟨hF,gk,⟨PL,hX⟩,PN,PO,C0⟩ H
 obtain⟨hF,gk,⟨PL,hX⟩,PN,PO,C0⟩:=h;obtain⟨c1,c2,c3⟩:=C0 j C yQ JK FG AT;obtain⟨cW,hs,AU,hF',Wy,lC,hta⟩:=ara (nY:=nY) eE hX hF c1 c2 c3 jn;have hL:∀ k,(L ||| 2 ^ j).testBit k=false -> L.testBit k=false:=by
  intro k D;rw[AS,o5]at D;exact D.1
 refine⟨cW,hs,AU,hF',λt r E k O D U Y vf=>gk t r E k O D U (hL k Y) vf,⟨λx hx k O D U Y vf=>PL x hx k O D U (hL k Y) vf,λx hx=>lC x (hX x hx) (.inl (PL x hx j C yQ JK FG AT))⟩,λt E k O D U Y vf=>PN t E k O D U (hL k Y) vf,λt E k O D U Y vf=>PO t E k O D U (hL k Y) vf,λk O D U Y vf=>?_⟩
 obtain⟨d1,d2,d3⟩:=C0 k O D U (hL k Y) vf
 refine⟨d1,d2.nQ (λt r j' E h=>?_) (λt h E=>lC t E (PN t h j C yQ JK FG AT)) (λt h E=>hta t E (PO t h j C yQ JK FG AT)),d3⟩
 grind
def A.Xf(y:A)(a b:Nat):(y.drop a).drop b=(y.drop b).drop a:=A.qp y _ _
def aX.Xf(y:aX)(a b:Nat):(y.drop a).drop b=(y.drop b).drop a:=aX.qp y _ _
def n5.drop(h:n5 e u){n:Nat}(C:e≠n):u.drop n=u:=by
 rcases h with rfl|rfl
 ·simp only[A.drop,qq C,av,A.cG,ye]
 ·have:dZ n [e]=false:=by simp[dZ,C]
  simp only[A.drop,Lf.drop,this,av,A.cG,ye,Lf.cG]
def n5.dR(h:n5 e u){ns cn:aa Nat}(D:dB e ns=false)(C:dB e cn=false):u.dR ns cn=u:=by
 rcases h with rfl|rfl
 ·simp only[A.dR,C,av,A.cG,wD]
 ·have E:iq [e] ns=false:=D;have I:iq [e] cn=false:=C;simp only[A.dR,Lf.dR,E,I,A.cG,wD,Lf.cG];rfl
def sW(k:Nat):(cM e x u σ).t k=if k=e then u else (σ.t k).drop e:=by
 by_cases C:k=e
 ·subst C;rw[bg rfl];exact cm _ _ _
 ·rw[bk C];exact cN _ _ _ C
def qM(n:Nat):(cM e x u σ).m n=if n=e then some x else (σ.m n).map (aX.drop e):=by
 show cc (λr=>bif Nat.beq r e then none else (σ.m r).map (aX.drop e)) e (some x) n=_;by_cases C:n=e
 ·subst C;rw[bg rfl,cm]
 ·rw[bk C,cN _ _ _ C,qq C];rfl
def Xg(c:Nat)(y:aX)(k:Nat):((σ.drop c).root c y).t k=(σ.t k).drop c:=rfl
def adG(c:Nat)(y:aX)(n:Nat):((σ.drop c).root c y).m n=if n=c then some y else (σ.m n).map (aX.drop c):=by
 show cc (λr=>bif Nat.beq r c then none else (σ.m r).map (aX.drop c)) c (some y) n=_;by_cases C:n=c
 ·subst C;rw[bg rfl,cm]
 ·rw[bk C,cN _ _ _ C,qq C];rfl
def adH{c:Nat}(z:V)(I:lH x)(O:n5 e u)(U:e≠c):((cM e x u σ).drop c).root c (.sl z)=cM e x u ((σ.drop c).root c (.sl z)):=by
 refine S.ext' (λk=>?_) λn=>?_
 ·rw[Xg,sW,sW,Xg];by_cases C:k=e
  ·rw[bg C,bg C];exact O.drop U
  ·rw[bk C,bk C];exact A.qp _ _ _
 ·rw[adG,qM,qM,adG];by_cases D:n=c
  ·rw[bg D,bk,bg D];rfl
  ·rw[bk D];by_cases E:n=e
   ·rw[bg E,bg E];simp only[Option.map_some,I.drop]
   ·rw[bk E,bk E,bk D,Option.map_map,Option.map_map];congr 1;funext y;exact aX.qp y _ _
def PR(C:lH x)(D:n5 e u):∀ (xs:aa V) (c:Nat) (σ:S),e<c -> nU c (cM e x u σ) xs=cM e x u (nU c σ xs)
 |[],c,σ,_=>rfl
 | y :: xs,c,σ,h=>by
  simp[nU];cases E:y.aI with
  |true=>exact PR C D xs _ σ (by omega)
  | false=>
   rw[adH y C D (by omega)];exact PR C D xs _ _ (by omega)
def adJ(C:lH x)(D:n5 e u):∀ (ps:aa Pt) (c:Nat) (σ:S),e<c -> pL c (cM e x u σ) ps=cM e x u (pL c σ ps)
 |[],c,σ,_=>rfl
 | q :: ps,c,σ,h=>by
  simp[pL];rw[PR C D _ _ _ h];exact adJ C D ps _ _ (by omega)
def PS{v:A}(D:d≠e)(E:v.drop e=v):(cM e x u σ).set d v=cM e x u (σ.set d v):=by
 refine S.ext' (λk=>?_) λn=>?_
 ·show cc (cM e x u σ).t d v k=_;rw[sW];show _=if k=e then u else (cc σ.t d v k).drop e;by_cases C:k=d
  ·subst C;rw[cm,bk D,cm,E]
  ·rw[cN _ _ _ C,cN _ _ _ C,sW]
 ·rfl
def arh{v:A}{C:ah Tmp}(D:C≠some e)(E:v.drop e=v):gQ (cM e x u σ) C v=cM e x u (gQ σ C v):=by
 cases C with
 |none=>rfl
 |some d=>exact PS (by rintro rfl;exact D rfl) E
def ari{ns cn:aa Nat}{nr:aa (Nat×aX)}(U:lH x)(Y:n5 e u)(E:dB e ns=false)(I:dB e cn=false)(O:∀ q∈nr,q.1≠e/\q.2.drop e=q.2):(cM e x u σ).dR ns cn nr=cM e x u (σ.dR ns cn nr):=by
 have hl:nr.lookup e=none:=by
  cases hl:nr.lookup e with
  |none=>rfl
  |some y=>exact absurd rfl (O _ (PC hl)).1
 refine S.ext' (λk=>?_) λn=>?_
 ·show ((cM e x u σ).t k).dR ns cn=_;rw[sW,sW];by_cases C:k=e
  ·rw[bg C,bg C];exact Y.dR E I
  ·rw[bk C,bk C];exact A.qp _ _ _
 ·rw[qM];show (match nr.lookup n with | some x=>some x | none=>bif dB n ns || dB n cn then none else ((cM e x u σ).m n).map (aX.dR ns cn))=if n=e then some x else (match nr.lookup n with | some x=>some x | none=>bif dB n ns || dB n cn then none else (σ.m n).map (aX.dR ns cn)).map (aX.drop e);by_cases D:n=e
  ·subst D;rw[bg rfl,hl,E,I];simp only[Bool.or_false,av,qM,if_true,Option.map_some,U.dR]
  ·rw[bk D];cases hq:nr.lookup n with
   |some y=>simp only[Option.map_some];rw[(O _ (PC hq)).2]
   | none=>
    simp only;cases (dB n ns ||dB n cn)with
    |true=>rfl
    | false=>
     simp only[av];rw[qM,bk D,Option.map_map,Option.map_map];congr 1;funext y;exact aX.qp y _ _
/-! What a call reads. -/
def adK{q:aa Nat}{k:V->ah X}(h:dZ e q=false):jX (cM e x u σ).m q k=jX σ.m q k:=aqT q k h
def yR{y:Operand}(h:(aL σ y).nr p=true)(C:p e=true)(D:y ≠ .tmp e):aL (cM e x u σ) y=aL σ y:=by
 cases y with
 | tmp t=>
  show (cM e x u σ).t t=σ.t t;rw[sW,bk (by rintro rfl;exact D rfl)];exact A.AK h C
 |_=>rfl
def Xh{l:Lf}{k:V->ah X}(h:l.nr p=true)(C:p e=true):qy (cM e x u σ) l k=qy σ l k:=by
 cases l with
 |own q=>exact adK (ac1 h C)
 |_=>rfl
def adL{q:aa Nat}{s i j:Nat}{k:V->ah X}(h:pM p q=true)(C:p e=true):wh (cM e x u σ) q s i j k=wh σ q s i j k:=by
 unfold wh;exact adK (ac1 h C)
def arj{y:A}{k:V->ah X}(h:y.nr p=true)(C:p e=true):tE (cM e x u σ) y k=tE σ y k:=by
 cases y with
 |lf l=>exact Xh h C
 |view q s i j=>exact adL h C
 |_=>rfl
def Xi(C:p e=true):∀ (xs:aa Lf) (k:aa V -> ah X),xs.all (Lf.nr p)=true -> sI (cM e x u σ) xs k=sI σ xs k
 |[],k,_=>rfl
 | y :: xs,k,h=>by
  rw[List.all_cons,aP]at h;simp[sI,Xh h.1 C];congr 1;funext z;exact Xi C xs _ h.2
def ark{y:A}{k:Pt->ah X}(h:y.nr p=true)(C:p e=true):pJ (cM e x u σ) y k=pJ σ y k:=by
 cases y with
 |lf l=>simp only[pJ];exact Xi C _ _ (by rw[List.all_cons,show l.nr p=true from h];rfl)
 |agg cs=>simp only[pJ];exact Xi C _ _ h
 |view q s i j=>simp only[pJ];exact adL h C
 |jW cs=>cases cs<;>rfl
 |_=>rfl
def adM(C:p e=true):∀ (xs:aa Operand) (k:aa Pt->ah X),(∀ y∈xs,(aL σ y).nr p=true/\y ≠ .tmp e)->uT (cM e x u σ) xs k=uT σ xs k
 |[],k,_=>rfl
 | y :: xs,k,h=>by
  obtain⟨D,E⟩:=h y (.head _);unfold uT wA;rw[yR D C E,ark D C];congr 1;funext z;exact adM C xs _ (λy I=>h y (.tail _ I))
def Xj{ns:aa Nat}(C:p e=true):∀ (xs:aa Lf) (k:aa V -> ah X),xs.all (Lf.nr p)=true -> tO (cM e x u σ) ns xs k=tO σ ns xs k
 |[],k,_=>rfl
 | y :: xs,k,h=>by
  rw[List.all_cons,aP]at h;simp[tO,Xh h.1 C];congr 2;funext z;exact Xj C xs _ h.2
def adN{d:Nat}:∀ (xs:aa Lf),sD (xs.map (Lf.drop d))=sD xs
 |[]=>rfl
 | x :: xs=>by
  have C:(x.drop d).pl=x.pl:=by
   cases x with
   | own k=>
    show (bif dZ d k then _ else Lf.own k).pl=_;cases dZ d k<;>rfl
   |_=>rfl
  simp[List.map_cons,sD,C,adN]
def arl{ns:aa Nat}{y:A}{k:Pt->ah X}(h:y.nr p=true)(C:p e=true):sO (cM e x u σ) ns y k=sO σ ns y k:=by
 cases y with
 |lf l=>simp only[sO];exact Xj C _ _ (by rw[List.all_cons,show l.nr p=true from h];rfl)
 |agg cs=>simp only[sO];exact Xj C _ _ h
 |oC f cs=>cases cs<;>rfl
 | fn f cap=>
  match cap,h with
  |[],_=>rfl
  |_::_::_,_=>rfl
  | [(D,j)],h=>
   have E:p D=false:=by simpa [A.nr,A.fr,va]using h
   have I:D≠e:=by rintro rfl;rw[C]at E;cases E
   simp only[sO,qM,bk I];cases σ.m D with
   |none=>rfl
   | some z=>
    cases z with
    |aB cs=>simp only[Option.map_some,aX.JB,<-List.map_drop,adN]
    |_=>rfl
 |_=>rfl
def arn{l:Lf}(h:l.nr p=true)(C:p e=true):wE (cM e x u σ).m l=wE σ.m l:=by
 cases l with
 | own k=>
  match k with
  |[]=>rfl
  | [q]=>
   have D:q≠e:=by
    have h:(!p q)=true:=by simpa [Lf.nr,Lf.fr,pM,jN]using h
    rintro rfl;rw[C]at h;cases h
   simp only[wE];rw[qM,bk D];cases σ.m q with
   |none=>rfl
   |some y=>cases y<;>rfl
  |_::_::_=>rfl
 |v x=>rfl
 |dead=>rfl
def adO(D:p e=true):∀ (C:aa Lf),C.all (Lf.nr p)=true -> sN (cM e x u σ).m C=sN σ.m C
 |[],_=>rfl
 | l :: C,h=>by
  rw[List.all_cons,aP]at h;simp[sN,arn h.1 D,adO D C h.2]
def adP{m:Nat->ah aX}:∀ {cs:aa Lf} {E:aa (V×ah Nat)},sN m cs=some E->cs.all (Lf.nr p)=true->∀ v∈E,∀ q,v.2=some q->p q=false
 |[],E,h,_=>by injection h with h;subst h;simp
 | c :: cs,E,h,I=>by
  rw[List.all_cons,aP]at I;unfold sN at h;split at h
  ·rename_i v OE C U;injection h with h;subst h;intro u hu q D;rcases gZ.1 hu with rfl | hu
   ·unfold wE at C;split at C
    ·injection C with C;rw[<-C]at D;cases D
    ·rename_i q';split at C
     ·rename_i y _;cases O:y.aI with
      |true=>rw[O]at C;injection C with C;rw[<-C]at D;cases D
      | false=>
       rw[O,av]at C;injection C with C;rw[<-C]at D;injection D with D;subst D;have Y:=I.1
       simpa [Lf.nr,Lf.fr,pM,jN]using Y
     ·cases C
    ·cases C
   ·exact adP U I.2 u hu q D
  ·cases h
def PT(p:Nat->Bool):Mu->Prop
 |.aB r cs C=>p r=false/\cs.all (Lf.nr p)=true/\∀v∈C,∀q,v.2=some q->p q=false
 |.sl q _=>p q=false
def Xk(I:p e=true):∀ (ps:aa PK) (xs:aa Operand) (O:aa Mu),(∀ y∈xs,(aL σ y).nr p=true/\y ≠ .tmp e)->(∀ n∈jC σ ps xs,yN σ p n=true)->kz σ ps xs=some O->kz (cM e x u σ) ps xs=some O/\∀ C∈O,PT p C
 |[],[],O,_,_,h=>⟨h,by injection h with h;subst h;simp⟩
 |[],_::_,O,_,_,h=>by cases h
 |_::_,[],O,_,_,h=>by cases h
 | q :: ps,y :: xs,O,hy,hl,h=>by
  obtain⟨E,h2⟩:=hy y (.head _);have tJ:∀ n∈jC σ ps xs,yN σ p n=true:=by
   intro n hn;refine hl n ?_;cases q with
   |v=>exact hn
   |s=>exact hn
   | p t g off=>
    simp only[jC];split
    ·exact .tail _ hn
    ·exact hn
  unfold kz at h;have D:∀ z,wF σ q (aL σ y)=some z->wF (cM e x u σ) q (aL (cM e x u σ) y)=some z/\∀ C,z=some C->PT p C:=by
   intro z hz;rw[yR E I h2];have U:=wI hz;cases q with
   | v=>
    cases z with
    |some C=>exact U.elim
    |none=>exact⟨hz,by simp⟩
   | p t g off=>
    cases z with
    |none=>exact U.elim
    | some C=>
     cases C with
     |sl=>exact U.elim
     | aB r' cs vs=>
      obtain⟨Y,hm,hg,hlen⟩:=U;have gz:p r'=false:=by
       rw[Y]at E;have E:(!p r')=true:=E
       simpa using E
      have cx:r'≠e:=by rintro rfl;rw[I]at gz;cases gz
      have gA:cs.all (Lf.nr p)=true:=by
       have:=hl r' (by simp only[jC,Y];exact .head _);unfold yN at this;rw[hm]at this;exact this
      have ru:(cM e x u σ).m r'=some (.aB cs):=by
       rw[qM,bk cx,hm];simp only[Option.map_some,aX.JB,sB.AK gA I]
      refine⟨?_,λC D=>?_⟩
      ·rw[Y];simp only[wF,Nat.beq_refl,aq,ru,adO I cs gA,hg];have:Nat.blt cs.length 999=true:=mT hlen;rw[this];rfl
      ·injection D with D;subst D;exact⟨gz,gA,adP hg gA⟩
   | s t g=>
    cases z with
    |none=>exact U.elim
    | some C=>
     cases C with
     |aB=>exact U.elim
     | sl q y0=>
      obtain⟨Y,hm,hf⟩:=U;have hq:p q=false:=by
       rw[Y]at E;have E:(!p q)=true:=by simpa [A.nr,A.fr,va,Lf.nr,Lf.fr,pM,jN]using E
       simpa using E
      have cx:q≠e:=by rintro rfl;rw[I]at hq;cases hq
      refine⟨?_,λC D=>?_⟩
      ·rw[Y];simp only[wF];rw[qM,bk cx,hm];simp only[Option.map_some,aX.drop,hf,av,aX.cG]
      ·injection D with D;subst D;exact hq
  split at h
  ·rename_i C nc k1 k2;injection h with h;subst h;obtain⟨g1,g2⟩:=D _ k1;obtain⟨f1,f2⟩:=Xk I ps xs nc (λy h=>hy y (.tail _ h)) tJ k2
   refine⟨by simp only[kz,g1,f1],λm hm=>?_⟩
   rcases gZ.1 hm with rfl|hm
   ·exact g2 _ rfl
   ·exact f2 m hm
  next nc k1 k2=>injection h with h;subst h;obtain⟨g1,g2⟩:=D _ k1;obtain⟨f1,f2⟩:=Xk I ps xs nc (λy h=>hy y (.tail _ h)) tJ k2;exact⟨by simp only[kz,g1,f1],f2⟩
  ·cases h
def PU(D:p e=true)(ns:aa Nat):∀ (ps:aa PK) (xs:aa Operand) (C:aa Mu) (k:mH ps->ah X),(∀ y∈xs,(aL σ y).nr p=true/\y ≠ .tmp e)->kA (cM e x u σ) ns ps xs C k=kA σ ns ps xs C k
 |[],[],[],k,_=>rfl
 | .v b t :: ps,y :: xs,C,k,h=>by
  obtain⟨I,O⟩:=h y (.head _);simp only[kA];rw[yR I D O,arl I D];congr 1;funext z;congr 1;split
  ·exact PU D ns ps xs C _ (λy E=>h y (.tail _ E))
  ·rfl
 | .p t g off :: ps,y :: xs,.aB U cs Y :: C,k,h=>by
  simp only[kA];split
  ·exact PU D ns ps xs C _ (λy E=>h y (.tail _ E))
  ·rfl
 | .s t g :: ps,y :: xs,.sl q y0 :: C,k,h=>by
  simp only[kA];split
  ·exact PU D ns ps xs C _ (λy E=>h y (.tail _ E))
  ·rfl
 |[],[],_::_,k,_=>rfl
 |[],_::_,_,k,_=>rfl
 |.v _ _::_,[],_,k,_=>rfl
 |.p _ _ _::_,[],_,k,_=>rfl
 |.s _ _::_,[],_,k,_=>rfl
 |.p _ _ _::_,_::_,[],k,_=>rfl
 |.s _ _::_,_::_,[],k,_=>rfl
 |.p _ _ _::_,_::_,.sl _ _::_,k,_=>rfl
 |.s _ _::_,_::_,.aB _ _ _::_,k,_=>rfl
def Xl{i:Nat}:∀ (C:aa (V×ah Nat)) (j:Nat),(∀ v∈C,∀ q,v.2=some q -> p q=false) -> ∀ u∈Fm i j C,p u.1=false
 |[],_,_,u,hu=>by cases hu
 |(y,none)::C,j,h,u,hu=>Xl C (j+1) (λv D=>h v (.tail _ D)) u hu
 | (y,some q) :: C,j,h,u,hu=>by
  rcases gZ.1 hu with rfl|hu
  ·simp_all
  ·exact Xl C (j+1) (λv D=>h v (.tail _ D)) u hu
def Xm:∀ (C:aa Mu) (i:Nat),(∀ E∈C,PT p E) -> ∀ u∈m9 i C,p u.1=false
 |[],_,_,u,hu=>by cases hu
 | .aB Y cs I :: C,i,h,u,hu=>by
  obtain⟨O,h2,U⟩:=h _ (.head _);rcases gZ.1 hu with rfl|hu
  ·exact O
  ·rcases List.mem_append.1 hu with hu | hu
   ·exact Xl I 0 U u hu
   ·exact Xm C _ (λm D=>h m (.tail _ D)) u hu
 | .sl q y :: C,i,h,u,hu=>by
  rcases gZ.1 hu with rfl|hu
  ·exact h _ (.head _)
  ·exact Xm C (i+1) (λm D=>h m (.tail _ D)) u hu
def Xn{c0:Nat}(E:∀ n,c0 <= n -> p n=false):∀ (C:aa (V×ah Nat)) (n:Nat),(∀ v∈C,∀ q,v.2=some q -> p q=false) -> ∀ u∈nV c0 n C,p u=false
 |[],_,_,u,hu=>by cases hu
 | (y,none) :: C,n,h,u,hu=>by
  rcases gZ.1 hu with rfl|hu
  ·simp_all
  ·exact Xn E C (n+1) (λv D=>h v (.tail _ D)) u hu
 | (y,some q) :: C,n,h,u,hu=>by
  rcases gZ.1 hu with rfl|hu
  ·simp_all
  ·exact Xn E C (n+1) (λv D=>h v (.tail _ D)) u hu
def Xo:∀ (C:aa Nat) (xs:aa V),∀ u∈wJ C xs,u∈C
 |[],[],u,hu=>by cases hu
 | n :: C,y :: xs,u,hu=>by
  simp[wJ]at hu;cases D:y.aI with
  |true=>rw[D]at hu;exact .tail _ (Xo C xs u hu)
  | false=>
   rw[D]at hu;rcases gZ.1 hu with rfl|hu
   ·simp_all
   ·exact .tail _ (Xo C xs u hu)
def adQ{ns cn:aa Nat}:∀ (C:aa Nat) (D:aa Lf) (xs:aa V),(∀ n∈C,p n=false)->D.all (Lf.nr p)=true->(qH ns cn C D xs).all (Lf.nr p)=true
 |[],_,_,_,_=>by simp[qH]
 |_::_,[],_,_,_=>by simp[qH]
 |_::_,_::_,[],_,_=>by simp[qH]
 | n :: C,l :: D,y :: xs,I,E=>by
  rw[List.all_cons,aP]at E;simp only[qH,List.all_cons,aP]
  refine⟨?_,adQ C D xs (λn O=>I n (.tail _ O)) E.2⟩
  cases y.plain with
  |true=>rfl
  | false=>
   simp only[av];cases y.aI with
   | true=>
    simp only[aq];cases l with
    | own k=>
     have U:Lf.dR ns cn (.own k)=(bif iq k cn ||(iq k ns && !(Nat.beq k.length 1))then .dead else .own k):=rfl;rw[U];cases (iq k cn ||(iq k ns && !(Nat.beq k.length 1)))with
     |true=>rfl
     |false=>exact E.1
    |v x=>rfl
    |dead=>rfl
   | false=>
    show (!p n)=true;rw[I n (.head _)];rfl
def Xp:∀ (C:aa Nat) (xs:aa V),∀ u∈uZ C xs,u.1∈C /\ ∃ y,u.2 = .sl y
 |[],[],u,hu=>by cases hu
 |[],_::_,u,hu=>by cases hu
 | n :: C,y :: xs,u,hu=>by
  simp[uZ]at hu;cases I:y.aI with
  |true=>rw[I]at hu;obtain⟨D,E⟩:=Xp C xs u hu;exact⟨.tail _ D,E⟩
  | false=>
   rw[I]at hu;rcases gZ.1 hu with rfl|hu
   ·simp_all
   ·obtain⟨D,E⟩:=Xp C xs u hu;exact⟨.tail _ D,E⟩
def Xq{c0:Nat}{ns cn:aa Nat}(E:p e=true)(U:∀ n,c0<=n->p n=false):∀ (D:aa Mu) (outs:aa In) (C:Nat),(∀ mu∈D,PT p mu)->(∀ u∈oJ c0 C D outs,p u=false)/\∀ u∈mI ns cn c0 C D outs,u.1≠e/\u.2.drop e=u.2
 |[],outs,C,_=>⟨(λu hu=>by simp[oJ]at hu),(λu hu=>by simp[mI]at hu)⟩
 |.aB _ _ _::_,[],C,_=>⟨(λu hu=>by cases hu),(λu hu=>by cases hu)⟩
 |.sl _ _::_,[],C,_=>⟨(λu hu=>by cases hu),(λu hu=>by cases hu)⟩
 |.aB _ _ _::_,.sl _::_,C,_=>⟨(λu hu=>by cases hu),(λu hu=>by cases hu)⟩
 |.sl _ _::_,.aB _::_,C,_=>⟨(λu hu=>by cases hu),(λu hu=>by cases hu)⟩
 | .aB r' cs vs :: D,.aB xs :: outs,C,h=>by
  obtain⟨I,h2,h3⟩:=h _ (.head _);obtain⟨Y,O⟩:=Xq (ns:=ns) (cn:=cn) E U D outs (C+1+vs.length) (λm hm=>h m (.tail _ hm));have cx:∀n,p n=false->n≠e:=by rintro n hn rfl;rw[E]at hn;cases hn
  have kO:=Xn U vs (C+1) h3
  refine⟨λu hu=>?_,λu hu=>?_⟩
  ·simp only[oJ]at hu;rcases List.mem_append.1 hu with hu | hu
   ·exact kO u (Xo _ _ u hu)
   ·exact Y u hu
  ·simp only[mI]at hu;rcases gZ.1 hu with rfl | hu
   ·refine⟨cx _ I,?_⟩;rw[aX.JB,sB.AK (adQ _ _ _ kO h2) E]
   ·rcases List.mem_append.1 hu with hu | hu
    ·obtain⟨g1,y,g2⟩:=Xp _ _ u hu;exact⟨cx _ (kO _ g1),by rw[g2];rfl⟩
    ·exact O u hu
 | .sl q y :: D,.sl y' :: outs,C,h=>by
  have I:p q=false:=h _ (.head _);obtain⟨Y,O⟩:=Xq (ns:=ns) (cn:=cn) E U D outs (C+1) (λm hm=>h m (.tail _ hm))
  refine⟨λu hu=>Y u (by simpa [oJ]using hu),λu hu=>?_⟩
  simp only[mI]at hu;cases hy:y'.lu with
  |false=>rw[hy]at hu;exact O u hu
  |true=>
  rw[hy]at hu;rcases gZ.1 hu with rfl|hu
  ·exact⟨(by rintro rfl;rw[E]at I;cases I),rfl⟩
  ·exact O u hu
def Xr:∀ (xs:aa V) (c:Nat),e<c->(pK c xs).map (Lf.drop e)=pK c xs
 |[],_,_=>rfl
 | y :: xs,c,h=>by
  simp only[pK,List.map_cons];rw[Xr xs (c+1) (by omega)];cases y.aI with
  |true=>rfl
  | false=>
   have:dZ e [c]=false:=by simp[dZ];omega
   simp only[av,Lf.drop,this,Lf.cG]
def aro{b:Bool}{xs:aa Lf}{y:A}(h:Ah (b,xs)=some y)(C:xs.map (Lf.drop e)=xs):y.drop e=y:=by
 unfold Ah at h;split at h
 next D=>injection h with h;subst h;obtain⟨_,rfl⟩:=D;exact bC A.agg C
 next z D=>injection h with h;subst h;obtain⟨_,rfl⟩:=D;simp at C;exact bC A.lf C
 ·cases h
def adR:∀ (ps:aa Pt) (c:Nat),e<c->(tK c ps).map (λq=>(q.1,q.2.map (Lf.drop e)))=tK c ps
 |[],_,_=>rfl
 | q :: ps,c,h=>by
  simp only[tK,List.map_cons];rw[Xr _ _ h,adR ps _ (by omega)]
def arp(ps:aa Pt)(c:Nat)(h:e<c):A.drop e (.fO (tK c ps)) = .fO (tK c ps):=bC A.fO (adR ps c h)
def adS(C:lH x)(D:n5 e u)(Y:e<20000)(E:d≠e){I:gM}{O:S}(h:oH σ d I some=some O):oH (cM e x u σ) d I some=some (cM e x u O):=by
 unfold oH at h ⊢;split at h
 ·split at h
  next y U=>injection h with h;subst h;rw[PR C D _ _ _ (by omega),PS E (aro U (Xr _ _ (by omega)))]
  ·cases h
 ·injection h with h;subst h;rw[adJ C D _ _ _ (by omega),PS E (arp _ _ (by omega))]
def arq(O:lH x)(U:n5 e u)(Y:e<20000){C:ah Tmp}(hd:C≠some e){E:gM}{D:S}(h:rE N σ C E some=some D):rE N (cM e x u σ) C E some=some (cM e x u D):=by
 cases C with
 | none=>
  have h:some σ=some D:=h;injection h with h;rw[<-h];rfl
 | some d=>
  unfold rE at h ⊢;cases I:Nat.blt d N with
  |false=>simp only[I,av]at h;cases h
  | true=>
   simp only[I,aq]at h ⊢;exact adS O U Y (by rintro rfl;exact hd rfl) h
def ars(eE:gF P Φ)(hx:lH x)(hu:n5 e u)(he:e<20000)(U:p e=true)(JL:∀ n,20000<=n->p n=false)(C:oK Φ o=true)(hd:o.dst≠some e)(qK:∀ y∈o.op.operands,(aL σ y).nr p=true/\y ≠ .tmp e)(hl:∀ n∈qJ Φ σ o,yN σ p n=true){τ:S}
  (h:eA P N Φ σ o some=some τ):eA P N Φ (cM e x u σ) o some=some (cM e x u τ):=by
 have wQ:∃ f args iW,o.op = .call { callee:=.value (.func f),args:=args,argTypes:=iW }:=by
  unfold oK at C;split at C
  ·exact⟨_,_,_,by assumption⟩
  ·cases C
 obtain⟨f,args,iW,D⟩:=wQ;have sJ:∀ y∈args.toList,(aL σ y).nr p=true/\y ≠ .tmp e:=by
  intro y hy;refine qK y ?_;rw[D];simp only[Op.operands,Call.operands];simp only[Array.mem_append]
  first
   |exact .inr (by simpa using hy)
   |exact .inl (by simpa using hy)
 have cH:∀ σ2,eA P N Φ σ2 o some=jo P N Φ σ2 o some:=by
  intro σ2;unfold eA;rw[show gB o.op=false by rw[D];rfl,av]
 rw[cH]at h ⊢;cases I:Φ f with
 |none=>simp only[jo,D,I]at h;cases h
 | some c=>
  cases c with
  |n F=>rw[oK,D]at C;simp[I]at C
  |v c=>rw[oK,D]at C;simp[I]at C
  |i c=>rw[oK,D]at C;simp[I]at C
  |d c=>rw[oK,D]at C;simp[I]at C
  |q c=>rw[oK,D]at C;simp[I]at C
  |c c=>rw[oK,D]at C;simp[I]at C
  | p c=>
   simp only[jo,D,I]at h ⊢;obtain⟨d,ni,h⟩:=lG h;have PW:d≠e:=by rintro rfl;exact hd ni
   obtain⟨res,tH,h1,E,h3⟩:=Pa (JD eE I) Jf h;injection E with E;subst E;simp only[iG,ni];exact(h3 (cM e x u σ) (cM e x u tH) (λX k=>uT (cM e x u σ) args.toList k) (λX k=>adM U _ k sJ) (adS hx hu he PW h1)).at_ _
  | m c=>
   simp only[jo,D,I]at h ⊢;have Fu:∀ n∈jC σ c.ps args.toList,yN σ p n=true:=by
    intro n Y;refine hl n ?_;simp only[qJ,D,I];exact Y
   unfold qI at h;split at h
   ·rename_i O yH;obtain⟨g1,g2⟩:=Xk (x:=x) (u:=u) U c.ps args.toList O sJ Fu yH;cases lE:(once (m9 0 O)&&Nat.ble O.length 40)with
    |false=>rw[lE]at h;cases h
    | true=>
     rw[lE,aq]at h;obtain⟨z,E,adT⟩:=(Pf _ _ _).m6 h;simp only[qI,g1,lE,aq];rw[PU U _ _ _ _ _ sJ];refine(adT S _).trans ?_;split at E
     ·rename_i y hy;unfold Fq at E ⊢;generalize sH:oJ (jS o.dst) (fL c.ro y.1).len O (jR (fk c.ps) y.2)=cn at E;generalize gk:Fp N O (jR (fk c.ps) y.2) cn=ok at E;cases ok with
      |false=>cases E
      | true=>
       rw[aq]at E;have tN:∀ n,jS o.dst<=n->p n=false:=by
        intro n Y;refine JL n ?_;cases ni:o.dst with
        |none=>rw[ni]at Y;simp only[jS]at Y;omega
        |some d=>rw[ni]at Y;simp only[jS]at Y;omega
       obtain⟨k1,k2⟩:=Xq (ns:=(m9 0 O).map (·.1)) (cn:=cn) U tN O (jR (fk c.ps) y.2) (fL c.ro y.1).len g2;rw[sH]at k1;rw[aq,ari hx hu ?_ ?_ k2]
       ·exact arq hx hu he hd E
       ·cases hm:dB e ((m9 0 O).map (·.1))with
        |false=>rfl
        | true=>
         obtain⟨u,hu,e1⟩:=List.mem_map.1 (uY.1 hm);have:=Xm O 0 g2 u hu;rw[e1,U]at this;cases this
       ·cases hm:dB e cn with
        |false=>rfl
        |true=>have:=k1 e (uY.1 hm);rw[U]at this;cases this
     ·cases E
   ·cases h
def A.adU{y:A}(h:y.gB=true)(K:oD):y.cG K=y:=by
 refine A.qm ?_;cases y with
 |lf l=>cases l<;>first|rfl|cases h
 | agg cs=>
  refine ck.2 λl hl=>?_
  have:=ck.1 h l hl;cases l<;>first|rfl|cases this
 |_=>cases h
def A.PX{y:A}(h:y.gB=true)(n:Nat):y.drop n=y:=A.adU h _
def A.art{y:A}(h:y.gB=true)(ns cn:aa Nat):y.dR ns cn=y:=A.adU h _
def Xs:∀ (xs:aa V) (c:Nat) (σ:S) {t:Nat},(σ.t t).gB=true -> (nU c σ xs).t t=σ.t t
 |[],c,σ,t,h=>rfl
 | y :: xs,c,σ,t,h=>by
  simp[nU];cases y.aI with
  |true=>exact Xs xs _ σ h
  | false=>
   simp;have C:(((σ.drop c).root c (.sl y)).t t)=σ.t t:=by rw[Xg];exact A.PX h c
   rw[Xs xs _ _ (by rw[C];exact h),C]
def adV:∀ (ps:aa Pt) (c:Nat) (σ:S) {t:Nat},(σ.t t).gB=true -> (pL c σ ps).t t=σ.t t
 |[],c,σ,t,h=>rfl
 | q :: ps,c,σ,t,h=>by
  simp[pL];have C:=Xs q.2 c σ h;rw[adV ps _ _ (by rw[C];exact h),C]
def adW{D:gM}{C:S}(h:oH σ d D some=some C){t:Nat}(E:(σ.t t).gB=true)(I:t≠d):C.t t=σ.t t:=by
 obtain⟨ps,u,O⟩:=W0 h;rw[O]at h;injection h with h;rw[<-h];exact(cN _ _ _ I).trans (adV _ _ _ E)
def aru{C:ah Tmp}{I:gM}{D:S}(h:rE N σ C I some=some D){t:Nat}(O:(σ.t t).gB=true)(U:C≠some t):D.t t=σ.t t:=by
 cases C with
 | none=>
  have h:some σ=some D:=h;injection h with h;rw[<-h]
 | some d=>
  unfold rE at h;cases E:Nat.blt d N with
  |false=>simp only[E,av]at h;cases h
  | true=>
   simp only[E,aq]at h;exact adW h O (by rintro rfl;exact U rfl)
def arv(eE:gF P Φ)(C:oK Φ o=true){Y:S}(h:eA P N Φ σ o some=some Y){t:Nat}(U:(σ.t t).gB=true)(hd:o.dst≠some t):Y.t t=σ.t t:=by
 have wQ:∃ f args iW,o.op = .call { callee:=.value (.func f),args:=args,argTypes:=iW }:=by
  unfold oK at C;split at C
  ·exact⟨_,_,_,by assumption⟩
  ·cases C
 obtain⟨f,args,iW,E⟩:=wQ;have cH:eA P N Φ σ o some=jo P N Φ σ o some:=by
  unfold eA;rw[show gB o.op=false by rw[E];rfl,av]
 rw[cH]at h;cases I:Φ f with
 |none=>simp only[jo,E,I]at h;cases h
 | some c=>
  cases c with
  |n F=>rw[oK,E]at C;simp[I]at C
  |v c=>rw[oK,E]at C;simp[I]at C
  |i c=>rw[oK,E]at C;simp[I]at C
  |d c=>rw[oK,E]at C;simp[I]at C
  |q c=>rw[oK,E]at C;simp[I]at C
  |c c=>rw[oK,E]at C;simp[I]at C
  | p c=>
   simp only[jo,E,I]at h;obtain⟨d,ni,h⟩:=lG h;obtain⟨res,tH,h1,D,h3⟩:=Pa (JD eE I) Jf h;injection D with D;subst D;exact adW h1 U (by rintro rfl;exact hd ni)
  | m c=>
   simp only[jo,E,I]at h;unfold qI at h;split at h
   ·rename_i O yH;cases lE:(once (m9 0 O)&&Nat.ble O.length 40)with
    |false=>rw[lE]at h;cases h
    | true=>
     rw[lE,aq]at h;obtain⟨z,D,adT⟩:=(Pf _ _ _).m6 h;split at D
     ·rename_i y hy;unfold Fq at D;generalize Fp N O (jR (fk c.ps) y.2) (oJ (jS o.dst) (fL c.ro y.1).len O (jR (fk c.ps) y.2))=ok at D;cases ok with
      |false=>cases D
      | true=>
       rw[aq]at D;have e1:∀ns cn nr,(σ.dR ns cn nr).t t=σ.t t:=λns cn nr=>A.art U ns cn
       have:=aru (t:=t) D (by rw[e1];exact U) hd;rw[this,e1]
     ·cases D
   ·cases h
def arw{E:Nat}{I:aX}{O:A}(U:lH x)(Y:n5 e u)(l5:lH I)(tG:n5 E O)(h:e≠E):cM E I O (cM e x u σ)=cM e x u (cM E I O σ):=by
 refine S.ext' (λk=>?_) λn=>?_
 ·simp only[sW];by_cases C:k=E
  ·subst C;rw[bg rfl,bk (Ne.symm h),bg rfl,tG.drop (Ne.symm h)]
  ·rw[bk C];by_cases D:k=e
   ·subst D;rw[bg rfl,bg rfl,Y.drop h]
   ·rw[bk D,bk D,bk C,A.Xf]
 ·simp only[qM];by_cases C:n=E
  ·subst C;rw[bg rfl,bk (Ne.symm h),bg rfl,Option.map_some,l5.drop]
  ·rw[bk C];by_cases D:n=e
   ·subst D;rw[bg rfl,bg rfl,Option.map_some,U.drop]
   ·rw[bk D,bk D,bk C];cases σ.m n with
    |none=>rfl
    |some y=>simp only[Option.map_some,aX.Xf]
def arx(O:lH x)(U:n5 e u)(Y:p e=true)(hm:pP o=true)(hd:o.dst≠some e)(C:∀ y∈o.op.operands,(aL σ y).nr p=true/\y ≠ .tmp e){D:S}
  (h:eA P N Φ σ o some=some D):eA P N Φ (cM e x u σ) o some=some (cM e x u D):=by
 obtain⟨e',x',u',hd',I8,l5,tG,jn,qL⟩:=PF (o:={ o with guard:=none }) (ops:=#[]) hm rfl h;have cx:e≠e':=by rintro rfl;exact hd hd'
 have E:=qL (cM e x u σ) rfl λy I=>yR (C y I).1 Y (C y I).2
 rw[arw O U l5 tG cx,<- jn]at E;exact E
def ary(D:pP o=true){C:S}(h:eA P N Φ σ o some=some C){t:Nat}(E:(σ.t t).gB=true)(I:o.dst≠some t):C.t t=σ.t t:=by
 obtain⟨O,x',u',U,I8,l5,tG,Y,qL⟩:=PF (o:={ o with guard:=none }) (ops:=#[]) D rfl h;have cx:t≠O:=by rintro rfl;exact I U
 rw[Y,sW,bk cx,A.PX E]
def arz(hx:lH x)(hu:n5 e u)(C:p e=true)(hm:isApp o=true)(hd:o.dst≠some e)(O:∀ y∈o.op.operands,(aL σ y).nr p=true/\y ≠ .tmp e){U:S}
  (h:eA P N Φ σ o some=some U):eA P N Φ (cM e x u σ) o some=some (cM e x u U):=by
 obtain⟨a,b,t,t',I,hn,qB,hk⟩:=Xb hm;have E:=O a (by rw[I];simp[Op.operands,Call.operands]);have hb:=O b (by rw[I];simp[Op.operands,Call.operands]);rw[JI I hn qB hk]at h ⊢;obtain⟨d,Y,h⟩:=lG h;obtain⟨r,v,jn,hr,qL⟩:=PG h;have PW:d≠e:=by rintro rfl;exact hd Y
 have JM:r≠e:=by
  rcases hr with h1|h1
  ·rw[h1];exact PW
  ·rintro rfl;have D:=E.1;rw[h1]at D;simp[A.nr,A.fr,va,Lf.nr,Lf.fr,pM,jN,C]at D
 unfold iG;rw[Y];simp only;rw[yR E.1 C E.2,yR hb.1 C hb.2,qL (cM e x u σ) (λk=>arj hb.1 C) (λr' v' gz ru=>?_)]
 ·rw[adH v hx hu (Ne.symm JM),PS PW ?_,jn];have:dZ e [r]=false:=by simp[dZ,JM]
  simp only[A.drop,Lf.drop,this,av,A.cG,ye,Lf.cG]
 ·have cx:r'≠e:=by
   rintro rfl;have D:=E.1;rw[gz]at D;simp[A.nr,A.fr,va,Lf.nr,Lf.fr,pM,jN,C]at D
  rw[qM,bk cx,ru];rfl
def arB(D:isApp o=true){C:S}(h:eA P N Φ σ o some=some C){t:Nat}(E:(σ.t t).gB=true)(I:o.dst≠some t):C.t t=σ.t t:=by
 obtain⟨a,b,t1,t2,O,U,Y,hk⟩:=Xb D;rw[JI O U Y hk]at h;obtain⟨d,ni,h⟩:=lG h;obtain⟨r,v,jn,hr,qL⟩:=PG h;have cx:t≠d:=by rintro rfl;exact I ni
 rw[jn];show cc ((σ.drop r).root r _).t d _ t=_;rw[cN _ _ _ cx];exact A.PX E r
def adX(C:∃ ty t y,o.op = .store ty (.tmp t) y/\o.dst=none /\ ∃ r j,σ.t t = .aE r j){I:S}(h:eA P N Φ σ o some=some I):∃ t y r j cs xs,o.op.operands = #[.tmp t,y]/\σ.t t = .aE r j/\(aL σ y).Af=some xs/\σ.m r=some (.aB cs)/\I=σ.root r (.aB (splice cs j xs)) /\
  ∀(σ2:S) (D:aa Lf),σ2.t t = .aE r j -> aL σ2 y=aL σ y -> σ2.m r=some (.aB D) -> D.length=cs.length -> eA P N Φ σ2 o some=some (σ2.root r (.aB (splice D j xs))):=by
 obtain⟨ty,t,y,C,hd,r,j,O⟩:=C;have U:∀ σ2:S,σ2.t t = .aE r j -> eA P N Φ σ2 o some=rq P σ2 ty (.aE r j) (aL σ2 y) some:=by
  intro σ2 E;unfold eA;rw[show gB o.op=false by rw[C];rfl,av];simp[jo,C,hd];have e1:aL σ2 (.tmp t) = .aE r j:=E;rw[e1,show yK _ _=false from rfl,av]
 rw[U σ O]at h;unfold rq at h;split at h
 ·rename_i n xs hn Y;split at h
  ·rename_i hlen;simp only at h;split at h
   ·rename_i cs gA;split at h
    ·rename_i hj;cases hl:xs.all Lf.live with
     |false=>simp_all
     | true=>
      rw[hl,aq]at h;injection h with h
      refine⟨t,y,r,j,cs,xs,by rw[C];rfl,O,Y,gA,h.symm,λσ2 D h1 E h3 h4=>?_⟩
      rw[U σ2 h1,E];simp only[rq,hn,Y,bg hlen,h3];rw[bg (by rw[h4];exact hj),hl];rfl
    ·cases h
   ·cases h
  ·cases h
 ·cases h
def adY(C:Jy o=true)(E:yM σ o=true):∃ ty t y,o.op = .store ty (.tmp t) y/\o.dst=none /\ ∃ r j,σ.t t = .aE r j:=by
 unfold Jy at C;rw[aP]at C;obtain⟨D,I⟩:=C;split at D
 ·rename_i ty t y O;refine⟨ty,t,y,O,Option.isNone_iff_eq_none.1 I,?_⟩;unfold yM at E
  grind
 ·cases D
def arC{y:A}{xs:aa Lf}(h:y.Af=some xs)(C:y.nr p=true):xs.all (Lf.nr p)=true:=by
 cases y with
 |lf l=>injection h with h;subst h;rw[List.all_cons,show l.nr p=true from C];rfl
 |agg cs=>injection h with h;subst h;exact C
 |_=>cases h
def arD(hx:lH x)(hu:n5 e u)(C:p e=true)(hm:Jy o=true)(hs:yM σ o=true)(O:∀ y∈o.op.operands,(aL σ y).nr p=true/\y ≠ .tmp e){U:S}
  (h:eA P N Φ σ o some=some U):eA P N Φ (cM e x u σ) o some=some (cM e x u U):=by
 obtain⟨t,y,r,j,cs,xs,Y,g2,g3,g4,g5,g6⟩:=adX (adY hm hs) h;have D:=O (.tmp t) (by rw[Y];simp);have E:=O y (by rw[Y];simp);have e1:(cM e x u σ).t t = .aE r j:=(yR D.1 C D.2).trans g2;have JM:r≠e:=by
  have h2:(aL σ (.tmp t)).nr p=true:=D.1;have h3:aL σ (.tmp t) = .aE r j:=g2;rw[h3]at h2;exact aqU h2 C
 have e3:(cM e x u σ).m r=some (.aB (cs.map (Lf.drop e))):=by
  rw[qM,bk JM,g4];rfl
 have oE:=sB.AK (arC g3 E.1) C;rw[g6 (cM e x u σ) _ e1 (yR E.1 C E.2) e3 (by rw[fN]),g5];congr 1
 refine S.ext' (λk=>?_) λn=>?_
 ·show (cM e x u σ).t k=(cM e x u (σ.root r (.aB (splice cs j xs)))).t k;rw[sW,sW];rfl
 ·show cc (cM e x u σ).m r (some (.aB (splice (cs.map (Lf.drop e)) j xs))) n=(cM e x u (σ.root r (.aB (splice cs j xs)))).m n;rw[qM];by_cases I:n=r
  ·subst I;rw[cm,bk JM];show _=(cc σ.m n (some (aX.aB (splice cs j xs))) n).map (aX.drop e);rw[cm];simp only[Option.map_some,aX.JB,splice,List.map_append,List.map_take,List.map_drop,oE]
  ·rw[cN _ _ _ I,qM];have:(σ.root r (.aB (splice cs j xs))).m n=σ.m n:=cN _ _ _ I;rw[this]
def arE(D:Jy o=true)(E:yM σ o=true){C:S}(h:eA P N Φ σ o some=some C)(t:Nat):C.t t=σ.t t:=by
 obtain⟨_,_,r,j,cs,xs,_,_,_,_,I,_⟩:=adX (adY D E) h;rw[I];rfl
def arF(eE:gF P Φ)(C:lH x)(D:n5 e u)(he:e<20000)(E:p e=true)(JL:∀ n,20000<=n->p n=false)(O:Jz Φ o=true)(lC:yM σ o=true)(U:o.dst≠some e)(I:∀ y∈o.op.operands,(aL σ y).nr p=true/\y ≠ .tmp e)(hl:∀ n∈qJ Φ σ o,yN σ p n=true){Y:S}
  (h:eA P N Φ σ o some=some Y):eA P N Φ (cM e x u σ) o some=some (cM e x u Y):=by
 unfold Jz at O;rw[eN,eN,eN]at O;rcases O with ((hc|hc)|hc)|hc
 ·exact ars eE C D he E JL hc U I hl h
 ·exact arx C D E hc U I h
 ·exact arz C D E hc U I h
 ·exact arD C D E hc lC I h
def arG(O:gF P Φ)(C:Jz Φ o=true)(U:yM σ o=true){I:S}(h:eA P N Φ σ o some=some I){t:Nat}(D:(σ.t t).gB=true)(E:o.dst≠some t):I.t t=σ.t t:=by
 unfold Jz at C;rw[eN,eN,eN]at C;rcases C with ((hc|hc)|hc)|hc
 ·exact arv O hc h D E
 ·exact ary hc h D E
 ·exact arB hc h D E
 ·exact arE hc U h t
def adZ{i W j:Nat}{C:Oper}(D:ops[j]?=some C)(h:Jv ops i W j=true):∃ e∈C.after,Region.binds .any e=true/\(e.on=i\/W.testBit e.on=true):=by
 unfold Jv at h;rw[D]at h;obtain⟨e,E,hb⟩:=List.any_eq_true.1 h;rw[aP,eN]at hb
 refine⟨e,by simpa using E,hb.1,hb.2.imp (λh=>cL h) id⟩
def Xt{g:Oper -> Bool}{C:Oper}{i L W:Nat}:∀ (n j:Nat),Jw g ops C i L W n j=true -> ∀ k,j <= k -> k<j+n -> k=i \/ L.testBit k=true \/ (W.testBit k=true/\Jv ops i W k=true) \/ (W.testBit k=false /\ ∀ ok,ops[k]?=some ok -> g ok=true/\C.apart ops ok=true)
 |0,j,_,k,D,E=>by omega
 | n+1,j,h,k,D,E=>by
  unfold Jw at h;rw[aP,eN,eN]at h;by_cases I:k=j
  ·subst I;rcases h.1 with (h | h) | h
   ·exact .inl (cL h)
   ·exact .inr (.inl h)
   ·grind
  ·exact Xt n (j+1) h.2 k (by omega) (by omega)
def qN{g:Oper -> Bool}{i L W:Nat}:∀ (n j:Nat) (k:Nat),j <= k -> k<j+n -> k≠i -> L.testBit k=false -> W.testBit k=false -> ∀ ok,ops[k]?=some ok -> g ok=true -> iY g ops i L W n j=true
 |0,j,k,C,D,_,_,_,_,_,_=>by omega
 | n+1,j,k,C,D,hi,E,I,ok,O,U=>by
  unfold iY;rw[eN];by_cases Y:k=j
  ·subst Y;refine .inl ?_;have hb:Nat.beq k i=false:=by
    cases hb:Nat.beq k i with
    |false=>rfl
    |true=>simp_all
   simp_all
  ·exact .inr (qN n _ k (by omega) (by omega) hi E I ok O U)
def ad0{g:Oper -> Bool}{i L W:Nat}:∀ (n j:Nat),iY g ops i L W n j=true -> ∃ k ok,ops[k]?=some ok/\k≠i/\L.testBit k=false/\W.testBit k=false/\g ok=true
 |0,j,h=>by cases h
 | n+1,j,h=>by
  unfold iY at h;rw[eN]at h;rcases h with h|h
  ·rw[aP,ij,o5,o5]at h;obtain⟨⟨⟨D,E⟩,I⟩,C⟩:=h;split at C
   next ok O=>exact⟨j,ok,O,(by rintro rfl;rw[Nat.beq_refl]at D;cases D),E,I,C⟩
   ·cases C
  ·exact ad0 n _ h
theorem arH[Inhabited Wd]{L i:Nat}{k:S -> ah X}(E:gB o.op=true \/ gG σ ops o=some false)(I:WJ σ (AP Φ ops i L (waits ops i ops.size 0 0) σ) (CX σ ops i L (waits ops i ops.size 0 0)) o=true)(h:Jx P N Φ ops L i σ o k=some r):
  ∃v,k (gQ σ o.dst v)=some r/\nZ P ops o (AP Φ ops i L (waits ops i ops.size 0 0) σ) (CX σ ops i L (waits ops i ops.size 0 0)) v σ /\ ∀σ:S,iU N σ o.dst v some=some (gQ σ o.dst v):=by
 unfold Jx at h;unfold WJ at I;rw[aP]at I;split at h
 ·rename_i C;obtain⟨v,D,hd,_⟩:=WO (w0:=default) (N:=N) h;cases O:v.pQ _ _ with
  |false=>rw[O]at D;cases D
  | true=>
   rw[O,aq]at D;obtain⟨U,Y⟩:=tV D;have E:=E.resolve_right (by rw[C];simp)
   refine⟨v,U,.inl ⟨C,E,hd,λy hy=>ck.1 I.1 y (by simpa using hy),O,λt y r j e hy=>?_⟩,λσ=>(Y σ).at_ _⟩
   simp_all
 next C=>obtain⟨U,Y⟩:=tV h;exact⟨.skip,U,.inr ⟨C,rfl⟩,λσ=>(Y σ).at_ _⟩
 ·cases h
def FH{i L W n:Nat}(h:AO Φ ops i L W σ n=true):AP Φ ops i L W σ n=true:=by unfold AP;rw[h];rfl
def arI{i L W:Nat}(h:Iv Φ ops i L W σ o=true):∃ ty t y,o.op = .store ty (.tmp t) y/\o.dst=none/\Pv Φ ops i L W σ t=true/\(∀ k,σ.t t ≠ .ptr k) /\ ∀ r j,σ.t t = .aE r j -> AN σ o=[r]:=by
 unfold Iv at h;split at h
 ·rename_i ty t y C;rw[aP,aP]at h
  refine⟨ty,t,y,C,by simpa using h.1.1,h.1.2,λk E=>?_,λr j D=>by simp[AN,C,D]⟩
  simp_all
 ·cases h
def arJ{i L W:Nat}(h:WH Φ ops i L W o=true):∃ x y t C,o.op = .call ⟨.builtin .append,⟨[.tmp x,y]⟩,⟨[t,C]⟩⟩/\nX Φ ops i L W x=true/\(rF t=false/\Nat.beq t C=true/\CV o.dst t (.tmp x)=false):=by
 unfold WH at h
 grind
def arK{i L W:Nat}(h:WG Φ ops i L W σ o=true):∃ f args C c,o.op = .call { callee:=.value (.func f),args:=args,argTypes:=C } /\ Φ f=some (.m c)/\Pp c=true/\tT (λt r=>!iY (lF t) ops i L W ops.size 0 && !iY (λok=>fH ok r) ops i L W ops.size 0 && !iY isApp ops i L W ops.size 0) σ c.ps args.toList=true/\qJ Φ σ o=jC σ c.ps args.toList:=by
 unfold WG at h;split at h
 ·rename_i f args C D;split at h
  next c E=>rw[aP]at h;exact⟨f,args,C,c,D,E,h.1,h.2,by simp[qJ,D,E]⟩
  ·cases h
 ·cases h
def JN{p:Nat -> Bool}:∀ (ps:aa PK) (xs:aa Operand),(∀ x∈xs,(aL σ x).nr p=true) -> ∀ n∈jC σ ps xs,p n=false
 |[],[],_,n,hn=>by cases hn
 |.v _ _::ps,x::xs,h,n,hn=>JN ps xs (λy C=>h y (.tail _ C)) n hn
 |.s _ _::ps,x::xs,h,n,hn=>JN ps xs (λy C=>h y (.tail _ C)) n hn
 | .p _ _ _ :: ps,x :: xs,h,n,hn=>by
  simp[jC]at hn;split at hn
  ·rename_i I j E;rcases gZ.1 hn with rfl | hn
   ·have D:=h x (.head _);rw[E]at D;have D:(!p n)=true:=D
    simpa using D
   ·exact JN ps xs (λy C=>h y (.tail _ C)) n hn
  ·exact JN ps xs (λy C=>h y (.tail _ C)) n hn
def PY{D:ah Tmp}{g:Bool}{k:S -> ah X}(h:tR σ D g k=some r):k σ=some r:=by
 unfold tR at h;cases g with
 |false=>exact h
 | true=>
  rw[aq]at h;split at h
  ·rename_i d;split at h
   ·rename_i b hb;have:∀ c,b=c -> σ.set d (.lf (.v (.bool c)))=σ:=by
     rintro c rfl
     refine S.ext' (λk=>?_) λ_=>rfl
     show cc _ _ _ _=_;by_cases C:k=d
     ·subst C;rw[cm,hb]
     ·rw[cN _ _ _ C]
    grind
   ·exact h
  ·exact h
def ad1{L j:Nat}(h:ng ops L j=true):j<ops.size:=by
 obtain⟨_,o,C,_⟩:=JJ.1 h
 grind
def C1{L j:Nat}:j∈(List.range ops.size).filter (ng ops L) ↔ ng ops L j=true:=by
 rw[List.mem_filter,ga];exact⟨λh=>h.2,λh=>⟨ad1 h,h⟩⟩
structure ad2 (ops:Array Oper) (p:Nat->Bool) (σ:S) (o:Oper):Prop where
 is:pP o=true
 want:gG σ ops o=some true
 aGk:∀y∈o.op.operands,(aL σ y).gB=true/\∀t,y = .tmp t->p t=false
 guard:∀g c t,o.guard=some (g,c)->(ops[g]?).bind (·.dst)=some t->p t=false
def arL{x:A}{n:Nat}{z:V}(h:sP x n=some z)(X:Type)(k:A -> ah X):Cp x n k=k (.lf (.v z)):=by
 unfold sP at h;split at h
 ·split at h
  next xs _ _ C=>injection h with h;subst h;simp[Cp,C,Option.bind_some,Ah]
  ·cases h
 ·cases h
def ad3{x:A}{n:Nat}{z:V}{g:Lf -> Lf}{G:A -> A}(C:∀ xs,G (.fO xs) = .fO (xs.map λp=>(p.1,p.2.map g)))(D:∀ z,g (.v z) = .v z)(h:sP x n=some z):sP (G x) n=some z:=by
 unfold sP at h;split at h
 ·split at h
  next xs _ _ E=>injection h with h;subst h;rw[C];simp[sP,fh,E,Option.map_some,List.map_cons,List.map_nil,D]
  ·cases h
 ·cases h
def Xu{v:A}(C:∀ q,v.drop q=v){rr d:Nat}{key:Nat -> aa Nat}:∀ (f j:Nat) (xs:aa Lf) (σ:S),iV rr key f j xs (σ.set d v)=(iV rr key f j xs σ).map λp=>(p.1,p.2.set d v)
 |_,_,[],σ=>by simp[iV]
 |0,j,x::xs,σ=>by cases x<;>simp[iV]
 | f+1,j,.v x :: xs,σ=>by
  simp only[iV,Xu C f];cases iV rr key f (j+1) xs σ<;>rfl
 | f+1,j,.own [q] :: xs,σ=>by
  simp only[iV];show (match σ.m q with
   |some (.sl z)=>_
   |_=>none)=_
  cases D:σ.m q with
  |none=>rfl
  | some y=>
   cases y with
   | sl z=>
    cases Nat.beq q rr with
    |true=>rfl
    | false=>
     simp only[av];rw[S.drop_set q (C q),Xu C f];cases iV rr key f (j+1) (xs.map (Lf.drop q)) (σ.drop q)<;>rfl
   |_=>rfl
 |f+1,j,.own []::xs,σ=>rfl
 |f+1,j,.own (_::_::_)::xs,σ=>rfl
 |f+1,j,.dead::xs,σ=>rfl
def Xv{rr:Nat}{key:Nat -> aa Nat}{x n:Nat}{z:V}:∀ (f j:Nat) (xs:aa Lf) (σ C:S) (D:aa V),iV rr key f j xs σ=some (D,C) -> sP (σ.t x) n=some z -> sP (C.t x) n=some z
 | _,_,[],σ,C,D,h,E=>by
  simp only[iV]at h;simp_all
 |0,j,y::xs,σ,C,D,h,E=>by cases y<;>simp[iV]at h
 | f+1,j,.v y :: xs,σ,C,D,h,E=>by
  simp only[iV]at h;cases I:iV rr key f (j+1) xs σ with
  |none=>simp_all
  | some p=>
   rw[I]at h;injection h with h;injection h with _ h;subst h;exact Xv f (j+1) xs σ p.2 p.1 I E
 | f+1,j,.own [q] :: xs,σ,C,D,h,E=>by
  simp only[iV]at h;split at h
  ·cases hb:Nat.beq q rr with
   |true=>simp_all
   | false=>
    rw[hb,av]at h;cases I:iV rr key f (j+1) (xs.map (Lf.drop q)) (σ.drop q)with
    |none=>simp_all
    | some p=>
     rw[I]at h;injection h with h;injection h with _ h;subst h;refine Xv f (j+1) _ (σ.drop q) p.2 p.1 I ?_;exact ad3 (G:=A.drop q) (g:=Lf.drop q) (λ_=>rfl) (λ_=>rfl) E
  ·cases h
def arM{d:Nat}{v:V}{t:TypeId}{x y:A}{I:S}(h:vb P (σ.set d (.lf (.v v))) t x y some=some I):∃ D,vb P σ t x y some=some D/\I=D.set d (.lf (.v v)) /\ ∀ (e n:Nat) (z:V),sP (σ.t e) n=some z -> sP (D.t e) n=some z:=by
 unfold vb at h;split at h
 ·rename_i n xs j i s rr hn oE;split at h
  ·rename_i hlen;cases O:xs.all Lf.live with
   |false=>simp_all
   | true=>
    rw[O,aq]at h;split at h
    ·rename_i vs τ1 C;rw[Xu (v:=.lf (.v v)) (λ_=>rfl)]at C;cases E:iV rr (λm=>(j+m) :: i :: s :: [rr]) xs.length 0 xs σ with
     |none=>simp_all
     | some p=>
      rw[E]at C;obtain⟨vs0,U⟩:=p;injection C with C;injection C with e1 e2;subst e1 e2;split at h
      ·rename_i Y o' qn l jn;have arN:U.m rr=some (.sl (.sl Y (o'+2) qn l)):=jn;split at h
       ·rename_i yg;split at h
        ·rename_i hi;split at h
         ·rename_i hj;split at h
          ·rename_i e he;injection h with h
           refine⟨U.dR [rr] [] [(rr,.sl (.sl Y (o'+2) qn (l.set i e)))],?_,?_,λex nx z hz=>?_⟩
           ·simp[vb,hn,oE,bg hlen,O,aq,E,arN,bg yg,aC hi,bg hj,he]
           ·rw[<- h];exact S.W9 _ rfl
           ·exact ad3 (G:=A.dR [rr] []) (λ_=>rfl) (λ_=>rfl) (Xv _ _ _ _ _ _ E hz)
          ·cases h
         ·cases h
        ·cases h
       ·cases h
      ·cases h
    ·cases h
  ·cases h
 ·cases h
def ad4{t:TypeId}{a b:Operand}(C:o.op = .store t a b)(D:o.dst=none)(E:yK (aL σ a) (aL σ b)=true):eA P N Φ σ o some=vb P σ t (aL σ a) (aL σ b) some:=by
 unfold eA;rw[show gB o.op=false by rw[C];rfl,av];simp[jo,C,D,E,aq]
theorem arO[Inhabited Wd](eE:gF P Φ){K:S -> Prop}{f L i:Nat}{Y:Oper}{τ:S}(hi:ops[i]?=some Y)(hr:ng ops L i=true)(D:WL ops L σ i=true)(jn:ek P N Φ ops σ Y some=some τ)(H:Any P N Φ ops K f (L ||| 2 ^ i) τ):Any P N Φ ops K (f+1) L σ:=by
 unfold WL at D;rw[hi]at D;split at D
 ·rename_i oi' j0 e1 arP;injection e1 with e1;subst e1;split at D
  ·rename_i x n d oj wQ AV yS hj0;split at D
   ·rename_i ty a b PZ ad5 ad6;rw[aP,aP]at D;obtain⟨⟨c1,c2⟩,c3⟩:=D;obtain⟨z,hz⟩:=Option.isSome_iff_exists.1 c1;obtain⟨a1,a2,a3⟩:=Oper.apart_spec c3;have hpd:∀ j,j<ops.size -> j≠i -> L.testBit j=false -> j=j0:=by
     intro j E I O;have:j∈(List.range ops.size).filter (λj=>!(Nat.beq j i || L.testBit j)):=by
      rw[List.mem_filter];refine⟨ga.2 E,?_⟩;rw[O,Bool.or_false];cases hb:Nat.beq j i with
      |false=>rfl
      |true=>exact absurd (cL hb) I
     rw[arP]at this;exact jH.1 this
    have sV:∀ σ2:S,sP (σ2.t x) n=some z -> ek P N Φ ops σ2 Y some=iU N σ2 (some d) (.lf (.v z)) some:=by
     intro σ2 h2;unfold ek;simp only[gG,yS];unfold eA;rw[show gB Y.op=true by rw[wQ];rfl,aq,wQ];simp only[nW];rw[show aL σ2 (.tmp x)=σ2.t x from rfl,arL h2,AV]
    have hN:∀ σ2:S,iU N σ2 (some d) (.lf (.v z)) some=some (σ2.set d (.lf (.v z))):=by
     intro σ2;rw[sV σ hz]at jn;obtain⟨_,g2⟩:=tV jn;exact(g2 σ2).at_ _
    have hE:τ=σ.set d (.lf (.v z)):=by
     grind
    rw[hE]at H
    refine Xe (W:=0) hi (λj oj _ E=>by rw[Nat.zero_testBit]at E;cases E) (λσ=>σ.set d (.lf (.v z)))
     (λL' C=>sP (C.t x) n=some z /\ ∀j,j<ops.size -> j≠i -> L'.testBit j=false -> j=j0/\yK (aL C a) (aL C b)=true)
     (λL' C hI=>(sV C hI.1).trans (hN C)) (λL' C j oj' tH hI U I O _ AU=>?_) f L σ (λj E=>by rw[Nat.zero_testBit]at E;cases E) hr
     ⟨hz,λj E I O=>⟨hpd j E I O,c2⟩⟩ H
    obtain⟨rfl,hg⟩:=hI.2 j (jU.1 U).1 I O;rw[hj0]at U;injection U with U;subst U;have ha:aL (C.set d (.lf (.v z))) a=aL C a:=FC (a1 d AV) _ (by rw[PZ];simp[Op.operands]);have hb:aL (C.set d (.lf (.v z))) b=aL C b:=FC (a1 d AV) _ (by rw[PZ];simp[Op.operands]);have lC:ek P N Φ ops (C.set d (.lf (.v z))) oj some=vb P (C.set d (.lf (.v z))) ty (aL C a) (aL C b) some:=by
     unfold ek;simp only[gG,ad6];rw[ad4 PZ ad5 (by rw[ha,hb];exact hg),ha,hb]
    rw[lC]at AU;obtain⟨σ2,h1,h2,h3⟩:=arM AU
    refine⟨σ2,?_,h2,h3 _ _ _ hI.1,λk hk hki hkL=>?_⟩
    ·unfold ek;simp only[gG,ad6];rw[ad4 PZ ad5 hg];exact h1
    ·grind
   ·cases D
  ·cases D
 ·cases D
theorem JO[Inhabited Wd](eE:gF P Φ):∀ (f L:Nat) (σ:S) (k:S->ah X),sQ P N Φ ops f L σ k=some r->Any P N Φ ops (λτ=>k τ=some r) f L σ
 | 0,L,σ,k,h=>by
  unfold sQ at h;split at h
  ·rename_i hr
   refine⟨λj=>?_,h⟩
   cases hj:ng ops L j with
   |false=>rfl
   |true=>have:=C1.2 hj;rw[hr]at this;cases this
  ·cases h
 | f+1,L,σ,k,h=>by
  unfold sQ at h;split at h
  ·rename_i hr
   refine⟨λ_=>h,λj hj=>?_⟩
   have:=C1.2 hj;rw[hr]at this;cases this
  ·rename_i i hr;have hi:ng ops L i=true:=C1.1 (by rw[hr];exact .head _)
   refine⟨λh=>absurd (h i) (by rw[hi];simp),λj hj=>?_⟩
   have hj:=C1.2 hj;rw[hr]at hj;obtain rfl:=jH.1 hj;split at h
   next o ho=>obtain⟨τ,h1,h2⟩:=W2 eE h;exact⟨o,τ,ho,h2,JO eE f _ τ k (PY h1)⟩
   ·cases h
  ·rename_i rs hn hs;split at h
   ·rename_i i hf;have hc:=List.find?_some hf;have hm:=List.mem_of_find?_eq_some hf;have hi:=C1.1 hm;split at h
    ·rename_i o ho;unfold adg at hc;rw[ho,aP,aP,aP]at hc;obtain⟨⟨⟨c1,c2⟩,c3⟩,c4⟩:=hc;have c1:gB o.op=true\/gG σ ops o=some false:=by
      rw[eN]at c1
      refine c1.imp id λc1=>?_
      split at c1
      next b hb=>rw[hb];cases b<;>first|rfl|cases c1
      ·cases c1
     obtain⟨v,h1,hF,hN⟩:=arH c1 c4 h;have wN:=Xt _ _ c3;have c2:=cL c2;have JP:∀ j,(waits ops i ops.size 0 0).testBit j=true->(L ||| 2 ^ i).testBit j=false:=by
      intro j hj;have:((L |||2 ^ i) &&& waits ops i ops.size 0 0).testBit j=false:=by rw[c2];exact Nat.zero_testBit j
      rw[Nat.testBit_and,hj,Bool.and_true]at this;exact this
     have wP:∀ j,(waits ops i ops.size 0 0).testBit j=true->L.testBit j=false:=by
      intro j hj;have:=JP j hj;rw[AS,o5]at this;exact this.1
     refine arf (W:=waits ops i ops.size 0 0) (ok:=λt r=>!iY (lF t) ops i L (waits ops i ops.size 0 0) ops.size 0 && !iY (λok=>fH ok r) ops i L (waits ops i ops.size 0 0) ops.size 0 && !iY isApp ops i L (waits ops i ops.size 0 0) ops.size 0) (sU:=Pv Φ ops i L (waits ops i ops.size 0 0) σ) (nY:=nY Φ ops i L (waits ops i ops.size 0 0) σ) (nX:=nX Φ ops i L (waits ops i ops.size 0 0)) eE ho hN (λj C D hj=>?_) f L σ (λt r gk j C D O U Y=>?_) (λx hx j C D O U Y=>?_) (λx hx=>?_) (λt gk j C D O U Y=>?_) (λt gk j C D O U Y=>?_) (λj C D O U Y=>?_) wP hi hF (JO eE f _ _ k (PY h1))
     ·have dQ:=(jU.1 D).1;rcases wN j (by omega) (by omega)with e | e | e | e
      ·subst e;have:=JP j hj;rw[AS]at this;simp at this
      ·rw[wP j hj]at e;cases e
      ·exact adZ D e.2
      ·rw[hj]at e;cases e.1
     ·have dQ:=(jU.1 D).1;rw[aP,aP,ij,ij,ij]at gk
      refine⟨λhd=>?_,?_,?_⟩
      ·have:=qN (g:=lF t) ops.size 0 j (by omega) (by omega) O U Y C D (by unfold lF;rw[hd];exact Nat.beq_refl t);rw[gk.1.1]at this;cases this
      ·cases hn:fH C r with
       |false=>rfl
       | true=>
        have:=qN (g:=λok=>fH ok r) ops.size 0 j (by omega) (by omega) O U Y C D hn;rw[gk.1.2]at this;cases this
      ·cases hn:isApp C with
       |false=>rfl
       | true=>
        have:=qN (g:=isApp) ops.size 0 j (by omega) (by omega) O U Y C D hn;rw[gk.2]at this;cases this
     ·have dQ:=(jU.1 D).1;unfold nY at hx;rw[aP]at hx;intro hd;have:=qN (g:=lF x) ops.size 0 j (by omega) (by omega) O U Y C D (by unfold lF;rw[hd];exact Nat.beq_refl x);rw[this]at hx;cases hx.1
     ·unfold nY at hx;rw[aP]at hx;have hx:=hx.2;cases hz:σ.t x with
      |aE r j=>rw[hz]at hx;exact hx
      |jW cs=>trivial
      |_=>rw[hz]at hx;cases hx
     ·have dQ:=(jU.1 D).1;by_cases hd:C.dst=some t
      ·refine .inr ?_;have Xw:lF t C=true:=by unfold lF;rw[hd];exact Nat.beq_refl t
       cases FF:wM C with
       | false=>
        cases JQ:Pu Φ ops i L (waits ops i ops.size 0 0) σ C with
        | false=>
         have:=qN (g:=λok=>lF t ok && !(wM ok ||Pu Φ ops i L (waits ops i ops.size 0 0) σ ok)) ops.size 0 j (by omega) (by omega) O U Y C D (by rw[Xw,FF,JQ];rfl);unfold Pv at gk;rw[this]at gk;cases gk
        | true=>
         unfold Pu at JQ;split at JQ
         next s x f AX=>exact .inr ⟨s,x,f,AX,JQ⟩
         ·cases JQ
       | true=>
        refine .inl ⟨rfl,?_⟩;refine FH ?_;unfold AO;rw[eN]
        refine .inl (qN (g:=λo=>fH o t) _ 0 j (by omega) (by omega) O U Y C D ?_)
        obtain⟨ty,e,h1,_,h3,_⟩:=adE FF;unfold fH;rw[hd,h1];exact Nat.beq_refl t
      ·exact .inl hd
     ·have dQ:=(jU.1 D).1;by_cases hd:C.dst=some t
      ·refine .inr ?_;have Xw:lF t C=true:=by unfold lF;rw[hd];exact Nat.beq_refl t
       cases wB:pP C with
       | false=>
        cases hma:isApp C with
        |true=>exact .inr (.inl rfl)
        | false=>
         cases CZ:AQ Φ C with
         |true=>exact .inr (.inr rfl)
         | false=>
          have:=qN (g:=λok=>lF t ok && !(pP ok ||isApp ok ||AQ Φ ok)) ops.size 0 j (by omega) (by omega) O U Y C D (by rw[Xw,wB,hma,CZ];rfl);unfold nX at gk;rw[this]at gk;cases gk
       | true=>
        refine .inl ?_;have kO:fH C t=true:=by
         unfold pP at wB;rw[aP]at wB;have h1:=wB.1;unfold fH;rw[hd];split at h1
         next CD=>simp only[CD];exact Nat.beq_refl t
         next CD=>simp only[CD];exact Nat.beq_refl t
         next CD=>simp only[CD];exact Nat.beq_refl t
         ·cases h1
        have h9:=qN (g:=λo=>fH o t) ops.size 0 j (by omega) (by omega) O U Y C D kO;refine⟨rfl,?_,?_⟩
        ·refine FH ?_;unfold AO;rw[eN];exact .inl h9
        ·unfold CX;rw[eN];exact .inl h9
      ·exact .inl hd
     ·have dQ:=(jU.1 D).1;rcases wN j (by omega) (by omega)with e | e | e | e
      ·exact absurd e O
      ·rw[U]at e;cases e
      ·rw[Y]at e;cases e.1
      ·obtain⟨e1,e2⟩:=e.2 C D
       refine⟨e2,?_,λn hn=>?_⟩
       ·rw[eN,eN,eN]at e1;rcases e1 with ((e1 | e1) | e1) | e1
        ·exact .inl e1
        ·obtain⟨f',args,iW,c,g1,g2,g3,g4,g5⟩:=arK e1
         refine .inr (.inl ⟨f',args,iW,c,g1,g2,g3,g4,λn hn=>?_⟩)
         refine FH ?_;unfold AO;rw[eN]
         refine .inr (qN (g:=λo=>dB n (qJ Φ σ o) ||dB n (AN σ o)) _ 0 j (by omega) (by omega) O U Y C D ?_)
         rw[g5,uY.2 hn];rfl
        ·obtain⟨ty,t,y,g1,g2,g3,g4,g5⟩:=arI e1;refine .inr (.inr (.inl ⟨ty,t,y,g1,g2,g3,?_⟩));cases hx:σ.t t with
         | aE r' j'=>
          show AP Φ ops i L (waits ops i ops.size 0 0) σ r'=true;refine FH ?_;unfold AO;rw[eN]
          refine .inr (qN (g:=λo=>dB r' (qJ Φ σ o) ||dB r' (AN σ o)) _ 0 j (by omega) (by omega) O U Y C D ?_)
          rw[g5 r' j' hx,eN];exact .inr (uY.2 (.head _))
         |ptr k=>exact absurd hx (g4 k)
         |_=>trivial
        ·obtain⟨x,y,t1,t2,g1,g2,g3⟩:=arJ e1
         refine .inr (.inr (.inr ⟨x,y,t1,t2,g1,g2,g3,λr' gz=>⟨?_,?_⟩⟩))
         ·refine FH ?_;unfold AO;rw[eN]
          refine .inr (qN (g:=λo=>dB r' (qJ Φ σ o) ||dB r' (AN σ o)) _ 0 j (by omega) (by omega) O U Y C D ?_)
          have:AN σ C=[r']:=by simp only[AN,g1,gz]
          rw[this,eN];exact .inr (uY.2 (.head _))
         ·unfold CX;rw[eN]
          refine .inr (qN (g:=λo=>dB r' (Pr σ o)) _ 0 j (by omega) (by omega) O U Y C D ?_)
          have:Pr σ C=[r']:=by simp only[Pr,g1,gz]
          rw[this];exact uY.2 (.head _)
       ·have h9:=qN (g:=λo=>fH o n) ops.size 0 j (by omega) (by omega) O U Y C D hn;refine⟨?_,?_⟩
        ·refine FH ?_;unfold AO;rw[eN];exact .inl h9
        ·unfold CX;rw[eN];exact .inl h9
    ·cases h
   ·split at h
    ·rename_i i hf;have hc:=List.find?_some hf;have hm:=List.mem_of_find?_eq_some hf;have hi:=C1.1 hm;split at h
     ·rename_i o ho;unfold adh at hc;rw[ho,aP,aP,aP,aP,aP]at hc;obtain⟨⟨⟨⟨⟨c1,c2⟩,c3⟩,c4⟩,c5⟩,c6⟩:=hc;have wN:=Xt _ _ c3;have c2:=cL c2;have JP:∀ j,(waits ops i ops.size 0 0).testBit j=true->(L ||| 2 ^ i).testBit j=false:=by
       intro j hj;have:((L |||2 ^ i) &&& waits ops i ops.size 0 0).testBit j=false:=by rw[c2];exact Nat.zero_testBit j
       rw[Nat.testBit_and,hj,Bool.and_true]at this;exact this
      have wP:∀ j,(waits ops i ops.size 0 0).testBit j=true->L.testBit j=false:=by
       intro j hj;have:=JP j hj;rw[AS,o5]at this;exact this.1
      obtain⟨τ,h1,h2⟩:=W2 eE h;generalize hp:(λn=>iY (λo=>FB o n) ops i L (waits ops i ops.size 0 0) ops.size 0)=p at c4 c5;have hpe:∀ j C e,ops[j]?=some C->j≠i->L.testBit j=false->(waits ops i ops.size 0 0).testBit j=false->C.dst=some e->p e=true:=by
       intro j C e D O U Y hd;have dQ:=(jU.1 D).1;rw[<-hp];exact qN (g:=λo=>FB o e) _ 0 j (by omega) (by omega) O U Y C D (by unfold FB lF;rw[hd];exact Nat.beq_refl e)
      have C0:∀ j C,ops[j]?=some C->j≠i->L.testBit j=false->(waits ops i ops.size 0 0).testBit j=false->WK ops i L (waits ops i ops.size 0 0) σ C=true/\o.apart ops C=true:=by
       intro j C D O U Y;have dQ:=(jU.1 D).1;rcases wN j (by omega) (by omega)with e|e|e|e
       ·exact absurd e O
       ·rw[U]at e;cases e
       ·rw[Y]at e;cases e.1
       ·exact e.2 C D
      have wB:∀ j C,ops[j]?=some C->j≠i->L.testBit j=false->(waits ops i ops.size 0 0).testBit j=false->ad2 ops p σ C:=by
       intro j C D O U Y;have hb:=(C0 j C D O U Y).1;unfold WK at hb;rw[aP,aP,aP]at hb;obtain⟨⟨⟨b1,b2⟩,b3⟩,b4⟩:=hb;have PE:∀t,iY (lF t) ops i L (waits ops i ops.size 0 0) ops.size 0=false->p t=false:=λt ht=>by rw[<-hp];exact ht
       refine⟨b1,?_,λy I=>?_,λg c t hg ht=>?_⟩
       ·split at b2
        next b Fc=>rw[Fc,b2]
        ·cases b2
       ·have:=ck.1 b3 y (by simpa using I);rw[aP]at this
        refine⟨this.1,λt ht=>?_⟩
        have h2:=this.2;rw[ht]at h2;exact PE t (by simpa using h2)
       ·rw[hg]at b4;simp only[ht]at b4;exact PE t (by simpa using b4)
      have JL:∀ n,20000<=n->p n=false:=by
       intro n hn;cases yP:p n with
       |false=>rfl
       | true=>
        rw[<-hp]at yP;obtain⟨k',Xx,pS,mJ,n6,wR,sX⟩:=ad0 _ _ yP;have hm:=(wB k' Xx pS mJ n6 wR).is;unfold pP at hm;rw[aP]at hm;have hm:=hm.2;unfold FB lF at sX;split at sX
        next e he=>rw[he]at hm;have h1:e=n:=cL sX;subst h1;exact absurd (dj hm) (Nat.not_le_of_gt (Nat.lt_succ_of_le hn))
        ·cases sX
      have hE:τ=(ek P N Φ ops σ o some).getD σ:=by rw[h2];rfl
      refine Xe (W:=waits ops i ops.size 0 0) ho (λj C D hj=>?_) (λσ=>(ek P N Φ ops σ o some).getD σ)
       (λL' E=>((ek P N Φ ops E o some).isSome=true/\WI E p o=true/\(qJ Φ E o).all (yN E p)=true/\yM E o=true)/\(∀ j,L'.testBit j=false->L.testBit j=false)/\
        ∀j C,ops[j]?=some C->j≠i->L'.testBit j=false->(waits ops i ops.size 0 0).testBit j=false->ad2 ops p E C)
       (λL' E hI=>?_) (λL' E j C tH hI D O U Y jn=>?_) f L σ wP hi ⟨⟨by rw[h2];rfl,c4,c5,c6⟩,λ_ h=>h,wB⟩ (by rw[<-hE];exact JO eE f _ τ k (PY h1))
      ·have dQ:=(jU.1 D).1;rcases wN j (by omega) (by omega)with e | e | e | e
       ·subst e;have:=JP j hj;rw[AS]at this;simp at this
       ·rw[wP j hj]at e;cases e
       ·exact adZ D e.2
       ·rw[hj]at e;cases e.1
      ·obtain⟨z,hz⟩:=Option.isSome_iff_exists.1 hI.1.1;rw[hz];rfl
      ·obtain⟨⟨i1,i2,i3,i6⟩,i4,i5⟩:=hI;have ap:=(C0 j C D O (i4 j U) Y).2;obtain⟨m1,m2,m3,m4⟩:=i5 j C D O U Y;obtain⟨a1,a2,a3⟩:=Oper.apart_spec ap;obtain⟨z,hz⟩:=Option.isSome_iff_exists.1 i1;have hEz:(ek P N Φ ops E o some).getD E=z:=by rw[hz];rfl
       have jn:ek P N Φ ops z C some=some tH:=by rw[<-hEz];exact jn
       have ad7:∀ t,(E.t t).gB=true->o.dst≠some t->z.t t=E.t t:=by
        intro t ht hd;unfold ek at hz;split at hz
        ·exact arG eE c1 i6 hz ht hd
        ·obtain⟨g1,_⟩:=tV hz;injection g1 with g1;rw[<-g1];cases AV:o.dst with
         |none=>rfl
         |some d=>exact cN _ _ _ (by rintro rfl;exact hd AV)
        ·cases hz
       have arQ:∀ g c t,C.guard=some (g,c)->(ops[g]?).bind (·.dst)=some t->(E.t t).gB=true\/E.t t = .skip:=by
        intro g c t hg ht;unfold gG at m2;rw[hg]at m2;simp only[ht]at m2;split at m2
        next b hb=>left;rw[hb];rfl
        next hb=>exact .inr hb
        ·cases m2
       have yS:∀ g c t,C.guard=some (g,c)->(ops[g]?).bind (·.dst)=some t->o.dst≠some t:=by
        intro g c t hg ht hd;refine a1 t hd (List.mem_append_right _ ?_);rw[hg];simp only[ht];simp
       have Xy:gG z ops C=some true:=by
        rw[AR (σ:=E) λg c t hg ht=>?_]
        ·exact m2
        ·rcases arQ g c t hg ht with h | h
         ·exact ad7 t h (yS g c t hg ht)
         ·exfalso;unfold gG at m2;rw[hg]at m2;simp only[ht,h]at m2;cases m2
       have arR:∀ y∈C.op.operands,aL z y=aL E y:=by
        intro y I;cases y with
        | tmp t=>
         refine ad7 t (m3 _ I).1 λhd=>?_
         exact a1 t hd (List.mem_append_left _ (List.mem_filterMap.2 ⟨.tmp t,by simpa using I,rfl⟩))
        |_=>rfl
       obtain⟨e,x,u,hd,he,hx,hu,AU,qL⟩:=PF m1 Xy jn;have C2:=hpe j C e D O (i4 j U) Y hd;have sG:=a3 e hd;have qK:∀ y∈o.op.operands,(aL E y).nr p=true/\y ≠ .tmp e:=by
        intro y I;refine⟨ck.1 i2 y (by simpa using I),?_⟩;rintro rfl;exact sG (List.mem_append_left _ (List.mem_filterMap.2 ⟨.tmp e,by simpa using I,rfl⟩))
       have AV:o.dst≠some e:=λh=>a2 e h hd
       have FI:gG (cM e x u E) ops o=gG E ops o:=by
        have hw:∃ b,gG E ops o=some b:=by
         unfold ek at hz;cases hw:gG E ops o with
         |none=>rw[hw]at hz;cases hz
         |some b=>exact⟨b,rfl⟩
        obtain⟨b,hw⟩:=hw
        refine AR λg c t' Ad ht'=>?_
        rw[sW,bk ?_]
        ·exact A.CO (p:=p) (pb:=p) (W3 hw g c t' Ad ht') C2 C2
        ·rintro rfl;refine sG (List.mem_append_right _ ?_);rw[Ad];simp only[ht'];simp
       have sV:ek P N Φ ops (cM e x u E) o some=some (cM e x u z):=by
        unfold ek at hz ⊢;rw[FI];split at hz
        next hw=>exact arF eE hx hu he C2 JL c1 i6 AV qK (λn hn=>ck.1 i3 n hn) hz
        next hw=>obtain⟨g1,g2⟩:=tV hz;injection g1 with g1;refine((g2 (cM e x u E)).at_ _).trans ?_;rw[<-g1,arh AV rfl]
        ·cases hz
       have Xz:∀y∈o.op.operands,aL (cM e x u E) y=aL E y:=λy I=>yR (qK y I).1 C2 (qK y I).2
       have hL:∀ k,(L' ||| 2 ^ j).testBit k=false->L'.testBit k=false/\k≠j:=by
        intro k hk;rw[AS,o5]at hk;refine⟨hk.1,?_⟩;rintro rfl;simp at hk
       refine⟨cM e x u E,qL E m2 (λy I=>(arR y I).symm),?_,⟨by rw[sV];rfl,?_,?_,?_⟩,λk hk=>i4 k (hL k hk).1,λk Xx hk hki hkL vf=>?_⟩
       ·rw[AU,sV];rfl
       ·unfold WI;rw[ck];intro y I;rw[Xz y (by simpa using I)];exact(qK y (by simpa using I)).1
       ·have XA:qJ Φ (cM e x u E) o=qJ Φ E o:=by
         unfold qJ;split
         ·rename_i f' args iW AX;split
          ·refine JG _ _ λy I=>Xz y ?_
           rw[AX];simp only[Op.operands,Call.operands];simp only[Array.mem_append]
           first
            |exact .inr (by simpa using I)
            |exact .inl (by simpa using I)
          ·rfl
         ·rfl
        rw[XA,ck];intro n hn;have h3:=ck.1 i3 n hn;have cx:n≠e:=by
         rintro rfl;have yP:p n=false:=by
          unfold qJ at hn;split at hn
          ·rename_i f' args iW AX;split at hn
           ·refine JN _ _ (λy I=>(qK y ?_).1) n hn
            rw[AX];simp only[Op.operands,Call.operands];simp only[Array.mem_append]
            first
             |exact .inr (by simpa using I)
             |exact .inl (by simpa using I)
           ·cases hn
          ·cases hn
         rw[C2]at yP;cases yP
        unfold yN at h3 ⊢;rw[qM,bk cx];cases hm:E.m n with
        |none=>rfl
        | some y=>
         cases y with
         |sl=>rfl
         |mp=>rfl
         |gh=>rfl
         | aB cs=>
          rw[hm]at h3;simp only[Option.map_some,aX.JB,sB.AK h3 C2];exact h3
       ·unfold yM at i6 ⊢;split
        next ty t y AX=>rw[AX]at i6;have e1:(cM e x u E).t t=E.t t:=Xz (.tmp t) (by rw[AX];simp[Op.operands]);rw[e1];exact i6
        ·rfl
       ·obtain⟨n1,n2,n3,n4⟩:=i5 k Xx hk hki (hL k hkL).1 vf;have arS:∀ t,p t=false->t≠e:=by rintro t ht rfl;rw[C2]at ht;cases ht
        have ad8:∀ t,(E.t t).gB=true->p t=false->(cM e x u E).t t=E.t t:=by
         intro t ht htp;rw[sW,bk (arS t htp)];exact A.PX ht e
        refine⟨n1,?_,λy I=>?_,n4⟩
        ·rw[AR (σ:=E) λg c t hg ht=>?_]
         ·exact n2
         ·unfold gG at n2;rw[hg]at n2;simp only[ht]at n2;split at n2
          next b hb=>exact ad8 t (by rw[hb];rfl) (n4 g c t hg ht)
          next hb=>cases n2
          ·cases n2
        ·refine⟨?_,(n3 y I).2⟩;cases y with
         | tmp t=>
          show ((cM e x u E).t t).gB=true;rw[ad8 t (n3 _ I).1 ((n3 _ I).2 t rfl)];exact(n3 _ I).1
         |const v=>exact(n3 _ I).1
         |global g=>exact(n3 _ I).1
         |func f=>exact(n3 _ I).1
     ·cases h
    ·split at h
     ·rename_i i hf;have hc:=List.find?_some hf;have hm:=List.mem_of_find?_eq_some hf;have hi:=C1.1 hm;split at h
      next o ho=>obtain⟨τ,h1,h2⟩:=W2 eE h;exact arO eE ho hi hc h2 (JO eE f _ τ k (PY h1))
      ·cases h
     ·cases h
def FJ{b:Bool}(h:gG σ ops o=some b)(hR:Rl w0 N aj ρ σ a w):Region.wanted o (yielded ops a.tmps)=b:=by
 unfold gG at h;split at h
 next I=>injection h with h;subst h;simp[Region.wanted,I]
 ·rename_i j want I;split at h
  ·rename_i t O;have D:=hR.tmp t;rw[jv]at D;split at h
   ·rename_i c U;rw[U]at D;have E:=D.2.Ae;injection h with h;subst h;cases C:a.tmps[t]? with
    |none=>rw[C]at E;cases E
    | some v=>
     rw[C]at E;subst E;simp only[Region.wanted,I,yielded,O,Option.bind_some,C];simp_all
   ·rename_i U;rw[U]at D;injection h with h;subst h;cases C:a.tmps[t]? with
    |none=>simp[Region.wanted,I,yielded,O,C]
    | some v=>
     rw[C]at D;have E:=D;subst E;simp only[Region.wanted,I,yielded,O,Option.bind_some,C,undef];simp_all
   ·cases h
  ·cases h
structure vg (ops:Array Oper) (ad9:Array Bool) (L:Nat):Prop where
 size:ad9.size=ops.size
 bit:∀j,j<ops.size->ad9[j]?=some (L.testBit j)
 out:∀j,ops.size<=j->L.testBit j=false
def vg.aea{C:Array Bool}{L:Nat}(h:vg ops C L)(j:Nat):C.getD j false=L.testBit j:=by
 rw[jv];by_cases D:j<ops.size
 ·rw[h.bit j D];rfl
 ·rw[h.out j (by omega),Array.getElem?_eq_none (by rw[h.size];omega)];rfl
def vg.ready{U:Array Bool}{L:Nat}(h:vg ops U L)(j:Nat):j∈Region.ready .any ops U ↔ ng ops L j=true:=by
 rw[mem_ready,JJ];constructor
 ·rintro⟨D,o,C,E⟩;have I:=(jU.1 C).1;rw[jv,h.bit j I]at D;exact⟨D,o,C,λe O hb=>by rw[<-h.aea];exact E e O hb⟩
 ·rintro⟨D,o,C,E⟩;have I:=(jU.1 C).1;exact⟨by rw[jv,h.bit j I];exact D,o,C,λe O hb=>by rw[h.aea];exact E e O hb⟩
def vg.set{D:Array Bool}{L i:Nat}(h:vg ops D L)(hi:i<ops.size):vg ops (D.setIfInBounds i true) (L ||| 2 ^ i):=by
 refine⟨by simp[h.size],λj C=>?_,λj C=>?_⟩
 ·rw[AS];by_cases E:i=j
  ·subst E;rw[Array.getElem?_setIfInBounds_self_of_lt (by rw[h.size];exact hi)];simp
  ·rw[Array.getElem?_setIfInBounds_ne E,h.bit j C];simp_all
 ·rw[AS,h.out j C]
  grind
def vg.start:vg ops (Array.replicate ops.size false) 0:=
 ⟨by simp,λj C=>by simp[C],λj _=>Nat.zero_testBit j⟩
def arT(eE:gF P Φ){k:S -> ah X}{i:Nat}(hi:ops[i]?=some o)(h:ek P N Φ ops σ o k=some r):∃ E,k E=some r /\ ∀ a w (K:Act -> World -> Prop) (Q:Exit -> Act -> World -> Prop),R w0 N σ a w -> (∀ U w',R w0 N E U w' -> K U w') -> wpOp P ops Q i K a w:=by
 unfold ek at h;split at h
 ·rename_i I;obtain⟨E,h1,wQ⟩:=WQ eE h
  refine⟨E,h1,λa w K Q hR D=>?_⟩
  obtain⟨aj,ρ,C⟩:=hR;unfold wpOp;rw[hi];simp[FJ I C];exact .inl (wQ a w K Q ⟨aj,ρ,C⟩ D)
 ·rename_i I;unfold iU at h;split at h
  ·rename_i O
   refine⟨σ,h,λa w K Q hR D=>?_⟩
   obtain⟨aj,ρ,C⟩:=hR;unfold wpOp;rw[hi];simp[FJ I C,O];exact D _ _ ⟨aj,ρ,C⟩
  ·rename_i d O;cases Y:Nat.blt d N with
   |false=>simp_all
   | true=>
    rw[Y,aq]at h
    refine⟨_,h,λa w K Q hR D=>?_⟩
    obtain⟨aj,ρ,C⟩:=hR;unfold wpOp;rw[hi];simp only[FJ I C,O];exact D _ _ ⟨aj,ρ,C.set rfl (by have:=dj Y;omega)⟩
 ·cases h
def aeb(Y:gF P Φ){K:S -> Prop}{Q:Exit -> Act -> World -> Prop}(I:∀ O,K O -> ∀ a w,R w0 N O a w -> Q .normal a w):
  ∀(f L:Nat) (σ:S) (E:Array Bool),Any P N Φ ops K f L σ -> vg ops E L -> ∀a w,R w0 N σ a w -> wpAny P .any ops Q f E a w
 | 0,L,σ,E,h,D,a,w,hR=>by
  refine⟨List.eq_nil_iff_forall_not_mem.2 λj C=>?_,I σ h.2 a w hR⟩
  rw[D.ready,h.1]at C;cases C
 | f+1,L,σ,E,h,D,a,w,hR=>by
  refine⟨λhr=>I σ (h.1 λj=>?_) a w hR,λj C=>?_⟩
  ·cases C:ng ops L j with
   |false=>rfl
   | true=>
    have:=(D.ready j).2 C;simp_all
  ·have qw:=(D.ready j).1 C;obtain⟨o,O,ho,hd,hA⟩:=h.2 j qw;obtain⟨tH,U,hw⟩:=arT Y ho hd;injection U with U;subst U;exact hw a w _ Q hR λa' w' fz=>aeb Y I f _ _ _ hA (D.set (ad1 qw)) a' w' fz
def R.drawn(hR:R w0 N σ a w):R w0 N σ a { w with drawn:=w.drawn+1 }:=by
 obtain⟨aj,ρ,h⟩:=hR;exact⟨aj,ρ,h.grow ⟨rfl,rfl,rfl,dc _,λ_ _=>rfl⟩ (λ_ _=>rfl) (λb k hb hl=>absurd (h.dI b k hl).2.1 (Nat.not_lt.2 hb))⟩
theorem arU[Inhabited Wd](C:gF P Φ){id:Nat}{k:S->ah X}(E:P.follows .mixedOrders=true)(h:sQ P N Φ ops ops.size 0 σ k=some r){Q:Exit->Act->World->Prop}(I:∀ D,k D=some r->∀ a w,R w0 N D a w->Q .normal a w)(hR:R w0 N σ a w):
  (Code.region id ops true).wp P Q a w:=
 wp_region_any E (aeb C I _ _ _ _ (JO C _ _ _ _ h) vg.start a _ hR.drawn)
/-! Values. -/
end
end Go.Proofs.YtdfkhfiglknaoaaGreat
