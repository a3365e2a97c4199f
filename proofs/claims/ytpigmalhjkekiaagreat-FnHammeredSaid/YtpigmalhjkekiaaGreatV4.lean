/-
  Running the program over pure contents, and that it follows (part 4). Nothing here is a claim.
-/
import Derived.Test.YtpigmalhjkekiaaGreatV3
set_option linter.unusedSimpArgs false
namespace Go.Proofs.YtpigmalhjkekiaaGreat
set_option linter.defProp false
open Go.RowKit
set_option linter.unusedVariables false
def gk(σ:S):aj Tmp->A->S
 |none,_=>σ
 |some d,v=>σ.set d v
section
variable {P:Program} {w w':World} {w0:Wd} {B N:Nat} {af aA:bk} {ρ ρ':Nat->Loc} {σ:S} {a:Act} {X:Type} {d:Nat} {r:X} {o:Oper} {Φ:ef} {p pb:Nat->Bool} {e:Nat} {x:aS} {u:A} {ops:Array Oper}
def sS{C:aj Tmp}{x:A}{k:S -> aj X}(h:gW N σ C x k=some r):k (gk σ C x)=some r /\ ∀ (σ2:S),mg (λX k=>gW (X:=X) N σ2 C x k) (gk σ2 C x):=by
 unfold gW at h;split at h
 ·exact⟨h,λ_ X k=>rfl⟩
 ·rename_i d;cases hN:Nat.blt d N with
  |false=>simp_all
  |true=>rw[hN]at h;exact⟨h,λ_ X k=>by simp[gW,hN];rfl⟩
def GQ{f:Nat}{c:jn}(C:fK P Φ)(h:Φ f=some (.p c)):iO P f c:=(C f _ h).2
def YD{f:Nat}{c:jn}(C:fK P Φ)(h:Φ f=some (.q c)):iO P f c:=(C f _ h).2
def ajq{f:Nat}{C:aj Tmp}{c:uq}{xs:aa A}(D:fK P Φ)(h:Φ f=some (.i c)):cw λX k=>Gy (X:=X) N σ C c xs k:=λX Y k g=>
 ((D f _ h).2.1 N σ xs X Y _ g).trans (bz (c.run Y N σ xs) (funext λE=>funext λy=>xH X Y k g))
def YE(C:fK P Φ):cw λX k=>dA (X:=X) P N Φ σ o k:=λX Y k g=>by
 unfold dA
 refine c9 ((RD.comp λv=>xH) X Y k g) ?_
 unfold ir gF qY zx zb xJ yX
 repeat' first
  |rfl
  |exact K0 _ _ _ _
  |exact X6 _ _ _ _
  |exact aiI _ _ _ _
  |exact X9 (GQ C (by assumption)) DK _ _ _ _
  |exact Rk _ _ _ _
  |exact aiN _ _ _ _
  |exact aiK _ _ _ _
  |exact ajq C (by assumption) _ _ _ _
  |exact aie (λ_=>Rk) _ _ _ _
  |exact X9 (YD C (by assumption)) X8 _ _ _ _
  |exact aiU _ _ _ _
  |exact aiG _ _ _ _
  |exact ajb _ _ _ _
  |exact ait _ _ _ _
  |exact ai0 _ _ _ _
  |exact(ai1.comp λv=>xH) X Y k g
  |exact ai2 _ _ _ _
  |exact xH _ _ _ _
  |exact(ahb.comp λv=>xH) X Y k g
  |refine c9 ?_ ?_
  |split
def gP.bp{σ C:S}(h:gP p pb σ C){t r j:Nat}(D:σ.t t = .aL r j)(E:pb r=false):C.t t = .aL r j:=by
 rw[<-D];exact h.t (by rw[D];simpa [A.n7,A.fr,uk]using E)
def jN(p:Nat->Bool):A->Prop
 |.aL r _=>p r=true
 |.ptr _=>False
 |_=>True
def gP.st{D:Nat->Bool}{σ C:S}(h:gP p pb σ C){t:Nat}(E:jN D (σ.t t)):jN D (C.t t):=by
 rcases h.nw t with e|e
 ·rw[e];exact E
 ·revert e;cases C.t t<;>simp[A.xP,jN]
def gP.RO{σ C:S}(h:gP p pb σ C){x:Operand}(D:(aK σ x).n7 p pb=true):aK C x=aK σ x:=by
 cases x with
 |tmp t=>exact h.t D
 |const v=>rfl
 |global g=>rfl
 |func f=>rfl
def gP.val{σ T:S}(h:gP p pb σ T){D:Op}{v:A}(hd:mg (λX k=>mw (X:=X) P σ D k) v)(O:∀ y∈D.operands,(aK σ y).n7 p pb=true)(hv:v.n7 p pb=true)(I:∀ t y r j,D = .load t y->aK σ y = .aL r j->p r=false):mg (λX k=>mw (X:=X) P T D k) v:=by
 intro X k
 refine(Yu D (λy E=>⟨h.RO (O y E),λq e X k=>Lo h.sl q k (YA (O y E) e)⟩) (λt y e k=>?_) k).trans (hd X k)
 subst e;have hd:mg (λX k=>nQ (X:=X) P σ t (aK σ y) k) v:=hd;have E:=O y (by simp[Op.operands]);have I:=λr j=>I t y r j rfl
 generalize aK σ y=u at hd E I;by_cases U:∃r j,u = .aL r j
 ·obtain⟨r,j,rfl⟩:=U;have C:nQ P σ t (.aL r j) some=some v:=hd A some;rw[hd.at_ k];simp only[nQ]at C ⊢;split at C
  ·cases C
  ·split at C
   next cs Y=>obtain⟨f,Z,e2⟩:=h.aB r (I r j rfl) cs Y;obtain⟨z,⟨⟩,e4⟩:=KZ.lM C;rw[Z];simp only[];rw[<-List.map_drop,<-List.map_take,List.map_congr_left λl hl=>e2 l (ajn C hv l hl),List.map_id'];exact e4.at_ k
   ·cases C
 ·exact Sm.load (λq e X k=>Lo h.sl q k (YA E e)) (λr j e=>absurd ⟨r,j,e⟩ U) k
def RQ:∀ (xs:aa V) (c:Nat) (σ:S),(∀ n,c <= n -> p n=true/\pb n=true) -> gP p pb σ (mh c σ xs)
 |[],c,σ,h=>.refl σ
 | x :: xs,c,σ,h=>by
  simp[mh];cases C:x.aG with
  |true=>exact RQ xs _ σ (λn hn=>h n (by omega))
  |false=>exact .trans (.root c (.sl x) (h c (dB _)).1 (h c (dB _)).2 (.refl σ)) (RQ xs (c+1) _ (λn hn=>h n (by omega)))
def GR:∀ (ps:aa Pt) (c:Nat) (σ:S),(∀ n,c<=n->p n=true/\pb n=true)->gP p pb σ (nX c σ ps)
 |[],c,σ,h=>.refl σ
 |q::ps,c,σ,h=>(RQ q.2 c σ h).trans (GR ps _ _ (λn hn=>h n (by omega)))
def zE{σ2:S}{ops:Array Oper}(h:∀ g b t,o.guard=some (g,b) -> (ops[g]?).bind (·.dst)=some t -> σ2.t t=σ.t t):fR σ2 ops o=fR σ ops o:=by
 unfold fR
 grind
def rD(p pb:Nat->Bool)(x:A):Prop:=∀r,x = .lf (.own [r])->p r=true/\pb r=true
def gP.tg{C D:Nat->Bool}{σ E:S}(h:gP p pb σ E){t:Nat}(I:rD C D (σ.t t)):rD C D (E.t t):=by
 rcases h.nw t with e|e
 ·rw[e];exact I
 ·intro r O;rw[O]at e;cases e
structure rE (P:Program) (N:Nat) (Φ:ef) (o:Oper) (p pb:Nat->Bool) (qd τ:S) where
 G:S->S
 u:A
 eq:τ=gk (G qd) o.dst u
 run:∀σ2:S,(∀x∈o.op.operands,aK σ2 x=aK qd x)->σ2.m=qd.m->dA P N Φ σ2 o some=some (gk (G σ2) o.dst u)
 grow:∀σ,gP p pb σ (G σ)
 set:∀(σ:S) d v,(A.n7 p pb v)=true->G (σ.set d v)=(G σ).set d v
 bp:isApp o=false->∀(σ:S) t r j,σ.t t = .aL r j->eP o r=false->(G σ).t t = .aL r j
theorem rE.new{C:S}{d:Nat}(hd:o.dst=some d)(hp:p d=true/\pb d=true)(I:eP o d=true)(x:aS)(u:A){D:S}(e:D=((C.drop d).root d x).set d u)
  (O:∀σ2:S,(∀x∈o.op.operands,aK σ2 x=aK C x)->dA P N Φ σ2 o some=some (((σ2.drop d).root d x).set d u)):Nonempty (rE P N Φ o p pb C D):=
 ⟨{ G:=λσ=>(σ.drop d).root d x,u:=u,eq:=by rw[hd];exact e,run:=λσ2 h _=>by rw[O σ2 h,hd];rfl,grow:=λσ=>.root d x hp.1 hp.2 (.refl σ),
    set:=λσ e v hv=>by rw[S.drop_set d (A.Bv hv hp.1 hp.2)];rfl
    bp:=λ_ σ t r j T E=>by
     show A.drop d (σ.t t)=_;rw[T];exact A.oF (by simp only[A.fr,wW];rw[oH (by rintro rfl;rw[I]at E;cases E)];rfl) }⟩
def RR{d:Nat}{C:fV}{D:S}(h:ni σ d C some=some D):∃ (ps:aa Pt) (u:A),∀ σ,ni σ d C some=some ((nX (1000000000100000+1000*d) σ ps).set d u):=by
 unfold ni at h ⊢;split at h
 ·rename_i q;split at h
  next y E=>exact⟨[q],y,λσ=>rfl⟩
  ·cases h
 ·exact⟨_,_,λσ=>rfl⟩
theorem YF{f d:Nat}{c:jn}{O:S}{ev:S->(X:Type)->(aa Pt->aj X)->aj X}(hd:o.dst=some d)(D:∀ n,1000000000100000+1000*d<=n->eP o n=true)(hp:∀ n,eP o n=true->p n=true/\pb n=true)(U:iO P f c)(hn:cw (ev σ))
  (Y:∀σ2:S,(∀x∈o.op.operands,aK σ2 x=aK σ x)->σ2.m=σ.m->∀(X:Type) (k:aa Pt->aj X),ev σ2 X k=ev σ X k) (Z:∀σ2,dA P N Φ σ2 o some=sI N σ2 d c (ev σ2 S) some) (h:sI N σ d c (ev σ S) some=some O):Nonempty (rE P N Φ o p pb σ O):=by
 obtain⟨res,sD,C,E,h3⟩:=K2 U hn h;injection E with E;subst E;obtain⟨ps,u,T⟩:=RR C;have I:∀n,1000000000100000+1000*d<=n->p n=true/\pb n=true:=λn hn=>hp n (D n hn)
 rw[T]at C;injection C with C;exact⟨{ G:=λσ=>nX (1000000000100000+1000*d) σ ps,u:=u,eq:=by rw[hd];exact C.symm,run:=λσ2 sU hm=>by rw[Z,hd];exact(h3 σ2 _ _ (Y σ2 sU hm) (T σ2)).at_ _,grow:=λσ=>GR ps _ σ I,set:=λσ e v hv=>Rb v ps _ σ λn hn=>A.Bv hv (I n hn).1 (I n hn).2,bp:=λ_ σ t r j ht hr=>(GR (p:=eP o) (pb:=eP o) ps _ σ (λn hn=>⟨D n hn,D n hn⟩)).bp ht hr }⟩
theorem ajr[Inhabited Wd](dN:fK P Φ){τ:S}(D:Lg Φ o.op=true)(hp:∀ n,eP o n=true->p n=true/\pb n=true)(h:dA P N Φ σ o some=some τ):Nonempty (rE P N Φ o p pb σ τ):=by
 have h0:=h;unfold dA at h;cases hv:fL o.op with
 | true=>
  rw[hv,au]at h;obtain⟨v,E,hd,_⟩:=RE (w0:=default) (N:=N) h;obtain⟨O,h3⟩:=sS E;injection O with O
  refine⟨{ G:=λσ=>σ,u:=v,eq:=O.symm,run:=λσ2 C Z=>?_,grow:=.refl,set:=λ_ _ _ _=>rfl,bp:=λ_ _ _ _ _ h _=>h }⟩
  unfold dA;rw[hv,au,Yv o.op Z C];refine(hd.at_ _).trans ?_;exact(h3 σ2).at_ _
 | false=>
  rw[hv,ax]at h;have Y:∀σ2,dA P N Φ σ2 o some=ir P N Φ σ2 o some:=λσ2=>by unfold dA;rw[hv,ax]
  unfold ir at h Y;unfold Lg at D;rw[hv,Bool.false_or]at D;split at h
  ·rename_i e C;obtain⟨d,hd,h⟩:=jM h;obtain⟨x,y,E,_,O⟩:=ais h;injection E with E;have T:eP o d=true:=by unfold eP;rw[hd,C];exact Nat.beq_refl d
   refine rE.new hd (hp d T) T x y E.symm λσ2 _=>?_
   rw[Y,C];simp only[gF,hd];exact(O σ2).at_ _
  ·rename_i e x C;obtain⟨d,hd,h⟩:=jM h;obtain⟨y,u,E,O⟩:=aix h;injection E with E;have T:eP o d=true:=by unfold eP;rw[hd,C];exact Nat.beq_refl d
   refine rE.new hd (hp d T) T _ _ E.symm λσ2 I=>?_
   rw[Y,C];simp only[gF,hd];rw[I x (by rw[C];simp[Op.operands])];exact(O σ2).at_ _
  ·rename_i t len parts C;obtain⟨d,hd,h⟩:=jM h;have T:eP o d=true:=by unfold eP;rw[hd,C];exact Nat.beq_refl d
   cases hn:qe t with
   | true=>
    rw[hn,au]at h;obtain⟨y,u,E,O⟩:=aiA h;injection E with E
    refine rE.new hd (hp d T) T _ _ E.symm λσ2 I=>?_
    rw[Y,C];simp only[gF,hd,hn,au]
    refine(O σ2 λq hq=>I _ ?_).at_ _
    rw[C];simp only[Op.operands];exact List.mem_toArray.2 (List.mem_map_of_mem (f:=(·.2)) hq)
   | false=>
    rw[hn,ax]at h;obtain⟨y,E,O⟩:=X4 h;injection E with E
    refine rE.new hd (hp d T) T _ _ E.symm λσ2 I=>?_
    rw[Y,C];simp only[gF,hd,hn,ax]
    refine(O σ2 λq hq=>I _ ?_).at_ _
    rw[C];simp only[Op.operands];exact List.mem_toArray.2 (List.mem_map_of_mem (f:=(·.2)) hq)
  next t x y C=>rw[C]at D;cases D
  ·rename_i t l c C;obtain⟨d,hd,h⟩:=jM h;obtain⟨y,E,O⟩:=X3 h;injection E with E;have T:eP o d=true:=by unfold eP;rw[hd,C];exact Nat.beq_refl d
   refine rE.new hd (hp d T) T _ _ E.symm λσ2 I=>?_
   rw[Y,C];simp only[gF,hd];rw[I l (by rw[C];simp[Op.operands]),I c (by rw[C];simp[Op.operands])];exact(O σ2).at_ _
  ·rename_i f args jJ C;have YG:∀ σ2:S,(∀ x∈o.op.operands,aK σ2 x=aK σ x)->∀ x∈args.toList,aK σ2 x=aK σ x:=λσ2 I x hx=>I x (by
    rw[C];simp only[Op.operands,Call.operands,Array.mem_append]
    first
     |exact .inr (by simpa using hx)
     |exact .inl (by simpa using hx))
   have nm:∀d,o.dst=some d->∀n,1000000000100000+1000*d<=n->eP o n=true:=λd hd n hn=>by unfold eP;rw[hd,C];exact jj hn
   split at h
   next c U=>obtain⟨d,hd,h⟩:=jM h;exact YF hd (nm d hd) hp (GQ dN U) (ev:=λσ X k=>sG σ args.toList k) DK (λσ2 I Z X k=>ajg Z _ _ (YG σ2 I)) (λσ2=>by rw[Y,C];simp only[U,gF,hd];rfl) h
   iterate 5 (rename_i c U;rw[C]at D;simp[U]at D)
   next c U=>obtain⟨d,hd,h⟩:=jM h;exact YF hd (nm d hd) hp (YD dN U) (ev:=λσ X k=>Bk σ args.toList k) X8 (λσ2 I Z X k=>aji Z _ _ (YG σ2 I)) (λσ2=>by rw[Y,C];simp only[U,gF,hd];rfl) h
   next c U=>rw[C]at D;simp[U]at D
   ·cases h
  next x y t t' C=>rw[C]at D;cases D
  next t C=>rw[C]at D;cases D
  next t x i C=>rw[C]at D;cases D
  next t x i v C=>rw[C]at D;cases D
  next t args jJ C=>rw[C]at D;cases D
  next f Yt C=>rw[C]at D;cases D
  next x t C=>rw[C]at D;cases D
  ·cases h
def YH(C:fK P Φ){ops:Array Oper}:cw λX k=>dx (X:=X) P N Φ ops σ o k:=λX Y k g=>by
 unfold dx;split
 ·exact YE C _ _ _ _
 ·exact xH _ _ _ _
 ·rfl
theorem RS[Inhabited Wd](D:fK P Φ){ops:Array Oper}{k:S->aj X}(h:dx P N Φ ops σ o k=some r):∃ C,k C=some r/\dx P N Φ ops σ o some=some C:=
 let ⟨C,E,I⟩:=(YH D).lM h
 ⟨C,E,I S some⟩
def RT{ops:Array Oper}{b:Bool}(h:fR σ ops o=some b):∀ g c t,o.guard=some (g,c) -> (ops[g]?).bind (·.dst)=some t -> (σ.t t).n7 p pb=true:=by
 intro g c t hg C;unfold fR at h;rw[hg]at h;simp[C]at h;split at h
 next hb=>rw[hb];rfl
 next hb=>rw[hb];rfl
 ·cases h
def DP{ops:Array Oper}{d:Nat}(h:d ∉ o.looksAt ops)(v:A){x:Operand}(C:x∈o.op.operands):aK (σ.set d v) x=aK σ x:=by
 cases x with
 | tmp t=>
  have:t≠d:=by
   rintro rfl;exact h (List.mem_append_left _ (List.mem_filterMap.2 ⟨.tmp t,by simpa using C,rfl⟩))
  exact cr _ _ _ this
 |_=>rfl
def RU{ops:Array Oper}{d:Nat}(h:d ∉ o.looksAt ops)(v:A):∀ g b t,o.guard=some (g,b) -> (ops[g]?).bind (·.dst)=some t -> (σ.set d v).t t=σ.t t:=by
 intro g b t hg C;have:t≠d:=by
  rintro rfl;refine h (List.mem_append_right _ ?_);simp_all
 exact cr _ _ _ this
def mC(P:Program)(ops:Array Oper)(C:Oper)(p pb:Nat->Bool)(v:A)(σ:S):Prop:=
 (fR σ ops C=some true/\fL C.op=true/\mg (λX k=>mw (X:=X) P σ C.op k) v/\(∀y∈C.op.operands,(aK σ y).n7 p pb=true)/\v.n7 p pb=true/\∀t y r j,C.op = .load t y->aK σ y = .aL r j->p r=false)\/(fR σ ops C=some false/\v = .skip)
def mC.grow{ops:Array Oper}{T:Oper}{v:A}(h:mC P ops T p pb v σ){U:S}(hg:gP p pb σ U):mC P ops T p pb v U:=by
 rcases h with ⟨C,E,h3,D,Y,Z⟩|⟨C,E⟩
 ·refine .inl ⟨?_,E,hg.val h3 D Y Z,λy hy=>?_,Y,λt y r j e h=>?_⟩
  ·rw[zE λg b t I O=>hg.t (RT C g b t I O)];exact C
  ·rw[hg.RO (D y hy)];exact D y hy
  ·exact Z t y r j e (by rw[<-hg.RO (D y (by rw[e];simp[Op.operands]))];exact h)
 ·refine .inr ⟨?_,E⟩;rw[zE λg b t I O=>hg.t (RT C g b t I O)];exact C
def mC.set{ops:Array Oper}{C:Oper}{v u:A}(h:mC P ops C p pb v σ){d:Nat}(hd:d ∉ C.looksAt ops):mC P ops C p pb v (σ.set d u):=by
 rcases h with ⟨D,E,O,T,U,Y⟩|⟨D,E⟩
 ·refine .inl ⟨?_,E,λX k=>?_,λy I=>?_,U,λt y r j e h=>?_⟩
  ·rw[zE (RU hd u)];exact D
  ·exact(Yv (σ:=σ) (σ2:=σ.set d u) C.op rfl (λx Z=>DP hd u Z) k).trans (O.at_ k)
  ·rw[DP hd u I];exact T y I
  ·exact Y t y r j e (by rw[<-DP hd u (by rw[e];simp[Op.operands])];exact h)
 ·refine .inr ⟨?_,E⟩;rw[zE (RU hd u)];exact D
def mC.put{ops:Array Oper}{C:Oper}{v u:A}(h:mC P ops C p pb v σ){D:aj Tmp}(hd:∀ d,D=some d->d ∉ C.looksAt ops):mC P ops C p pb v (gk σ D u):=by
 cases D with
 |none=>exact h
 |some d=>exact h.set (hd d rfl)
def mC.nr{ops:Array Oper}{C:Oper}{v:A}(h:mC P ops C p pb v σ):v.n7 p pb=true:=by
 rcases h with ⟨_,_,_,_,D,_⟩|⟨_,E⟩
 ·exact D
 ·rw[E];rfl
def YI{x y:aj Tmp}(v u:A)(h:∀ d,x=some d->y≠some d):gk (gk σ x v) y u=gk (gk σ y u) x v:=by
 cases x with
 |none=>rfl
 | some d=>cases y with
  |none=>rfl
  |some e=>exact S.set_set (λC=>h d rfl (bz some C)) v u
def ajs(x:aj Tmp)(v:A):(gk σ x v).m=σ.m:=by cases x<;>rfl
def Lp{ops:Array Oper}{C:aj Tmp}(h:∀ d,C=some d->d ∉ o.looksAt ops)(v:A){x:Operand}(D:x∈o.op.operands):aK (gk σ C v) x=aK σ x:=by
 cases C with
 |none=>rfl
 |some d=>exact DP (h d rfl) v D
def ajt{ops:Array Oper}{C:aj Tmp}(h:∀ d,C=some d->d ∉ o.looksAt ops)(v:A):fR (gk σ C v) ops o=fR σ ops o:=by
 cases C with
 |none=>rfl
 |some d=>exact zE (RU (h d rfl) v)
/-! Calls that write blocks alone. -/
def YJ{σ2:S}(C:σ2.m=σ.m)(ns:aa Nat):∀ (xs:aa Lf) (k:aa V -> aj X),sK σ2 ns xs k=sK σ ns xs k
 |[],k=>rfl
 | x :: xs,k=>by
  simp[sK,RH C];congr 2;funext y;exact YJ C ns xs _
def aju{σ2:S}(C:σ2.m=σ.m)(ns:aa Nat)(x:A)(k:Pt->aj X):rz σ2 ns x k=rz σ ns x k:=by
 unfold rz;split<;>simp only[YJ C,C]
def ajv{σ2:S}(C:σ2.m=σ.m)(p:PK)(x:A):vA σ2 p x=vA σ p x:=by
 cases p<;>simp only[vA,C]
def YK{σ2:S}(C:σ2.m=σ.m):∀ (ps:aa PK) (xs:aa Operand),(∀ x∈xs,aK σ2 x=aK σ x)->jq σ2 ps xs=jq σ ps xs
 |[],[],_=>rfl
 |[],_::_,_=>rfl
 |_::_,[],_=>rfl
 | p :: ps,x :: xs,h=>by
  simp only[jq];rw[h x (.head _),ajv C,YK C ps xs (λy D=>h y (.tail _ D))]
def Lq{σ2:S}(E:σ2.m=σ.m)(ns:aa Nat):∀ (ps:aa PK) (xs:aa Operand) (C:aa Mu) (k:kZ ps->aj X),(∀ x∈xs,aK σ2 x=aK σ x)->jr σ2 ns ps xs C k=jr σ ns ps xs C k
 |[],[],[],k,_=>rfl
 | .v b t :: ps,x :: xs,C,k,h=>by
  simp only[jr];rw[h x (.head _),aju E];congr 1;funext p;congr 1;split
  ·exact Lq E ns ps xs C _ (λy D=>h y (.tail _ D))
  ·rfl
 | .p t g off :: ps,x :: xs,.aB I cs O :: C,k,h=>by
  simp only[jr];split
  ·exact Lq E ns ps xs C _ (λy D=>h y (.tail _ D))
  ·rfl
 | .s t g :: ps,x :: xs,.sl q T :: C,k,h=>by
  simp only[jr];split
  ·exact Lq E ns ps xs C _ (λy D=>h y (.tail _ D))
  ·rfl
 |[],[],_::_,k,_=>rfl
 |[],_::_,_,k,_=>rfl
 |.v _ _::_,[],_,k,_=>rfl
 |.p _ _ _::_,[],_,k,_=>rfl
 |.s _ _::_,[],_,k,_=>rfl
 |.p _ _ _::_,_::_,[],k,_=>rfl
 |.s _ _::_,_::_,[],k,_=>rfl
 |.p _ _ _::_,_::_,.sl _ _::_,k,_=>rfl
 |.s _ _::_,_::_,.aB _ _ _::_,k,_=>rfl
def ajw{m:Nat -> aj aS}{l:Lf}{v:V}{q:Nat}(h:vz m l=some (v,some q)):v.aG=false:=by
 unfold vz at h
 grind
def YL{m:Nat->aj aS}:∀ {cs:aa Lf} {C:aa (V×aj Nat)},ru m cs=some C->(∀ v∈C,v.1.aG=true)->∀ v∈C,v.2=none
 |[],C,h,_=>by injection h with h;subst h;simp
 | c :: cs,C,h,D=>by
  unfold ru at h;split at h
  ·rename_i v O E I;injection h with h;subst h;intro u hu;rcases gv.1 hu with rfl | hu
   ·obtain⟨x,q⟩:=u;cases q with
    |none=>rfl
    |some q=>have:=ajw E;rw[D _ (.head _)]at this;cases this
   ·exact YL I (λv hv=>D v (.tail _ hv)) u hu
  ·cases h
def YM{i:Nat}:∀ (C:aa (V×aj Nat)) (j:Nat),(∀ v∈C,v.2=none) -> DA i j C=[]
 |[],_,_=>rfl
 | (x,q) :: C,j,h=>by
  have:=h _ (.head _);subst this;exact YM C _ (λv hv=>h v (.tail _ hv))
def RX:∀ (C:aa Nat) (xs:aa V),(∀ x∈xs,x.aG=true)->vE C xs=[]/\uh C xs=[]
 |[],[],_=>⟨rfl,rfl⟩
 |[],_::_,_=>⟨rfl,rfl⟩
 |_::_,[],_=>⟨rfl,rfl⟩
 | n :: C,x :: xs,h=>by
  simp only[vE,uh,h x (.head _),au];exact RX C xs (λx D=>h x (.tail _ D))
def DR(ps:aa PK):Bool:=ps.all λp=>match p with
 |.v _ _=>true
 |.p _ g _=>Nat.beq g 0
 |.s _ _=>false
def RY{ns:aa Nat}:∀ (ps:aa PK) (xs:aa Operand) (D:aa Mu) (k:kZ ps->aj X),DR ps=true->jq σ ps xs=some D->jr σ ns ps xs D k=some r->∀ (i E c0:Nat) (y:rm (eF ps)),
  (∀p∈ld i D,p.1∈iJ σ ps xs)/\nu c0 E D (iP (eF ps) y)=[]/\∀(Z cn:aa Nat),∀p∈lu Z cn c0 E D (iP (eF ps) y),p.1∈iJ σ ps xs
 | [],[],D,k,_,C,h=>by
  injection C with C;subst C;intro i E c0 y;exact⟨(λp hp=>by cases hp),by simp[nu],(λ_ _ p hp=>by simp[lu]at hp)⟩
 | .v b t :: ps,x :: xs,D,k,U,C,h=>by
  have sC:jq σ ps xs=some D:=by
   unfold jq at C;split at C
   next mu Y I O=>exact(vD I).elim
   next Y I O=>rw[O];exact C
   ·cases C
  have sB:DR ps=true:=by simpa [DR]using U
  unfold jr at h;obtain⟨p,O,_⟩:=Yg.lM h;cases hb:p.1==b with
  |false=>rw[hb]at O;cases O
  | true=>
   rw[hb,au]at O;split at O
   ·intro i E c0 y;exact RY ps xs D _ sB sC O i E c0 y
   ·cases O
 | .p t g off :: ps,x :: xs,D,k,U,C,h=>by
  unfold jq at C;split at C
  ·rename_i mu Y I O;injection C with C;subst C;have I:=vD I;cases mu with
   |sl=>exact I.elim
   | aB r' cs T=>
    have I:aK σ x = .aL r' off/\zp σ (.aB r' cs T):=I;have U:Nat.beq g 0=true/\DR ps=true:=by simpa [DR]using U
    have hg:=cN U.1;subst hg;unfold jr at h;split at h
    ·rename_i z hz;have hz:dec t 0 (T.map (·.1))=some z:=hz;have hw:=lJ t 0 _ z hz;have RZ:∀ v∈T,v.1.aG=true:=by
      intro v hv;obtain⟨j,hj⟩:=List.mem_iff_getElem?.1 hv;have Lr:(T.map (·.1))[j]?=some v.1:=by rw[ez,hj];rfl
      have wZ:j<(enc t 0 z).length:=by rw[<-hw.1];exact(dK.1 Lr).1
      have hk:=hw.2 j _ _ Lr (bJ wZ);have mD:=pW t 0 z (by omega) j _ (bJ wZ);cases RZ:v.1.aG with
      |true=>rfl
      |false=>rw[hk.QL RZ]at mD;cases mD
     have hn:=YL I.2.2.1 RZ;intro i E c0 y;obtain⟨k1,k2,k3⟩:=RY ps xs Y _ U.2 O h (i+1) (E+1+T.length) c0 y.2;have YN:∀ u∈enc t 0 y.1,u.aG=true:=by
      intro u hu;obtain⟨j,hj⟩:=List.mem_iff_getElem?.1 hu;exact pW t 0 y.1 (by omega) j u hj
     have By:iJ σ (.p t 0 off::ps) (x::xs)=r'::iJ σ ps xs:=by simp only[iJ,I.1]
     rw[By]
     refine⟨λp hp=>?_,?_,λZ cn p hp=>?_⟩
     ·simp only[ld,YM T 0 hn,List.nil_append]at hp;rcases gv.1 hp with rfl | hp
      ·exact .head _
      ·exact .tail _ (k1 p hp)
     ·show vE (mm c0 (E+1) T) (enc t 0 y.1)++nu c0 (E+1+T.length) Y (iP (eF ps) y.2)=[]
      rw[(RX _ _ YN).1,k2];rfl
     ·have hp:p∈(r',aS.aB (oT Z cn (mm c0 (E+1) T) cs (enc t 0 y.1))) :: (uh (mm c0 (E+1) T) (enc t 0 y.1)++lu Z cn c0 (E+1+T.length) Y (iP (eF ps) y.2)):=hp;rw[(RX _ _ YN).2,List.nil_append]at hp;rcases gv.1 hp with rfl | hp
      ·exact .head _
      ·exact .tail _ (k3 Z cn p hp)
    ·cases h
  next Y I O=>exact(vD I).elim
  ·cases C
 |.s t g::ps,x::xs,D,k,U,C,h=>by simp[DR]at U
 |[],_::_,D,k,_,C,h=>by cases C
 |_::_,[],D,k,_,C,h=>by cases C
def S.R0{ns:aa Nat}{nr:aa (Nat×aS)}(v:A)(h:v.de ns []=v):(σ.set d v).de ns [] nr=(σ.de ns [] nr).set d v:=by
 refine S.ext' (λk=>?_) λ_=>rfl
 show (bG σ.t d v k).de ns []=bG (λk=>(σ.t k).de ns []) d v k;by_cases C:k=d
 ·subst C;rw[bK,bK];exact h
 ·rw[cr _ _ _ C,cr _ _ _ C]
def Ls{n:Nat}{x:aS}:∀ {l:aa (Nat×aS)},l.lookup n=some x -> (n,x)∈l
 |[],h=>by cases h
 | q :: l,h=>by
  rw[List.lookup_cons]at h;cases hb:n==q.1 with
  |true =>grind
  |false=>rw[hb]at h;exact .tail _ (Ls h)
theorem ajx{τ:S}{f:Nat}{args:Array Operand}{jJ:Array TypeId}{c:nt}(Y:o.op = .call { callee:=.value (.func f),args,argTypes:=jJ })(hc:Φ f=some (.m c))(hfl:Lh c=true)(hp:∀ n,eP o n=true->p n=true/\pb n=true)(zv:∀ n∈iJ σ c.ps args.toList,p n=true)
  (h:dA P N Φ σ o some=some τ):Nonempty (rE P N Φ o p pb σ τ):=by
 have eU:∀ σ2,dA P N Φ σ2 o some=nZ N σ2 o.dst c args.toList some:=by
  intro σ2;unfold dA;rw[show fL o.op=false by rw[Y];rfl,ax];simp only[ir,Y,hc]
 rw[eU]at h;have YO:∀ σ2:S,(∀ x∈o.op.operands,aK σ2 x=aK σ x)->∀ x∈args.toList,aK σ2 x=aK σ x:=by
  intro σ2 D x T;refine D x ?_;rw[Y];simp only[Op.operands,Call.operands];simp only[Array.mem_append]
  first
   |exact .inr (by simpa using T)
   |exact .inl (by simpa using T)
 unfold nZ at h;split at h
 ·rename_i I uj;cases lS:(once (ld 0 I)&&Nat.ble I.length 40)with
  |false=>rw[lS]at h;cases h
  | true=>
   rw[lS,au]at h;have ajy:=RY c.ps args.toList I _ hfl uj h;obtain⟨x,C,hd⟩:=(K8 _ _ _).lM h;split at C
   ·rename_i y hy;obtain⟨k1,k2,k3⟩:=ajy 0 (eT c.ro y.1).len (iq o.dst) y.2;unfold DD at C;rw[k2]at C;generalize jt:DC N I (iP (eF c.ps) y.2) []=ok at C;cases ok with
    |false=>cases C
    | true=>
     rw[au]at C;generalize A9:(ld 0 I).map (·.1)=ns at C hd;generalize vG:lu ns [] (iq o.dst) (eT c.ro y.1).len I (iP (eF c.ps) y.2)=nr at C;have Z:RK p ns nr:=by
      refine⟨λn hn=>?_,λn x T=>?_⟩
      ·rw[<-A9]at hn;obtain⟨q,hq,e⟩:=List.mem_map.1 (ud.1 hn);rw[<-e];exact zv _ (k1 q hq)
      ·rw[<-vG]at T;exact zv _ (k3 ns [] _ (Ls T))
     have oW:∀ σ2:S,(∀ x∈o.op.operands,aK σ2 x=aK σ x)->σ2.m=σ.m->nZ N σ2 o.dst c args.toList some=qb N (σ2.de ns [] nr) o.dst (eT c.ro y.1) some:=by
      intro σ2 D O;simp only[nZ];rw[YK O _ _ (YO σ2 D),uj];simp only[lS,au];rw[A9,Lq O _ _ _ _ _ (YO σ2 D)];refine(hd S _).trans ?_;simp only[hy,DD,k2,jt,au,vG]
     have YP:∀ (σ:S) t r j,σ.t t = .aL r j->(σ.de ns [] nr).t t = .aL r j:=by
      intro σ t r j U;show A.de ns [] (σ.t t)=_;rw[U];rfl
     generalize ki:eT c.ro y.1=res at C oW;cases E:o.dst with
     | none=>
      rw[E]at C;have C:some (σ.de ns [] nr)=some τ:=C;injection C with C;exact⟨{ G:=λσ=>σ.de ns [] nr,u:=.undef,eq:=by rw[E];exact C.symm,run:=λσ2 D O=>by rw[eU,oW σ2 D O,E];rfl,grow:=λσ=>.de ns nr Z (.refl σ),set:=λσ e v hv=>S.R0 v (A.RN hv Z.ns),bp:=λ_ σ t r j U _=>YP σ t r j U }⟩
     | some d=>
      rw[E]at C;have lR:∀n,1000000000100000+1000*d<=n->eP o n=true:=λn hn=>by unfold eP;rw[E,Y];exact jj hn
      have rF:∀n,1000000000100000+1000*d<=n->p n=true/\pb n=true:=λn hn=>hp n (lR n hn)
      cases hN:Nat.blt d N with
      |false=>simp only[qb,hN,ax]at C;cases C
      | true=>
       have e:∀σ,qb N σ (some d) res some=ni σ d res some:=λσ=>by simp only[qb,hN,au]
       rw[e]at C;obtain⟨ps,u,hG⟩:=RR C;rw[hG]at C;injection C with C;exact⟨{ G:=λσ=>nX (1000000000100000+1000*d) (σ.de ns [] nr) ps,u:=u,eq:=by rw[E];exact C.symm,run:=λσ2 D O=>by rw[eU,oW σ2 D O,E,e,hG];rfl,grow:=λσ=>(gP.de ns nr Z (.refl σ)).trans (GR ps _ _ rF),set:=λσ e v hv=>by rw[S.R0 v (A.RN hv Z.ns),Rb v ps _ _ λn hn=>A.Bv hv (rF n hn).1 (rF n hn).2],bp:=λ_ σ t r j U hr=>(GR (p:=eP o) (pb:=eP o) ps _ _ (λn hn=>⟨lR n hn,lR n hn⟩)).bp (YP σ t r j U) hr }⟩
   ·cases C
 ·cases h
def Calm(Φ:ef)(ok:Nat->Nat->Bool)(rG mz p pb:Nat->Bool)(σ:S)(o:Oper):Prop:=
 Lg Φ o.op=true\/(∃f args D c,o.op = .call { callee:=.value (.func f),args:=args,argTypes:=D }/\Φ f=some (.m c)/\Lh c=true/\sQ ok σ c.ps args.toList=true/\∀n∈iJ σ c.ps args.toList,p n=true)\/
 (∃ty t y,o.op = .store ty (.tmp t) y/\o.dst=none/\rG t=true/\jN p (σ.t t))\/
 ∃x y t C,o.op = .call ⟨.builtin .append,⟨[.tmp x,y]⟩,⟨[t,C]⟩⟩/\mz x=true/\(qe t=false/\Nat.beq t C=true/\BF o.dst t (.tmp x)=false)/\rD p pb (σ.t x)
theorem ajz{Y:S}{ty:TypeId}{t:Tmp}{y:Operand}(I:o.op = .store ty (.tmp t) y)(hd:o.dst=none)(C:jN p (σ.t t))(h:dA P N Φ σ o some=some Y):Nonempty (rE P N Φ o p pb σ Y):=by
 have Gk:∀ (x:A) (z:A),(∀ k,x ≠ .ptr k) -> xK x z=false:=by
  intro x z E;unfold xK;split
  ·grind
  ·rfl
 have Z:∀ σ2:S,(∀ k,σ2.t t ≠ .ptr k) -> dA P N Φ σ2 o some=p6 P σ2 ty (σ2.t t) (aK σ2 y) some:=by
  intro σ2 Lt;unfold dA;rw[show fL o.op=false by rw[I];rfl,ax];simp only[ir,I,hd];rw[show xK (aK σ2 (.tmp t)) (aK σ2 y)=false from Gk _ _ Lt,ax];rfl
 rw[Z σ (λk O=>by rw[O]at C;exact C)]at h;cases E:σ.t t with
 | aL D j=>
  rw[E]at h C;have hp:p D=true:=C;have key:∃ x,∀ σ2:S,σ2.m=σ.m -> ∀ v,v=aK σ y -> p6 P σ2 ty (.aL D j) v some=some (σ2.root D x):=by
   unfold p6 at h;split at h
   ·rename_i n xs hn oL;split at h
    ·rename_i hlen;simp only at h;split at h
     ·rename_i cs lN;split at h
      ·rename_i hj;cases hl:xs.all Lf.live with
       |false=>grind
       | true=>
        refine⟨.aB (splice cs j xs),λσ2 T v hv=>?_⟩
        subst hv;simp only[p6,hn,oL,aV hlen,T,lN,aV hj,hl,au];simp only[S.root,T]
      ·cases h
     ·cases h
    ·cases h
   ·cases h
  obtain⟨x,lO⟩:=key;have U:=lO σ rfl _ rfl;rw[h]at U;injection U with U
  refine⟨{ G:=λσ=>σ.root D x,u:=.undef,eq:=by rw[hd];exact U,run:=λσ2 sU T=>?_,grow:=λσ=>.rt D x hp (.refl σ),set:=λσ d v hv=>rfl,bp:=λ_ σ t r j ht _=>ht }⟩
  have e1:σ2.t t = .aL D j:=(sU (.tmp t) (by rw[I];simp[Op.operands])).trans E;rw[Z σ2 (λk O=>by rw[e1]at O;cases O),e1,lO σ2 T _ (sU y (by rw[I];simp[Op.operands])),hd];rfl
 |ptr k=>rw[E]at C;exact C.elim
 | _=>
  rw[E]at h;exfalso;revert h;unfold p6;split
  ·grind
  ·grind
def cx(e:Nat)(x:aS)(u:A)(σ:S):S:=((σ.drop e).root e x).set e u
def mE(e:Nat)(u:A):Prop:=u = .aL e 0\/u = .lf (.own [e])
structure kr (x:aS):Prop where
 cq:∀K:m8,x.cq K=x
def kr.drop{x:aS}(h:kr x)(n:Nat):x.drop n=x:=h.cq _
def kr.de{x:aS}(h:kr x)(ns cn:aa Nat):x.de ns cn=x:=h.cq _
def kr.zero(C:aa Value):kr (.aB (C.map nT)):=⟨λK=>bz aS.aB (qT.oF (bT.2 λc D=>by
 obtain⟨v,_,rfl⟩:=List.mem_map.1 D;unfold nT;split<;>rfl))⟩
def YQ(h:vH o=true):∃ t,∃ e:Nat,o.op = .alloc t/\o.guard=none/\o.dst=some e/\e<20000:=by
 unfold vH at h;rw[aJ,aJ]at h;obtain⟨⟨C,E⟩,D⟩:=h;split at C
 ·rename_i t I;split at D
  ·simp_all
  ·cases D
 ·cases C
def ajA{ops:Array Oper}{t:TypeId}{e:Nat}(C:o.op = .alloc t)(hg:o.guard=none)(hd:o.dst=some e){D:S}(h:dx P N Φ ops σ o some=some D):∃ x,kr x/\D=cx e x (.aL e 0) σ/\∀ σ2,dx P N Φ ops σ2 o some=some (cx e x (.aL e 0) σ2):=by
 have E:∀ σ2,dx P N Φ ops σ2 o some=qY P N σ2 e t some:=by
  intro σ2;unfold dx fR;rw[hg];simp only;unfold dA;rw[show fL o.op=false by rw[C];rfl,ax];simp only[ir,C,gF,hd]
 rw[E]at h;unfold qY at h;split at h
 ·rename_i z I;unfold gY at h;cases hN:Nat.blt e N with
  |false=>rw[hN]at h;cases h
  | true=>
   rw[hN,au]at h;injection h with h
   refine⟨_,.zero _,h.symm,λσ2=>(E σ2).trans ?_⟩
   unfold qY gY;rw[I,hN];rfl
 ·cases h
def GS{σ2:S}:∀ (ps:aa PK) (xs:aa Operand),(∀ x∈xs,aK σ2 x=aK σ x) -> iJ σ2 ps xs=iJ σ ps xs
 |[],[],_=>rfl
 |[],_::_,_=>rfl
 |.v _ _::_,[],_=>rfl
 |.p _ _ _::_,[],_=>rfl
 |.s _ _::_,[],_=>rfl
 |.v _ _::ps,x::xs,h=>by simp[iJ];exact GS ps xs (λy C=>h y (.tail _ C))
 |.s _ _::ps,x::xs,h=>by simp only[iJ];exact GS ps xs (λy C=>h y (.tail _ C))
 | .p _ _ _ :: ps,x :: xs,h=>by
  simp only[iJ];rw[h x (.head _),GS ps xs (λy C=>h y (.tail _ C))]
def R1{ok:Nat -> Nat -> Bool}{σ2:S}(D:∀ t r j,σ.t t = .aL r j -> ok t r=true -> σ2.t t = .aL r j):∀ (ps:aa PK) (xs:aa Operand),sQ ok σ ps xs=true -> sQ ok σ2 ps xs=true/\iJ σ2 ps xs=iJ σ ps xs
 |[],[],_=>⟨rfl,rfl⟩
 | .v _ _ :: ps,x :: xs,h=>by
  exact R1 D ps xs h
 | .p _ _ _ :: ps,x :: xs,h=>by
  cases x with
  | tmp t=>
   simp[sQ,aJ]at h;obtain⟨C,I⟩:=h;obtain⟨O,T⟩:=R1 D ps xs I;split at C
   ·rename_i U j E;have e:=D t U j E C;refine⟨?_,?_⟩
    ·simp only[sQ,aJ];exact⟨by rw[e];exact C,O⟩
    ·simp only[iJ,aK,e,E,T]
   ·cases C
  |const v=>simp[sQ]at h
  |global g=>simp[sQ]at h
  |func f=>simp[sQ]at h
def Calm.gU{ok:Nat->Nat->Bool}{rG mz:Nat->Bool}{σ2:S}(h:Calm Φ ok rG mz p pb σ o)(O:∀ t r j,σ.t t = .aL r j->ok t r=true->σ2.t t = .aL r j)(T:∀ t,rG t=true->jN p (σ.t t)->jN p (σ2.t t))(U:∀ t,mz t=true->rD p pb (σ.t t)->rD p pb (σ2.t t)):Calm Φ ok rG mz p pb σ2 o:=by
 rcases h with h|⟨f,args,Y,c,E,C,D,I,Z⟩|⟨ty,t,y,E,C,D,I⟩|⟨x,y,t,t',E,C,hn,D⟩
 ·exact .inl h
 ·obtain⟨k1,k2⟩:=R1 O _ _ I;exact .inr (.inl ⟨f,args,Y,c,E,C,D,k1,by rw[k2];exact Z⟩)
 ·exact .inr (.inr (.inl ⟨ty,t,y,E,C,D,T t D I⟩))
 ·exact .inr (.inr (.inr ⟨x,y,t,t',E,C,hn,U x C D⟩))
def Lu{ops:Array Oper}(U:n6 o=true)(hw:fR σ ops o=some true){τ:S}(h:dx P N Φ ops σ o some=some τ):∃ (e:Nat) (x:aS) (u:A),o.dst=some e/\e<20000/\kr x/\mE e u/\τ=cx e x u σ/\
  ∀σ2,fR σ2 ops o=some true->(∀y∈o.op.operands,aK σ2 y=aK σ y)->dx P N Φ ops σ2 o some=some (cx e x u σ2):=by
 have Y:fL o.op=false->∀ σ2,fR σ2 ops o=some true->dx P N Φ ops σ2 o some=ir P N Φ σ2 o some:=by
  intro hv σ2 I;unfold dx;rw[I];simp only;unfold dA;rw[hv,ax]
 have YR:∀y:V,kr (.sl y):=λy=>⟨λ_=>rfl⟩
 unfold n6 at U;rw[aJ]at U;obtain⟨Z,xQ⟩:=U;split at xQ
 ·rename_i e D;have dI:e<20000:=cz xQ;split at Z
  ·rename_i t C;have E:=Y (by rw[C];rfl);rw[E σ hw]at h;simp only[ir,C,gF,D]at h;unfold qY at h;split at h
   ·rename_i z hz;unfold gY at h;cases hN:Nat.blt e N with
    |false=>rw[hN]at h;cases h
    | true=>
     rw[hN,au]at h;injection h with h
     refine⟨e,.aB (z.cells.toList.map nT),.aL e 0,D,dI,.zero _,.inl rfl,h.symm,λσ2 I _=>(E σ2 I).trans ?_⟩
     simp only[ir,C,gF,D];unfold qY gY;rw[hz,hN];rfl
   ·cases h
  ·rename_i t len parts C;have E:=Y (by rw[C];rfl);rw[E σ hw]at h;have hn:qe t=false:=by simpa using Z
   simp only[ir,C,gF,D,hn,ax]at h;obtain⟨y,O,h2⟩:=X4 h;injection O with O
   refine⟨e,.sl y,.lf (.own [e]),D,dI,YR y,.inr rfl,O.symm,λσ2 I T=>(E σ2 I).trans ?_⟩
   simp only[ir,C,gF,D,hn,ax]
   refine(h2 σ2 λq hq=>T _ ?_).at_ _
   rw[C];simp only[Op.operands];exact List.mem_toArray.2 (List.mem_map_of_mem (f:=(·.2)) hq)
  ·rename_i t l c C;have E:=Y (by rw[C];rfl);rw[E σ hw]at h;simp only[ir,C,gF,D]at h;obtain⟨y,O,h2⟩:=X3 h;injection O with O
   refine⟨e,.sl y,.lf (.own [e]),D,dI,YR y,.inr rfl,O.symm,λσ2 I T=>(E σ2 I).trans ?_⟩
   simp only[ir,C,gF,D];rw[T l (by rw[C];simp[Op.operands]),T c (by rw[C];simp[Op.operands])];exact(h2 σ2).at_ _
  ·cases Z
 ·cases xQ
def Lv{d:Nat}{t:TypeId}{y z:A}{T:S}(h:tU P N σ d t y z some=some T):∃ (r:Nat) (v:V),T=((σ.drop r).root r (.sl v)).set d (.lf (.own [r]))/\(r=d\/y = .lf (.own [r]))/\
  ∀σ2:S,(∀(k:V->aj S),sy σ2 z k=sy σ z k)->(∀r v,y = .lf (.own [r])->σ.m r=some (.sl v)->σ2.m r=some (.sl v))->tU P N σ2 d t y z some=some (((σ2.drop r).root r (.sl v)).set d (.lf (.own [r]))):=by
 unfold tU at h;split at h
 ·rename_i e tc U;cases I:(Nat.beq (full tc) 0&&(zeroOf P e).any (λz=>Nat.beq z.cells.size (aD tc)))with
  |false=>rw[I]at h;cases h
  | true=>
   rw[I,au]at h;obtain⟨yv,C,hd⟩:=Q6.lM h;clear h;split at C
   ·cases C
   ·rename_i l2 Y;split at C
    ·cases D:bV l2.length with
     |false=>rw[D]at C;cases C
     | true=>
      rw[D,au]at C;cases hN:Nat.blt d N with
      |false=>unfold gY at C;rw[hN]at C;cases C
      | true=>
       have E:=C;unfold gY at E;rw[hN,au]at E;injection E with E
       refine⟨d,.sl tc 2 false l2,E.symm,.inl rfl,λσ2 O Z=>?_⟩
       simp only[tU,U,I,au];refine(O _).trans ((hd.at_ _).trans ?_);simp only[Y,D,au];unfold gY;rw[hN,au]
    ·rename_i rr;split at C
     ·rename_i t' o q l hm;split at C
      ·rename_i nc;cases D:(Nat.blt d N&&(Nat.blt rr N || Nat.ble 60000 rr)&&bV (l.length+l2.length))with
       |false=>rw[D]at C;cases C
       | true=>
        rw[D,au]at C;injection C with C
        refine⟨rr,_,C.symm,.inr rfl,λσ2 O Z=>?_⟩
        simp only[tU,U,I,au];refine(O _).trans ((hd.at_ _).trans ?_);simp only[Y,Z rr _ rfl hm,aO nc,D,au]
      ·cases C
     ·cases C
    ·cases C
 ·cases h
def R2(h:isApp o=true):∃ x y t C,o.op = .call ⟨.builtin .append,⟨[x,y]⟩,⟨[t,C]⟩⟩/\qe t=false/\Nat.beq t C=true/\BF o.dst t x=false:=by
 unfold isApp at h
 grind
def GU{x y:Operand}{t D:TypeId}(E:o.op = .call ⟨.builtin .append,⟨[x,y]⟩,⟨[t,D]⟩⟩)(hn:qe t=false)(I:Nat.beq t D=true)(C:BF o.dst t x=false)(σ:S):dA P N Φ σ o some=gF o λd=>tU P N σ d t (aK σ x) (aK σ y) some:=by
 unfold dA;rw[show fL o.op=false by rw[E];rfl];simp[ir,E,hn,I,au];unfold gF;cases hd:o.dst with
 |none=>rfl
 | some d=>
  rw[hd]at C;have C:Le t d x=false:=C;simp_all
theorem ajB{T:S}{x:Tmp}{y:Operand}{t U:TypeId}(C:o.op = .call ⟨.builtin .append,⟨[.tmp x,y]⟩,⟨[t,U]⟩⟩)(hn:qe t=false)(E:Nat.beq t U=true)(I:BF o.dst t (.tmp x)=false)(hp:∀ n,eP o n=true->p n=true/\pb n=true)(jm:rD p pb (σ.t x))(h:dA P N Φ σ o some=some T):Nonempty (rE P N Φ o p pb σ T):=by
 rw[GU C hn E I]at h;obtain⟨d,O,h⟩:=jM h;obtain⟨r,v,iQ,hr,oW⟩:=Lv h;have D:p r=true/\pb r=true:=by
  rcases hr with hr|hr
  ·rw[hr];exact hp d (by unfold eP;rw[O,C];exact Nat.beq_refl d)
  ·exact jm r hr
 refine⟨{ G:=λσ=>(σ.drop r).root r (.sl v),u:=.lf (.own [r]),eq:=by rw[O];exact iQ,run:=λσ2 Y Z=>?_,grow:=λσ=>.root r _ D.1 D.2 (.refl σ),set:=λσ e v' hv=>(by rw[S.drop_set r (A.Bv hv D.1 D.2)];rfl),bp:=λha=>(by rw[isApp,C]at ha;simp[hn,E,I]at ha) }⟩
 rw[GU C hn E I];unfold gF;rw[O];simp only;rw[Y (.tmp x) (by rw[C];simp[Op.operands,Call.operands]),Y y (by rw[C];simp[Op.operands,Call.operands]),oW σ2 (λk=>ajf Z _ k) (λr' v' _ h'=>by rw[Z];exact h')];rfl
theorem ajC[Inhabited Wd](dN:fK P Φ){ok:Nat->Nat->Bool}{rG mz mA:Nat->Bool}(hX:∀ x,mA x=true->jN p (σ.t x)){ops:Array Oper}{oi D:Oper}{v:A}{τ:S}(hF:mC P ops oi p pb v σ)(ha:oi.apart ops D=true)(O:Calm Φ ok rG mz p pb σ D)(hp:∀ n,eP D n=true->p n=true/\pb n=true)
  (h:dx P N Φ ops (gk σ oi.dst v) D some=some τ):∃ T,dx P N Φ ops σ D some=some T/\τ=gk T oi.dst v/\mC P ops oi p pb v T/\(isApp D=false->∀ t r j,σ.t t = .aL r j->D.dst≠some t->eP D r=false->T.t t = .aL r j)/\
   (∀t,jN p (σ.t t)->(D.dst≠some t\/(vH D=true/\p t=true)\/∃s x f,D.op = .fieldAddr s (.tmp x) f/\mA x=true)->jN p (T.t t))/\
   ∀t,rD p pb (σ.t t)->(D.dst≠some t\/(n6 D=true/\p t=true/\pb t=true)\/(isApp D=true\/zD Φ D=true))->rD p pb (T.t t):=by
 obtain⟨a1,a2,a3⟩:=Oper.apart_spec ha;have DS:∀ (σ:S) (u:A) t,D.dst≠some t->(gk σ D.dst u).t t=σ.t t:=by
  intro σ u t O;cases hd:D.dst with
  |none=>rfl
  |some d=>exact cr _ _ _ (by rintro rfl;exact O hd)
 have DT:∀ T,dx P N Φ ops σ D some=some T->∀ t,vH D=true->D.dst=some t->p t=true->jN p (T.t t):=by
  intro T C t DT hd Rp;obtain⟨ty,e,E,U,h3,_⟩:=YQ DT;rw[h3]at hd;injection hd with hd;subst hd;obtain⟨x,_,e1,_⟩:=ajA E U h3 C;rw[e1];show jN p (bG _ e (.aL e 0) e);rw[bK];exact Rp
 have fin:∀ T,dx P N Φ ops σ D some=some T->(∀ t,D.dst≠some t->jN p (σ.t t)->jN p (T.t t))->∀ t,jN p (σ.t t)->(D.dst≠some t\/(vH D=true/\p t=true)\/∃ s x f,D.op = .fieldAddr s (.tmp x) f/\mA x=true)->jN p (T.t t):=by
  intro T C hk t O R3;rcases R3 with bY|⟨E,U⟩|⟨s,x,f,E,U⟩
  ·exact hk t bY O
  ·by_cases hd:D.dst=some t
   ·exact DT T C t E hd U
   ·exact hk t hd O
  ·by_cases hd:D.dst=some t
   ·unfold dx at C;split at C
    ·unfold dA at C;rw[show fL D.op=true by rw[E];rfl,au]at C;rw[E]at C;simp only[mw]at C;have hx:=hX x U;have hx:jN p (aK σ (.tmp x)):=hx;generalize aK σ (.tmp x)=z at hx C;have key:∀ v,gW N σ D.dst v some=some T->jN p v->jN p (T.t t):=by
      intro v hv hA;obtain⟨I,_⟩:=sS hv;injection I with I;rw[<-I,hd];show jN p (bG σ.t t v t);rw[bK];exact hA
     unfold Dd at C;split at C
     ·cases C
     ·split at C
      ·split at C
       ·exact key _ C hx
       ·exact key _ C trivial
       ·exact hx.elim
       ·cases C
      ·cases C
    ·obtain⟨I,_⟩:=sS C;injection I with I;rw[<-I,hd];show jN p (bG σ.t t .skip t);rw[bK];trivial
    ·cases C
   ·exact hk t hd O
 have ajD:=O;have YS:∀ T,dx P N Φ ops σ D some=some T->(∀ t,D.dst≠some t->rD p pb (σ.t t)->rD p pb (T.t t))->∀ t,rD p pb (σ.t t)->(D.dst≠some t\/(n6 D=true/\p t=true/\pb t=true)\/(isApp D=true\/zD Φ D=true))->rD p pb (T.t t):=by
  intro T C hk t O R3;rcases R3 with bY|⟨E,U⟩|ajE|BJ
  ·exact hk t bY O
  ·by_cases hd:D.dst=some t
   ·cases hw:fR σ ops D with
    |none=>unfold dx at C;rw[hw]at C;cases C
    | some b=>
     cases b with
     | true=>
      obtain⟨e,x,u,I,g2,g3,g4,g5,_⟩:=Lu E hw C;rw[hd]at I;injection I with I;subst I;rw[g5];intro r hr;have hr:bG _ t u t = .lf (.own [r]):=hr;rw[bK]at hr;rcases g4 with g4|g4
      ·rw[g4]at hr;cases hr
      ·rw[g4]at hr;injection hr with hr;injection hr with hr;injection hr with hr;subst hr;exact U
     | false=>
      unfold dx at C;rw[hw]at C;obtain⟨I,_⟩:=sS C;injection I with I;rw[<-I,hd];intro r hr;have hr:bG σ.t t .skip t = .lf (.own [r]):=hr;rw[bK]at hr;cases hr
   ·exact hk t hd O
  ·by_cases hd:D.dst=some t
   ·obtain⟨x,y,t1,t2,I,g2,g3,g4⟩:=R2 ajE;have hT:rD p pb (aK σ x):=by
     rcases ajD with q|⟨f,args,jJ,c,Z,_⟩|⟨ty,tt,yy,Z,_⟩|⟨x',y',t1',t2',Z,q2,q3,q4⟩
     ·rw[I]at q;cases q
     ·rw[I]at Z;cases Z
     ·rw[I]at Z;cases Z
     ·rw[I]at Z;injection Z with Z;injection Z with _ Z _;injection Z with Z;injection Z with Z _;subst Z;exact q4
    cases hw:fR σ ops D with
    |none=>unfold dx at C;rw[hw]at C;cases C
    | some b=>
     cases b with
     | true=>
      unfold dx at C;rw[hw]at C;have C:dA P N Φ σ D some=some T:=C;rw[GU I g2 g3 g4]at C;obtain⟨d,rH,C⟩:=jM C;rw[hd]at rH;injection rH with rH;subst rH;obtain⟨r,v,iQ,hr,_⟩:=Lv C;rw[iQ];intro r' fJ;have fJ:bG ((σ.drop r).root r (.sl v)).t t (.lf (.own [r])) t = .lf (.own [r']):=fJ;rw[bK]at fJ;injection fJ with fJ;injection fJ with fJ;injection fJ with fJ;subst fJ;rcases hr with hr|hr
      ·rw[hr];exact hp t (by unfold eP;rw[hd,I];exact Nat.beq_refl t)
      ·exact hT r hr
     | false=>
      unfold dx at C;rw[hw]at C;obtain⟨I,_⟩:=sS C;injection I with I;rw[<-I,hd];intro r hr;have hr:bG σ.t t .skip t = .lf (.own [r]):=hr;rw[bK]at hr;cases hr
   ·exact hk t hd O
  ·by_cases hd:D.dst=some t
   ·cases hw:fR σ ops D with
    |none=>unfold dx at C;rw[hw]at C;cases C
    | some b=>
     cases b with
     | true=>
      unfold dx at C;rw[hw]at C;have C:dA P N Φ σ D some=some T:=C;unfold zD at BJ;split at BJ
      ·rename_i f args jJ ho;split at BJ
       ·rename_i c hc;unfold dA at C;rw[show fL D.op=false by rw[ho];rfl,ax]at C;simp only[ir,ho,hc]at C;obtain⟨d,rH,C⟩:=jM C;rw[hd]at rH;injection rH with rH;subst rH;obtain⟨res,sD,E,U,_⟩:=K2 (GQ dN hc) DK C;injection U with U;subst U;have lR:∀ n,1000000000100000+1000*t<=n->p n=true/\pb n=true:=λn hn=>hp n (by unfold eP;rw[hd,ho];exact jj hn)
        intro r hr;unfold ni at E;cases res with
        | one q=>
         simp only at E;split at E
         ·rename_i y Y;injection E with E;rw[<-E]at hr;have hr:bG _ t y t=A.lf (Lf.own [r]):=hr;rw[bK]at hr;subst hr;obtain⟨b,vs⟩:=q;cases b with
          |true=>cases Y
          | false=>
           match vs,Y with
           | [v],Y=>
            have Y:some (A.lf (bif v.aG then Lf.v v else Lf.own [1000000000100000+1000*t]))=some (A.lf (Lf.own [r])):=Y;injection Y with Y;injection Y with Y;cases hf:v.aG with
            |true=>rw[hf]at Y;cases Y
            | false=>
             rw[hf]at Y;injection Y with Y;injection Y with Y;subst Y;exact lR _ (dB _)
         ·cases E
        | eY ps=>
         injection E with E;rw[<-E]at hr;have hr:bG _ t _ t=A.lf (Lf.own [r]):=hr;rw[bK]at hr;cases hr
       ·cases BJ
      ·cases BJ
     | false=>
      unfold dx at C;rw[hw]at C;obtain⟨I,_⟩:=sS C;injection I with I;rw[<-I,hd];intro r hr;have hr:bG σ.t t .skip t = .lf (.own [r]):=hr;rw[bK]at hr;cases hr
   ·exact hk t hd O
 unfold dx at h;rw[ajt a1]at h;split at h
 ·rename_i hw;have ajF:Nonempty (rE P N Φ D p pb (gk σ oi.dst v) τ):=by
   rcases O with O|⟨f,args,jJ,c,E,U,h3,h4,h5⟩|⟨ty,t,y,E,U,h3,h4⟩|⟨x,y,t1,t2,E,U,hn,h3⟩
   ·exact ajr dN O hp h
   ·refine ajx E U h3 hp ?_ h;rw[GS]
    ·exact h5
    ·intro x hx;refine Lp a1 v ?_;rw[E];simp only[Op.operands,Call.operands];simp only[Array.mem_append]
     first
      |exact .inr (by simpa using hx)
      |exact .inl (by simpa using hx)
   ·refine ajz E U ?_ h;have e1:aK (gk σ oi.dst v) (.tmp t)=aK σ (.tmp t):=Lp a1 v (by rw[E];simp[Op.operands]);have e1:(gk σ oi.dst v).t t=σ.t t:=e1;rw[e1];exact h4
   ·refine ajB E hn.1 hn.2.1 hn.2.2 hp ?_ h;have e1:aK (gk σ oi.dst v) (.tmp x)=aK σ (.tmp x):=Lp a1 v (by rw[E];simp[Op.operands,Call.operands]);have e1:(gk σ oi.dst v).t x=σ.t x:=e1;rw[e1];exact h3
  obtain⟨G,u,e,hr,hg,hs,YT⟩:=ajF;have rI:dx P N Φ ops σ D some=some (gk (G σ) D.dst u):=by
   unfold dx;rw[hw];exact hr σ (λx hx=>(Lp a1 v hx).symm) (ajs _ _).symm
  refine⟨gk (G σ) D.dst u,rI,?_,(hF.grow (hg σ)).put a3,λBM t r j O bY lR=>?_,fin _ rI λt bY O=>?_,YS _ rI λt bY O=>?_⟩
  ·refine e.trans ?_;have:∀ dst,G (gk σ dst v)=gk (G σ) dst v:=by
    intro dst;cases dst with
    |none=>rfl
    |some d=>exact hs σ d v hF.nr
   rw[this];exact YI _ _ a2
  ·rw[DS _ _ t bY];exact YT BM σ t r j O lR
  ·rw[DS _ _ t bY];exact(hg σ).st O
  ·rw[DS _ _ t bY];exact(hg σ).tg O
 ·rename_i hw;obtain⟨E,U⟩:=sS h;injection E with E;have rI:dx P N Φ ops σ D some=some (gk σ D.dst .skip):=by
   unfold dx;rw[hw];exact(U σ).at_ _
  exact⟨gk σ D.dst .skip,rI,by rw[<-E];exact YI _ _ a2,hF.put a3,λ_ t r j O bY _=>(by rw[DS _ _ t bY];exact O),fin _ rI λt bY O=>(by rw[DS _ _ t bY];exact O),YS _ rI λt bY O=>(by rw[DS _ _ t bY];exact O)⟩
 ·cases h
def Any(P:Program)(N:Nat)(Φ:ef)(ops:Array Oper)(K:S->Prop):Nat->Nat->S->Prop
 |0,L,σ=>(∀j,lT ops L j=false)/\K σ
 |f+1,L,σ=>((∀j,lT ops L j=false)->K σ)/\∀j,lT ops L j=true->∃o C,ops[j]?=some o/\dx P N Φ ops σ o some=some C/\Any P N Φ ops K f (L |||2 ^ j) C
def zF(L i j:Nat):(L ||| 2 ^ i).testBit j=(L.testBit j || decide (i=j)):=by
 rw[Nat.testBit_or,Nat.testBit_two_pow]
def GV{ops:Array Oper}{L j:Nat}:lT ops L j=true ↔ L.testBit j=false /\ ∃ o,ops[j]?=some o /\ ∀ e∈o.after,Region.binds .any e=true -> L.testBit e.on=true:=by
 unfold lT
 grind
def R4{ops:Array Oper}{L i j:Nat}(h:lT ops L j=true)(C:j≠i):lT ops (L ||| 2 ^ i) j=true:=by
 rw[GV]at h ⊢
 grind
def mC.step{ops:Array Oper}{C:Oper}{v:A}(hF:mC P ops C p pb v σ)(hN:∀ σ:S,gW N σ C.dst v some=some (gk σ C.dst v)):dx P N Φ ops σ C some=some (gk σ C.dst v):=by
 unfold dx;rcases hF with ⟨D,E,I,_,_,_⟩|⟨D,E⟩
 ·rw[D];unfold dA;rw[E,au];exact(I.at_ _).trans (hN σ)
 ·simp_all
def R5{K:S -> Prop}{ops:Array Oper}{i W:Nat}{U:Oper}(hi:ops[i]?=some U)(hW:∀ j C,ops[j]?=some C -> W.testBit j=true -> ∃ e∈C.after,Region.binds .any e=true/\(e.on=i \/ W.testBit e.on=true))(E:S -> S)(I:Nat -> S -> Prop)
  (r1:∀L σ,I L σ -> dx P N Φ ops σ U some=some (E σ))
  (r2:∀L σ j C Y,I L σ -> ops[j]?=some C -> j≠i -> L.testBit j=false -> W.testBit j=false -> dx P N Φ ops (E σ) C some=some Y -> ∃O,dx P N Φ ops σ C some=some O/\Y=E O/\I (L |||2 ^ j) O):
  ∀(f L:Nat) (σ:S),(∀j,W.testBit j=true -> L.testBit j=false) -> lT ops L i=true -> I L σ -> Any P N Φ ops K f (L |||2 ^ i) (E σ) -> Any P N Φ ops K (f+1) L σ:=by
 intro f
 induction f with
 | zero=>
  intro L σ vI T Z H
  refine⟨λh=>absurd (h i) (by rw[T];simp),λj hj=>?_⟩
  by_cases D:j=i
  ·subst D;exact⟨U,_,hi,r1 L σ Z,H⟩
  ·have:=R4 hj D;rw[H.1]at this;cases this
 | succ f ih=>
  intro L σ vI T Z H
  refine⟨λh=>absurd (h i) (by rw[T];simp),λj hj=>?_⟩
  by_cases D:j=i
  ·subst D;exact⟨U,_,hi,r1 L σ Z,H⟩
  ·obtain⟨C,Y,xR,iQ,H'⟩:=H.2 j (R4 hj D);obtain⟨DU,oj',Lw,oW⟩:=GV.1 hj;rw[xR]at Lw;injection Lw with Lw;subst Lw;have zG:W.testBit j=false:=by
    cases zG:W.testBit j with
    |false=>rfl
    | true=>
     obtain⟨e,he,hb,lS⟩:=hW j C xR zG;have h1:=oW e he hb;rcases lS with lS|lS
     ·rw[lS,(GV.1 T).1]at h1;cases h1
     ·rw[vI _ lS]at h1;cases h1
   obtain⟨O,hs,zH,hI'⟩:=r2 L σ j C Y Z xR D DU zG iQ
   refine⟨C,O,xR,hs,ih (L |||2 ^ j) O (λk hk=>?_) (R4 T (Ne.symm D)) hI' ?_⟩
   ·grind
   ·rw[<- zH]
    grind
theorem ajG[Inhabited Wd](dN:fK P Φ){ok:Nat -> Nat -> Bool}{rG mz mA:Nat -> Bool}{K:S -> Prop}{ops:Array Oper}{i W:Nat}{I:Oper}{v:A}(hi:ops[i]?=some I)(hN:∀ σ:S,gW N σ I.dst v some=some (gk σ I.dst v))
  (hW:∀j C,ops[j]?=some C -> W.testBit j=true -> ∃e∈C.after,Region.binds .any e=true/\(e.on=i \/ W.testBit e.on=true)) (f L:Nat) (σ:S)
  (jt:∀t r,ok t r=true -> ∀j C,ops[j]?=some C -> j≠i -> L.testBit j=false -> W.testBit j=false -> C.dst≠some t/\eP C r=false/\isApp C=false)
  (Lx:∀x,mA x=true -> ∀j C,ops[j]?=some C -> j≠i -> L.testBit j=false -> W.testBit j=false -> C.dst≠some x) (hX:∀x,mA x=true -> jN p (σ.t x))
  (Ly:∀t,rG t=true -> ∀j C,ops[j]?=some C -> j≠i -> L.testBit j=false -> W.testBit j=false -> C.dst≠some t \/ (vH C=true/\p t=true) \/ ∃s x f,C.op = .fieldAddr s (.tmp x) f/\mA x=true)
  (Lz:∀t,mz t=true -> ∀j C,ops[j]?=some C -> j≠i -> L.testBit j=false -> W.testBit j=false -> C.dst≠some t \/ (n6 C=true/\p t=true/\pb t=true) \/ (isApp C=true \/ zD Φ C=true))
  (BN:∀j C,ops[j]?=some C -> j≠i -> L.testBit j=false -> W.testBit j=false -> I.apart ops C=true/\Calm Φ ok rG mz p pb σ C /\ ∀n,eP C n=true -> p n=true/\pb n=true)
  (vI:∀j,W.testBit j=true -> L.testBit j=false) (hr:lT ops L i=true) (hF:mC P ops I p pb v σ) (H:Any P N Φ ops K f (L |||2 ^ i) (gk σ I.dst v)):Any P N Φ ops K (f+1) L σ:=by
 refine R5 hi hW (λσ=>gk σ I.dst v)
  (λL σ=>mC P ops I p pb v σ/\(∀ t r,ok t r=true -> ∀ j C,ops[j]?=some C -> j≠i -> L.testBit j=false -> W.testBit j=false -> C.dst≠some t/\eP C r=false/\isApp C=false) /\
   ((∀x,mA x=true -> ∀j C,ops[j]?=some C -> j≠i -> L.testBit j=false -> W.testBit j=false -> C.dst≠some x) /\ ∀x,mA x=true -> jN p (σ.t x)) /\
   (∀t,rG t=true -> ∀j C,ops[j]?=some C -> j≠i -> L.testBit j=false -> W.testBit j=false -> C.dst≠some t \/ (vH C=true/\p t=true) \/ ∃s x f,C.op = .fieldAddr s (.tmp x) f/\mA x=true) /\
   (∀t,mz t=true -> ∀j C,ops[j]?=some C -> j≠i -> L.testBit j=false -> W.testBit j=false -> C.dst≠some t \/ (n6 C=true/\p t=true/\pb t=true) \/ (isApp C=true \/ zD Φ C=true)) /\
   ∀j C,ops[j]?=some C -> j≠i -> L.testBit j=false -> W.testBit j=false -> I.apart ops C=true/\Calm Φ ok rG mz p pb σ C /\ ∀n,eP C n=true -> p n=true/\pb n=true)
  (λL σ h=>h.1.step hN) (λL σ j C τ h xR GW DU zG iQ=>?_) f L σ vI hr ⟨hF,jt,⟨Lx,hX⟩,Ly,Lz,BN⟩ H
 obtain⟨hF,jt,⟨Lx,hX⟩,Ly,Lz,BN⟩:=h;obtain⟨c1,c2,c3⟩:=BN j C xR GW DU zG;obtain⟨c8,hs,zH,hF',Ri,jm,hta⟩:=ajC (mA:=mA) dN hX hF c1 c2 c3 iQ;have Z:∀ k,(L ||| 2 ^ j).testBit k=false -> L.testBit k=false:=by
  intro k D;rw[zF,mU]at D;exact D.1
 refine⟨c8,hs,zH,hF',λt r E k O D T U Y=>jt t r E k O D T (Z k U) Y,⟨λx hx k O D T U Y=>Lx x hx k O D T (Z k U) Y,λx hx=>jm x (hX x hx) (.inl (Lx x hx j C xR GW DU zG))⟩,λt E k O D T U Y=>Ly t E k O D T (Z k U) Y,λt E k O D T U Y=>Lz t E k O D T (Z k U) Y,λk O D T U Y=>?_⟩
 obtain⟨d1,d2,d3⟩:=BN k O D T (Z k U) Y
 refine⟨d1,d2.gU (λt r j' E h=>?_) (λt h E=>jm t E (Ly t h j C xR GW DU zG)) (λt h E=>hta t E (Lz t h j C xR GW DU zG)),d3⟩
 grind
def A.R6(y:A)(a b:Nat):(y.drop a).drop b=(y.drop b).drop a:=A.oG y _ _
def aS.R6(y:aS)(a b:Nat):(y.drop a).drop b=(y.drop b).drop a:=aS.oG y _ _
def mE.drop(h:mE e u){n:Nat}(hn:e≠n):u.drop n=u:=by
 rcases h with rfl|rfl
 ·simp only[A.drop,oH hn,ax,A.cq,wW]
 ·have:cG n [e]=false:=by simp[cG,hn]
  simp only[A.drop,Lf.drop,this,ax,A.cq,wW,Lf.cq]
def mE.de(h:mE e u){ns cn:aa Nat}(D:cW e ns=false)(C:cW e cn=false):u.de ns cn=u:=by
 rcases h with rfl|rfl
 ·simp only[A.de,C,ax,A.cq,vw]
 ·have E:fQ [e] ns=false:=D;have I:fQ [e] cn=false:=C;simp only[A.de,Lf.de,E,I,A.cq,vw,Lf.cq];rfl
def rJ(k:Nat):(cx e x u σ).t k=if k=e then u else (σ.t k).drop e:=by
 by_cases C:k=e
 ·subst C;rw[aV rfl];exact bK _ _ _
 ·rw[aW C];exact cr _ _ _ C
def oX(n:Nat):(cx e x u σ).m n=if n=e then some x else (σ.m n).map (aS.drop e):=by
 show bG (λr=>bif Nat.beq r e then none else (σ.m r).map (aS.drop e)) e (some x) n=_;by_cases hn:n=e
 ·subst hn;rw[aV rfl,bK]
 ·rw[aW hn,cr _ _ _ hn,oH hn];rfl
def R7(c:Nat)(y:aS)(k:Nat):((σ.drop c).root c y).t k=(σ.t k).drop c:=rfl
def YU(c:Nat)(y:aS)(n:Nat):((σ.drop c).root c y).m n=if n=c then some y else (σ.m n).map (aS.drop c):=by
 show bG (λr=>bif Nat.beq r c then none else (σ.m r).map (aS.drop c)) c (some y) n=_;by_cases hn:n=c
 ·subst hn;rw[aV rfl,bK]
 ·rw[aW hn,cr _ _ _ hn,oH hn];rfl
def YV{c:Nat}(z:V)(E:kr x)(I:mE e u)(O:e≠c):((cx e x u σ).drop c).root c (.sl z)=cx e x u ((σ.drop c).root c (.sl z)):=by
 refine S.ext' (λk=>?_) λn=>?_
 ·rw[R7,rJ,rJ,R7];by_cases C:k=e
  ·rw[aV C,aV C];exact I.drop O
  ·rw[aW C,aW C];exact A.oG _ _ _
 ·rw[YU,oX,oX,YU];by_cases hn:n=c
  ·rw[aV hn,aW,aV hn];rfl
  ·rw[aW hn];by_cases D:n=e
   ·rw[aV D,aV D];simp only[Option.map_some,E.drop]
   ·rw[aW D,aW D,aW hn,Option.map_map,Option.map_map];congr 1;funext y;exact aS.oG y _ _
def LA(C:kr x)(D:mE e u):∀ (xs:aa V) (c:Nat) (σ:S),e<c -> mh c (cx e x u σ) xs=cx e x u (mh c σ xs)
 |[],c,σ,_=>rfl
 | y :: xs,c,σ,h=>by
  simp[mh];cases E:y.aG with
  |true=>exact LA C D xs _ σ (by omega)
  | false=>
   rw[YV y C D (by omega)];exact LA C D xs _ _ (by omega)
def YW(C:kr x)(D:mE e u):∀ (ps:aa Pt) (c:Nat) (σ:S),e<c -> nX c (cx e x u σ) ps=cx e x u (nX c σ ps)
 |[],c,σ,_=>rfl
 | q :: ps,c,σ,h=>by
  simp[nX];rw[LA C D _ _ _ h];exact YW C D ps _ _ (by omega)
def LB{v:A}(hd:d≠e)(hv:v.drop e=v):(cx e x u σ).set d v=cx e x u (σ.set d v):=by
 refine S.ext' (λk=>?_) λn=>?_
 ·show bG (cx e x u σ).t d v k=_;rw[rJ];show _=if k=e then u else (bG σ.t d v k).drop e;by_cases C:k=d
  ·subst C;rw[bK,aW hd,bK,hv]
  ·rw[cr _ _ _ C,cr _ _ _ C,rJ]
 ·rfl
def ajH{v:A}{C:aj Tmp}(hd:C≠some e)(hv:v.drop e=v):gk (cx e x u σ) C v=cx e x u (gk σ C v):=by
 cases C with
 |none=>rfl
 |some d=>exact LB (by rintro rfl;exact hd rfl) hv
def ajI{ns cn:aa Nat}{nr:aa (Nat×aS)}(O:kr x)(T:mE e u)(D:cW e ns=false)(E:cW e cn=false)(I:∀ q∈nr,q.1≠e/\q.2.drop e=q.2):(cx e x u σ).de ns cn nr=cx e x u (σ.de ns cn nr):=by
 have hl:nr.lookup e=none:=by
  cases hl:nr.lookup e with
  |none=>rfl
  |some y=>exact absurd rfl (I _ (Ls hl)).1
 refine S.ext' (λk=>?_) λn=>?_
 ·show ((cx e x u σ).t k).de ns cn=_;rw[rJ,rJ];by_cases C:k=e
  ·rw[aV C,aV C];exact T.de D E
  ·rw[aW C,aW C];exact A.oG _ _ _
 ·rw[oX];show (match nr.lookup n with | some x=>some x | none=>bif cW n ns || cW n cn then none else ((cx e x u σ).m n).map (aS.de ns cn))=if n=e then some x else (match nr.lookup n with | some x=>some x | none=>bif cW n ns || cW n cn then none else (σ.m n).map (aS.de ns cn)).map (aS.drop e);by_cases hn:n=e
  ·subst hn;rw[aV rfl,hl,D,E];simp only[Bool.or_false,ax,oX,if_true,Option.map_some,O.de]
  ·rw[aW hn];cases hq:nr.lookup n with
   |some y=>simp only[Option.map_some];rw[(I _ (Ls hq)).2]
   | none=>
    simp only;cases (cW n ns ||cW n cn)with
    |true=>rfl
    | false=>
     simp only[ax];rw[oX,aW hn,Option.map_map,Option.map_map];congr 1;funext y;exact aS.oG y _ _
/-! What a call reads. -/
def YX{q:aa Nat}{k:V->aj X}(h:cG e q=false):iY (cx e x u σ).m q k=iY σ.m q k:=ajl q k h
def xS{y:Operand}(h:(aK σ y).nr p=true)(hp:p e=true)(C:y ≠ .tmp e):aK (cx e x u σ) y=aK σ y:=by
 cases y with
 | tmp t=>
  show (cx e x u σ).t t=σ.t t;rw[rJ,aW (by rintro rfl;exact C rfl)];exact A.zw h hp
 |_=>rfl
def R8{l:Lf}{k:V->aj X}(h:l.nr p=true)(hp:p e=true):oK (cx e x u σ) l k=oK σ l k:=by
 cases l with
 |own q=>exact YX (Yb h hp)
 |_=>rfl
def YY{q:aa Nat}{s i j:Nat}{k:V->aj X}(h:n5 p q=true)(hp:p e=true):vj (cx e x u σ) q s i j k=vj σ q s i j k:=by
 unfold vj;exact YX (Yb h hp)
def ajJ{y:A}{k:V->aj X}(h:y.nr p=true)(hp:p e=true):sy (cx e x u σ) y k=sy σ y k:=by
 cases y with
 |lf l=>exact R8 h hp
 |view q s i j=>exact YY h hp
 |_=>rfl
def R9(hp:p e=true):∀ (xs:aa Lf) (k:aa V -> aj X),xs.all (Lf.nr p)=true -> q8 (cx e x u σ) xs k=q8 σ xs k
 |[],k,_=>rfl
 | y :: xs,k,h=>by
  rw[List.all_cons,aJ]at h;simp[q8,R8 h.1 hp];congr 1;funext z;exact R9 hp xs _ h.2
def ajK{y:A}{k:Pt->aj X}(h:y.nr p=true)(hp:p e=true):nU (cx e x u σ) y k=nU σ y k:=by
 cases y with
 |lf l=>simp only[nU];exact R9 hp _ _ (by rw[List.all_cons,show l.nr p=true from h];rfl)
 |agg cs=>simp only[nU];exact R9 hp _ _ h
 |view q s i j=>simp only[nU];exact YY h hp
 |iW cs=>cases cs<;>rfl
 |_=>rfl
def YZ(hp:p e=true):∀ (xs:aa Operand) (k:aa Pt->aj X),(∀ y∈xs,(aK σ y).nr p=true/\y ≠ .tmp e)->sG (cx e x u σ) xs k=sG σ xs k
 |[],k,_=>rfl
 | y :: xs,k,h=>by
  obtain⟨C,D⟩:=h y (.head _);unfold sG vp;rw[xS C hp D,ajK C hp];congr 1;funext z;exact YZ hp xs _ (λy E=>h y (.tail _ E))
def Sa{ns:aa Nat}(hp:p e=true):∀ (xs:aa Lf) (k:aa V -> aj X),xs.all (Lf.nr p)=true -> sK (cx e x u σ) ns xs k=sK σ ns xs k
 |[],k,_=>rfl
 | y :: xs,k,h=>by
  rw[List.all_cons,aJ]at h;simp[sK,R8 h.1 hp];congr 2;funext z;exact Sa hp xs _ h.2
def Y0{d:Nat}:∀ (xs:aa Lf),qW (xs.map (Lf.drop d))=qW xs
 |[]=>rfl
 | x :: xs=>by
  have C:(x.drop d).pl=x.pl:=by
   cases x with
   | own k=>
    show (bif cG d k then _ else Lf.own k).pl=_;cases cG d k<;>rfl
   |_=>rfl
  simp[List.map_cons,qW,C,Y0]
def ajL{ns:aa Nat}{y:A}{k:Pt->aj X}(h:y.nr p=true)(hp:p e=true):rz (cx e x u σ) ns y k=rz σ ns y k:=by
 cases y with
 |lf l=>simp only[rz];exact Sa hp _ _ (by rw[List.all_cons,show l.nr p=true from h];rfl)
 |agg cs=>simp only[rz];exact Sa hp _ _ h
 |m7 f cs=>cases cs<;>rfl
 | fn f cap=>
  match cap,h with
  |[],_=>rfl
  |_::_::_,_=>rfl
  | [(C,j)],h=>
   have D:p C=false:=by simpa [A.nr,A.fr,uk]using h
   have E:C≠e:=by rintro rfl;rw[hp]at D;cases D
   simp only[rz,oX,aW E];cases σ.m C with
   |none=>rfl
   | some z=>
    cases z with
    |aB cs=>simp only[Option.map_some,aS.GO,<-List.map_drop,Y0]
    |_=>rfl
 |_=>rfl
def ajM{l:Lf}(h:l.nr p=true)(hp:p e=true):vz (cx e x u σ).m l=vz σ.m l:=by
 cases l with
 | own k=>
  match k with
  |[]=>rfl
  | [q]=>
   have hq:q≠e:=by
    have h:(!p q)=true:=by simpa [Lf.nr,Lf.fr,n5,iN]using h
    rintro rfl;rw[hp]at h;cases h
   simp only[vz];rw[oX,aW hq];cases σ.m q with
   |none=>rfl
   |some y=>cases y<;>rfl
  |_::_::_=>rfl
 |v x=>rfl
 |dead=>rfl
def Y1(hp:p e=true):∀ (C:aa Lf),C.all (Lf.nr p)=true -> ru (cx e x u σ).m C=ru σ.m C
 |[],_=>rfl
 | l :: C,h=>by
  rw[List.all_cons,aJ]at h;simp[ru,ajM h.1 hp,Y1 hp C h.2]
def Y2{m:Nat->aj aS}:∀ {cs:aa Lf} {D:aa (V×aj Nat)},ru m cs=some D->cs.all (Lf.nr p)=true->∀ v∈D,∀ q,v.2=some q->p q=false
 |[],D,h,_=>by injection h with h;subst h;simp
 | c :: cs,D,h,E=>by
  rw[List.all_cons,aJ]at E;unfold ru at h;split at h
  ·rename_i v U C O;injection h with h;subst h;intro u hu q hq;rcases gv.1 hu with rfl | hu
   ·unfold vz at C;split at C
    ·injection C with C;rw[<-C]at hq;cases hq
    ·rename_i Y;split at C
     ·rename_i y _;cases I:y.aG with
      |true=>rw[I]at C;injection C with C;rw[<-C]at hq;cases hq
      | false=>
       rw[I,ax]at C;injection C with C;rw[<-C]at hq;injection hq with hq;subst hq;have T:=E.1
       simpa [Lf.nr,Lf.fr,n5,iN]using T
     ·cases C
    ·cases C
   ·exact Y2 O E.2 u hu q hq
  ·cases h
def LC(p:Nat->Bool):Mu->Prop
 |.aB r cs C=>p r=false/\cs.all (Lf.nr p)=true/\∀v∈C,∀q,v.2=some q->p q=false
 |.sl q _=>p q=false
def Sb(hp:p e=true):∀ (ps:aa PK) (xs:aa Operand) (I:aa Mu),(∀ y∈xs,(aK σ y).nr p=true/\y ≠ .tmp e)->(∀ n∈iJ σ ps xs,xO σ p n=true)->jq σ ps xs=some I->jq (cx e x u σ) ps xs=some I/\∀ C∈I,LC p C
 |[],[],I,_,_,h=>⟨h,by injection h with h;subst h;simp⟩
 |[],_::_,I,_,_,h=>by cases h
 |_::_,[],I,_,_,h=>by cases h
 | q :: ps,y :: xs,I,Z,hl,h=>by
  obtain⟨E,h2⟩:=Z y (.head _);have zg:∀ n∈iJ σ ps xs,xO σ p n=true:=by
   intro n hn;refine hl n ?_;cases q with
   |v=>exact hn
   |s=>exact hn
   | p t g off=>
    simp only[iJ];split
    ·exact .tail _ hn
    ·exact hn
  unfold jq at h;have D:∀ z,vA σ q (aK σ y)=some z->vA (cx e x u σ) q (aK (cx e x u σ) y)=some z/\∀ C,z=some C->LC p C:=by
   intro z hz;rw[xS E hp h2];have O:=vD hz;cases q with
   | v=>
    cases z with
    |some C=>exact O.elim
    |none=>exact⟨hz,by simp⟩
   | p t g off=>
    cases z with
    |none=>exact O.elim
    | some C=>
     cases C with
     |sl=>exact O.elim
     | aB U cs vs=>
      obtain⟨T,hm,hg,hlen⟩:=O;have fJ:p U=false:=by
       rw[T]at E;have E:(!p U)=true:=E
       simpa using E
      have bY:U≠e:=by rintro rfl;rw[hp]at fJ;cases fJ
      have Y:cs.all (Lf.nr p)=true:=by
       have:=hl U (by simp only[iJ,T];exact .head _);unfold xO at this;rw[hm]at this;exact this
      have sC:(cx e x u σ).m U=some (.aB cs):=by
       rw[oX,aW bY,hm];simp only[Option.map_some,aS.GO,qT.zw Y hp]
      refine⟨?_,λC D=>?_⟩
      ·rw[T];simp only[vA,Nat.beq_refl,au,sC,Y1 hp cs Y,hg];have:Nat.blt cs.length 999=true:=jj hlen;rw[this];rfl
      ·injection D with D;subst D;exact⟨fJ,Y,Y2 hg Y⟩
   | s t g=>
    cases z with
    |none=>exact O.elim
    | some C=>
     cases C with
     |aB=>exact O.elim
     | sl q y0=>
      obtain⟨T,hm,hf⟩:=O;have hq:p q=false:=by
       rw[T]at E;have E:(!p q)=true:=by simpa [A.nr,A.fr,uk,Lf.nr,Lf.fr,n5,iN]using E
       simpa using E
      have bY:q≠e:=by rintro rfl;rw[hp]at hq;cases hq
      refine⟨?_,λC D=>?_⟩
      ·rw[T];simp only[vA];rw[oX,aW bY,hm];simp only[Option.map_some,aS.drop,hf,ax,aS.cq]
      ·injection D with D;subst D;exact hq
  split at h
  ·rename_i C sL k1 k2;injection h with h;subst h;obtain⟨g1,g2⟩:=D _ k1;obtain⟨f1,f2⟩:=Sb hp ps xs sL (λy h=>Z y (.tail _ h)) zg k2
   refine⟨by simp only[jq,g1,f1],λm hm=>?_⟩
   rcases gv.1 hm with rfl|hm
   ·exact g2 _ rfl
   ·exact f2 m hm
  next sL k1 k2=>injection h with h;subst h;obtain⟨g1,g2⟩:=D _ k1;obtain⟨f1,f2⟩:=Sb hp ps xs sL (λy h=>Z y (.tail _ h)) zg k2;exact⟨by simp only[jq,g1,f1],f2⟩
  ·cases h
def LD(hp:p e=true)(ns:aa Nat):∀ (ps:aa PK) (xs:aa Operand) (C:aa Mu) (k:kZ ps->aj X),(∀ y∈xs,(aK σ y).nr p=true/\y ≠ .tmp e)->jr (cx e x u σ) ns ps xs C k=jr σ ns ps xs C k
 |[],[],[],k,_=>rfl
 | .v b t :: ps,y :: xs,C,k,h=>by
  obtain⟨E,I⟩:=h y (.head _);simp only[jr];rw[xS E hp I,ajL E hp];congr 1;funext z;congr 1;split
  ·exact LD hp ns ps xs C _ (λy D=>h y (.tail _ D))
  ·rfl
 | .p t g off :: ps,y :: xs,.aB O cs T :: C,k,h=>by
  simp only[jr];split
  ·exact LD hp ns ps xs C _ (λy D=>h y (.tail _ D))
  ·rfl
 | .s t g :: ps,y :: xs,.sl q U :: C,k,h=>by
  simp only[jr];split
  ·exact LD hp ns ps xs C _ (λy D=>h y (.tail _ D))
  ·rfl
 |[],[],_::_,k,_=>rfl
 |[],_::_,_,k,_=>rfl
 |.v _ _::_,[],_,k,_=>rfl
 |.p _ _ _::_,[],_,k,_=>rfl
 |.s _ _::_,[],_,k,_=>rfl
 |.p _ _ _::_,_::_,[],k,_=>rfl
 |.s _ _::_,_::_,[],k,_=>rfl
 |.p _ _ _::_,_::_,.sl _ _::_,k,_=>rfl
 |.s _ _::_,_::_,.aB _ _ _::_,k,_=>rfl
def Sc{i:Nat}:∀ (C:aa (V×aj Nat)) (j:Nat),(∀ v∈C,∀ q,v.2=some q -> p q=false) -> ∀ u∈DA i j C,p u.1=false
 |[],_,_,u,hu=>by cases hu
 |(y,none)::C,j,h,u,hu=>Sc C (j+1) (λv hv=>h v (.tail _ hv)) u hu
 | (y,some q) :: C,j,h,u,hu=>by
  rcases gv.1 hu with rfl|hu
  ·simp_all
  ·exact Sc C (j+1) (λv hv=>h v (.tail _ hv)) u hu
def Sd:∀ (C:aa Mu) (i:Nat),(∀ E∈C,LC p E) -> ∀ u∈ld i C,p u.1=false
 |[],_,_,u,hu=>by cases hu
 | .aB U cs I :: C,i,h,u,hu=>by
  obtain⟨O,Y,T⟩:=h _ (.head _);rcases gv.1 hu with rfl|hu
  ·exact O
  ·rcases gJ.1 hu with hu | hu
   ·exact Sc I 0 T u hu
   ·exact Sd C _ (λm D=>h m (.tail _ D)) u hu
 | .sl q y :: C,i,h,u,hu=>by
  rcases gv.1 hu with rfl|hu
  ·exact h _ (.head _)
  ·exact Sd C (i+1) (λm D=>h m (.tail _ D)) u hu
def Se{c0:Nat}(D:∀ n,c0 <= n -> p n=false):∀ (C:aa (V×aj Nat)) (n:Nat),(∀ v∈C,∀ q,v.2=some q -> p q=false) -> ∀ u∈mm c0 n C,p u=false
 |[],_,_,u,hu=>by cases hu
 | (y,none) :: C,n,h,u,hu=>by
  rcases gv.1 hu with rfl|hu
  ·simp_all
  ·exact Se D C (n+1) (λv hv=>h v (.tail _ hv)) u hu
 | (y,some q) :: C,n,h,u,hu=>by
  rcases gv.1 hu with rfl|hu
  ·simp_all
  ·exact Se D C (n+1) (λv hv=>h v (.tail _ hv)) u hu
def Sf:∀ (C:aa Nat) (xs:aa V),∀ u∈vE C xs,u∈C
 |[],[],u,hu=>by cases hu
 | n :: C,y :: xs,u,hu=>by
  simp[vE]at hu;cases D:y.aG with
  |true=>rw[D]at hu;exact .tail _ (Sf C xs u hu)
  | false=>
   rw[D]at hu;rcases gv.1 hu with rfl|hu
   ·simp_all
   ·exact .tail _ (Sf C xs u hu)
def Y3{ns cn:aa Nat}:∀ (C:aa Nat) (D:aa Lf) (xs:aa V),(∀ n∈C,p n=false)->D.all (Lf.nr p)=true->(oT ns cn C D xs).all (Lf.nr p)=true
 |[],_,_,_,_=>by simp[oT]
 |_::_,[],_,_,_=>by simp[oT]
 |_::_,_::_,[],_,_=>by simp[oT]
 | n :: C,l :: D,y :: xs,I,E=>by
  rw[List.all_cons,aJ]at E;simp only[oT,List.all_cons,aJ]
  refine⟨?_,Y3 C D xs (λn hn=>I n (.tail _ hn)) E.2⟩
  cases y.plain with
  |true=>rfl
  | false=>
   simp only[ax];cases y.aG with
   | true=>
    simp only[au];cases l with
    | own k=>
     have O:Lf.de ns cn (.own k)=(bif fQ k cn ||(fQ k ns && !(Nat.beq k.length 1))then .dead else .own k):=rfl;rw[O];cases (fQ k cn ||(fQ k ns && !(Nat.beq k.length 1)))with
     |true=>rfl
     |false=>exact E.1
    |v x=>rfl
    |dead=>rfl
   | false=>
    show (!p n)=true;rw[I n (.head _)];rfl
def Sg:∀ (C:aa Nat) (xs:aa V),∀ u∈uh C xs,u.1∈C /\ ∃ y,u.2 = .sl y
 |[],[],u,hu=>by cases hu
 |[],_::_,u,hu=>by cases hu
 | n :: C,y :: xs,u,hu=>by
  simp[uh]at hu;cases I:y.aG with
  |true=>rw[I]at hu;obtain⟨D,E⟩:=Sg C xs u hu;exact⟨.tail _ D,E⟩
  | false=>
   rw[I]at hu;rcases gv.1 hu with rfl|hu
   ·simp_all
   ·obtain⟨D,E⟩:=Sg C xs u hu;exact⟨.tail _ D,E⟩
def Sh{c0:Nat}{ns cn:aa Nat}(hp:p e=true)(O:∀ n,c0<=n->p n=false):∀ (D:aa Mu) (outs:aa In) (C:Nat),(∀ mu∈D,LC p mu)->(∀ u∈nu c0 C D outs,p u=false)/\∀ u∈lu ns cn c0 C D outs,u.1≠e/\u.2.drop e=u.2
 |[],outs,C,_=>⟨(λu hu=>by simp[nu]at hu),(λu hu=>by simp[lu]at hu)⟩
 |.aB _ _ _::_,[],C,_=>⟨(λu hu=>by cases hu),(λu hu=>by cases hu)⟩
 |.sl _ _::_,[],C,_=>⟨(λu hu=>by cases hu),(λu hu=>by cases hu)⟩
 |.aB _ _ _::_,.sl _::_,C,_=>⟨(λu hu=>by cases hu),(λu hu=>by cases hu)⟩
 |.sl _ _::_,.aB _::_,C,_=>⟨(λu hu=>by cases hu),(λu hu=>by cases hu)⟩
 | .aB r' cs Z :: D,.aB xs :: outs,C,h=>by
  obtain⟨E,h2,h3⟩:=h _ (.head _);obtain⟨T,I⟩:=Sh (ns:=ns) (cn:=cn) hp O D outs (C+1+Z.length) (λm U=>h m (.tail _ U));have bY:∀n,p n=false->n≠e:=by rintro n hn rfl;rw[hp]at hn;cases hn
  have Y:=Se O Z (C+1) h3
  refine⟨λu hu=>?_,λu hu=>?_⟩
  ·simp only[nu]at hu;rcases gJ.1 hu with hu | hu
   ·exact Y u (Sf _ _ u hu)
   ·exact T u hu
  ·simp only[lu]at hu;rcases gv.1 hu with rfl | hu
   ·refine⟨bY _ E,?_⟩;rw[aS.GO,qT.zw (Y3 _ _ _ Y h2) hp]
   ·rcases gJ.1 hu with hu | hu
    ·obtain⟨g1,y,g2⟩:=Sg _ _ u hu;exact⟨bY _ (Y _ g1),by rw[g2];rfl⟩
    ·exact I u hu
 | .sl q y :: D,.sl y' :: outs,C,h=>by
  have E:p q=false:=h _ (.head _);obtain⟨T,I⟩:=Sh (ns:=ns) (cn:=cn) hp O D outs (C+1) (λm U=>h m (.tail _ U))
  refine⟨λu hu=>T u (by simpa [nu]using hu),λu hu=>?_⟩
  simp only[lu]at hu;cases hy:y'.kf with
  |false=>rw[hy]at hu;exact I u hu
  |true=>
  rw[hy]at hu;rcases gv.1 hu with rfl|hu
  ·exact⟨(by rintro rfl;rw[hp]at E;cases E),rfl⟩
  ·exact I u hu
def Si:∀ (xs:aa V) (c:Nat),e<c->(nW c xs).map (Lf.drop e)=nW c xs
 |[],_,_=>rfl
 | y :: xs,c,h=>by
  simp only[nW,List.map_cons];rw[Si xs (c+1) (by omega)];cases y.aG with
  |true=>rfl
  | false=>
   have:cG e [c]=false:=by simp[cG];omega
   simp only[ax,Lf.drop,this,Lf.cq]
def ajN{b:Bool}{xs:aa Lf}{y:A}(h:yV (b,xs)=some y)(C:xs.map (Lf.drop e)=xs):y.drop e=y:=by
 unfold yV at h;split at h
 next D=>injection h with h;subst h;obtain⟨_,rfl⟩:=D;exact bz A.agg C
 next z D=>injection h with h;subst h;obtain⟨_,rfl⟩:=D;simp at C;exact bz A.lf C
 ·cases h
def Y4:∀ (ps:aa Pt) (c:Nat),e<c->(sH c ps).map (λq=>(q.1,q.2.map (Lf.drop e)))=sH c ps
 |[],_,_=>rfl
 | q :: ps,c,h=>by
  simp only[sH,List.map_cons];rw[Si _ _ h,Y4 ps _ (by omega)]
def ajO(ps:aa Pt)(c:Nat)(h:e<c):A.drop e (.eY (sH c ps)) = .eY (sH c ps):=bz A.eY (Y4 ps c h)
def Y5(C:kr x)(D:mE e u)(T:e<20000)(hd:d≠e){E:fV}{I:S}(h:ni σ d E some=some I):ni (cx e x u σ) d E some=some (cx e x u I):=by
 unfold ni at h ⊢;split at h
 ·split at h
  next y O=>injection h with h;subst h;rw[LA C D _ _ _ (by omega),LB hd (ajN O (Si _ _ (by omega)))]
  ·cases h
 ·injection h with h;subst h;rw[YW C D _ _ _ (by omega),LB hd (ajO _ _ (by omega))]
def ajP(I:kr x)(O:mE e u)(T:e<20000){C:aj Tmp}(hd:C≠some e){E:fV}{D:S}(h:qb N σ C E some=some D):qb N (cx e x u σ) C E some=some (cx e x u D):=by
 cases C with
 | none=>
  have h:some σ=some D:=h;injection h with h;rw[<-h];rfl
 | some d=>
  unfold qb at h ⊢;cases hN:Nat.blt d N with
  |false=>simp only[hN,ax]at h;cases h
  | true=>
   simp only[hN,au]at h ⊢;exact Y5 I O T (by rintro rfl;exact hd rfl) h
def ajQ(dN:fK P Φ)(Y:kr x)(T:mE e u)(he:e<20000)(hp:p e=true)(zI:∀ n,20000<=n->p n=false)(C:ny Φ o=true)(hd:o.dst≠some e)(sU:∀ y∈o.op.operands,(aK σ y).nr p=true/\y ≠ .tmp e)(hl:∀ n∈oU Φ σ o,xO σ p n=true){τ:S}
  (h:dA P N Φ σ o some=some τ):dA P N Φ (cx e x u σ) o some=some (cx e x u τ):=by
 have vJ:∃ f args jJ,o.op = .call { callee:=.value (.func f),args:=args,argTypes:=jJ }:=by
  unfold ny at C;split at C
  ·exact⟨_,_,_,by assumption⟩
  ·cases C
 obtain⟨f,args,jJ,D⟩:=vJ;have Z:∀ y∈args.toList,(aK σ y).nr p=true/\y ≠ .tmp e:=by
  intro y hy;refine sU y ?_;rw[D];simp only[Op.operands,Call.operands];simp only[Array.mem_append]
  first
   |exact .inr (by simpa using hy)
   |exact .inl (by simpa using hy)
 have eU:∀ σ2,dA P N Φ σ2 o some=ir P N Φ σ2 o some:=by
  intro σ2;unfold dA;rw[show fL o.op=false by rw[D];rfl,ax]
 rw[eU]at h ⊢;cases I:Φ f with
 |none=>simp only[ir,D,I]at h;cases h
 | some c=>
  cases c with
  |n F=>rw[ny,D]at C;simp[I]at C
  |v c=>rw[ny,D]at C;simp[I]at C
  |i c=>rw[ny,D]at C;simp[I]at C
  |d c=>rw[ny,D]at C;simp[I]at C
  |q c=>rw[ny,D]at C;simp[I]at C
  |c c=>rw[ny,D]at C;simp[I]at C
  | p c=>
   simp only[ir,D,I]at h ⊢;obtain⟨d,U,h⟩:=jM h;have hde:d≠e:=by rintro rfl;exact hd U
   obtain⟨res,sD,h1,E,h3⟩:=K2 (GQ dN I) DK h;injection E with E;subst E;simp only[gF,U];exact(h3 (cx e x u σ) (cx e x u sD) (λX k=>sG (cx e x u σ) args.toList k) (λX k=>YZ hp _ k Z) (Y5 Y T he hde h1)).at_ _
  | m c=>
   simp only[ir,D,I]at h ⊢;have zv:∀ n∈iJ σ c.ps args.toList,xO σ p n=true:=by
    intro n hn;refine hl n ?_;simp only[oU,D,I];exact hn
   unfold nZ at h;split at h
   ·rename_i O uj;obtain⟨g1,g2⟩:=Sb (x:=x) (u:=u) hp c.ps args.toList O Z zv uj;cases lS:(once (ld 0 O)&&Nat.ble O.length 40)with
    |false=>rw[lS]at h;cases h
    | true=>
     rw[lS,au]at h;obtain⟨z,E,Y6⟩:=(K8 _ _ _).lM h;simp only[nZ,g1,lS,au];rw[LD hp _ _ _ _ _ Z];refine(Y6 S _).trans ?_;split at E
     ·rename_i y hy;unfold DD at E ⊢;generalize oQ:nu (iq o.dst) (eT c.ro y.1).len O (iP (eF c.ps) y.2)=cn at E;generalize jt:DC N O (iP (eF c.ps) y.2) cn=ok at E;cases ok with
      |false=>cases E
      | true=>
       rw[au]at E;have rq:∀ n,iq o.dst<=n->p n=false:=by
        intro n hn;refine zI n ?_;cases U:o.dst with
        |none=>rw[U]at hn;simp only[iq]at hn;omega
        |some d=>rw[U]at hn;simp only[iq]at hn;omega
       obtain⟨k1,k2⟩:=Sh (ns:=(ld 0 O).map (·.1)) (cn:=cn) hp rq O (iP (eF c.ps) y.2) (eT c.ro y.1).len g2;rw[oQ]at k1;rw[au,ajI Y T ?_ ?_ k2]
       ·exact ajP Y T he hd E
       ·cases hm:cW e ((ld 0 O).map (·.1))with
        |false=>rfl
        | true=>
         obtain⟨u,T,e1⟩:=List.mem_map.1 (ud.1 hm);have:=Sd O 0 g2 u T;rw[e1,hp]at this;cases this
       ·cases hm:cW e cn with
        |false=>rfl
        |true=>have:=k1 e (ud.1 hm);rw[hp]at this;cases this
     ·cases E
   ·cases h
def A.Y7{y:A}(h:y.fL=true)(K:m8):y.cq K=y:=by
 refine A.oF ?_;cases y with
 |lf l=>cases l<;>first|rfl|cases h
 | agg cs=>
  refine bT.2 λl hl=>?_
  have:=bT.1 h l hl;cases l<;>first|rfl|cases this
 |_=>cases h
def A.LF{y:A}(h:y.fL=true)(n:Nat):y.drop n=y:=A.Y7 h _
def A.ajR{y:A}(h:y.fL=true)(ns cn:aa Nat):y.de ns cn=y:=A.Y7 h _
def Sj:∀ (xs:aa V) (c:Nat) (σ:S) {t:Nat},(σ.t t).fL=true -> (mh c σ xs).t t=σ.t t
 |[],c,σ,t,h=>rfl
 | y :: xs,c,σ,t,h=>by
  simp[mh];cases y.aG with
  |true=>exact Sj xs _ σ h
  | false=>
   simp;have C:(((σ.drop c).root c (.sl y)).t t)=σ.t t:=by rw[R7];exact A.LF h c
   rw[Sj xs _ _ (by rw[C];exact h),C]
def Y8:∀ (ps:aa Pt) (c:Nat) (σ:S) {t:Nat},(σ.t t).fL=true -> (nX c σ ps).t t=σ.t t
 |[],c,σ,t,h=>rfl
 | q :: ps,c,σ,t,h=>by
  simp[nX];have C:=Sj q.2 c σ h;rw[Y8 ps _ _ (by rw[C];exact h),C]
def Y9{D:fV}{C:S}(h:ni σ d D some=some C){t:Nat}(E:(σ.t t).fL=true)(hd:t≠d):C.t t=σ.t t:=by
 obtain⟨ps,u,I⟩:=RR h;rw[I]at h;injection h with h;rw[<-h];exact(cr _ _ _ hd).trans (Y8 _ _ _ E)
def ajS{C:aj Tmp}{E:fV}{D:S}(h:qb N σ C E some=some D){t:Nat}(I:(σ.t t).fL=true)(hd:C≠some t):D.t t=σ.t t:=by
 cases C with
 | none=>
  have h:some σ=some D:=h;injection h with h;rw[<-h]
 | some d=>
  unfold qb at h;cases hN:Nat.blt d N with
  |false=>simp only[hN,ax]at h;cases h
  | true=>
   simp only[hN,au]at h;exact Y9 h I (by rintro rfl;exact hd rfl)
def ajT(dN:fK P Φ)(C:ny Φ o=true){U:S}(h:dA P N Φ σ o some=some U){t:Nat}(T:(σ.t t).fL=true)(hd:o.dst≠some t):U.t t=σ.t t:=by
 have vJ:∃ f args Y,o.op = .call { callee:=.value (.func f),args:=args,argTypes:=Y }:=by
  unfold ny at C;split at C
  ·exact⟨_,_,_,by assumption⟩
  ·cases C
 obtain⟨f,args,Y,E⟩:=vJ;have eU:dA P N Φ σ o some=ir P N Φ σ o some:=by
  unfold dA;rw[show fL o.op=false by rw[E];rfl,ax]
 rw[eU]at h;cases I:Φ f with
 |none=>simp only[ir,E,I]at h;cases h
 | some c=>
  cases c with
  |n F=>rw[ny,E]at C;simp[I]at C
  |v c=>rw[ny,E]at C;simp[I]at C
  |i c=>rw[ny,E]at C;simp[I]at C
  |d c=>rw[ny,E]at C;simp[I]at C
  |q c=>rw[ny,E]at C;simp[I]at C
  |c c=>rw[ny,E]at C;simp[I]at C
  | p c=>
   simp only[ir,E,I]at h;obtain⟨d,rH,h⟩:=jM h;obtain⟨res,sD,h1,D,h3⟩:=K2 (GQ dN I) DK h;injection D with D;subst D;exact Y9 h1 T (by rintro rfl;exact hd rH)
  | m c=>
   simp only[ir,E,I]at h;unfold nZ at h;split at h
   ·rename_i O uj;cases Z:(once (ld 0 O)&&Nat.ble O.length 40)with
    |false=>rw[Z]at h;cases h
    | true=>
     rw[Z,au]at h;obtain⟨z,D,Y6⟩:=(K8 _ _ _).lM h;split at D
     ·rename_i y hy;unfold DD at D;generalize DC N O (iP (eF c.ps) y.2) (nu (iq o.dst) (eT c.ro y.1).len O (iP (eF c.ps) y.2))=ok at D;cases ok with
      |false=>cases D
      | true=>
       rw[au]at D;have e1:∀ns cn nr,(σ.de ns cn nr).t t=σ.t t:=λns cn nr=>A.ajR T ns cn
       have:=ajS (t:=t) D (by rw[e1];exact T) hd;rw[this,e1]
     ·cases D
   ·cases h
def ajU{E:Nat}{I:aS}{O:A}(T:kr x)(U:mE e u)(Y:kr I)(Z:mE E O)(h:e≠E):cx E I O (cx e x u σ)=cx e x u (cx E I O σ):=by
 refine S.ext' (λk=>?_) λn=>?_
 ·simp only[rJ];by_cases C:k=E
  ·subst C;rw[aV rfl,aW (Ne.symm h),aV rfl,Z.drop (Ne.symm h)]
  ·rw[aW C];by_cases D:k=e
   ·subst D;rw[aV rfl,aV rfl,U.drop h]
   ·rw[aW D,aW D,aW C,A.R6]
 ·simp only[oX];by_cases C:n=E
  ·subst C;rw[aV rfl,aW (Ne.symm h),aV rfl,Option.map_some,Y.drop]
  ·rw[aW C];by_cases D:n=e
   ·subst D;rw[aV rfl,aV rfl,Option.map_some,T.drop]
   ·rw[aW D,aW D,aW C];cases σ.m n with
    |none=>rfl
    |some y=>simp only[Option.map_some,aS.R6]
def ajV(O:kr x)(T:mE e u)(hp:p e=true)(U:n6 o=true)(hd:o.dst≠some e)(C:∀ y∈o.op.operands,(aK σ y).nr p=true/\y ≠ .tmp e){D:S}
  (h:dA P N Φ σ o some=some D):dA P N Φ (cx e x u σ) o some=some (cx e x u D):=by
 obtain⟨Y,x',u',Z,Gg,lO,vk,iQ,oW⟩:=Lu (o:={ o with guard:=none }) (ops:=#[]) U rfl h;have bY:e≠Y:=by rintro rfl;exact hd Z
 have E:=oW (cx e x u σ) rfl λy I=>xS (C y I).1 hp (C y I).2
 rw[ajU O T lO vk bY,<- iQ]at E;exact E
def ajW(D:n6 o=true){C:S}(h:dA P N Φ σ o some=some C){t:Nat}(E:(σ.t t).fL=true)(hd:o.dst≠some t):C.t t=σ.t t:=by
 obtain⟨I,Y,Z,O,Gg,lO,vk,T,oW⟩:=Lu (o:={ o with guard:=none }) (ops:=#[]) D rfl h;have U:t≠I:=by rintro rfl;exact hd O
 rw[T,rJ,aW U,A.LF E]
def ajX(Z:kr x)(hu:mE e u)(hp:p e=true)(hm:isApp o=true)(hd:o.dst≠some e)(I:∀ y∈o.op.operands,(aK σ y).nr p=true/\y ≠ .tmp e){O:S}
  (h:dA P N Φ σ o some=some O):dA P N Φ (cx e x u σ) o some=some (cx e x u O):=by
 obtain⟨a,b,t,t',E,hn,nc,hk⟩:=R2 hm;have D:=I a (by rw[E];simp[Op.operands,Call.operands]);have hb:=I b (by rw[E];simp[Op.operands,Call.operands]);rw[GU E hn nc hk]at h ⊢;obtain⟨d,T,h⟩:=jM h;obtain⟨r,v,iQ,hr,oW⟩:=Lv h;have U:d≠e:=by rintro rfl;exact hd T
 have Y:r≠e:=by
  rcases hr with h1|h1
  ·rw[h1];exact U
  ·rintro rfl;have C:=D.1;rw[h1]at C;simp[A.nr,A.fr,uk,Lf.nr,Lf.fr,n5,iN,hp]at C
 unfold gF;rw[T];simp only;rw[xS D.1 hp D.2,xS hb.1 hp hb.2,oW (cx e x u σ) (λk=>ajJ hb.1 hp) (λr' v' fJ sC=>?_)]
 ·rw[YV v Z hu (Ne.symm Y),LB U ?_,iQ];have:cG e [r]=false:=by simp[cG,Y]
  simp only[A.drop,Lf.drop,this,ax,A.cq,wW,Lf.cq]
 ·have bY:r'≠e:=by
   rintro rfl;have C:=D.1;rw[fJ]at C;simp[A.nr,A.fr,uk,Lf.nr,Lf.fr,n5,iN,hp]at C
  rw[oX,aW bY,sC];rfl
def ajY(D:isApp o=true){C:S}(h:dA P N Φ σ o some=some C){t:Nat}(E:(σ.t t).fL=true)(hd:o.dst≠some t):C.t t=σ.t t:=by
 obtain⟨a,b,t1,t2,I,hn,O,T⟩:=R2 D;rw[GU I hn O T]at h;obtain⟨d,U,h⟩:=jM h;obtain⟨r,v,Y,hr,oW⟩:=Lv h;have Z:t≠d:=by rintro rfl;exact hd U
 rw[Y];show bG ((σ.drop r).root r _).t d _ t=_;rw[cr _ _ _ Z];exact A.LF E r
def Za(C:∃ ty t y,o.op = .store ty (.tmp t) y/\o.dst=none /\ ∃ r j,σ.t t = .aL r j){I:S}(h:dA P N Φ σ o some=some I):∃ t y r j cs xs,o.op.operands = #[.tmp t,y]/\σ.t t = .aL r j/\(aK σ y).yT=some xs/\σ.m r=some (.aB cs)/\I=σ.root r (.aB (splice cs j xs)) /\
  ∀(σ2:S) (D:aa Lf),σ2.t t = .aL r j -> aK σ2 y=aK σ y -> σ2.m r=some (.aB D) -> D.length=cs.length -> dA P N Φ σ2 o some=some (σ2.root r (.aB (splice D j xs))):=by
 obtain⟨ty,t,y,C,hd,r,j,O⟩:=C;have T:∀ σ2:S,σ2.t t = .aL r j -> dA P N Φ σ2 o some=p6 P σ2 ty (.aL r j) (aK σ2 y) some:=by
  intro σ2 E;unfold dA;rw[show fL o.op=false by rw[C];rfl,ax];simp[ir,C,hd];have Y:aK σ2 (.tmp t) = .aL r j:=E;rw[Y,show xK _ _=false from rfl,ax]
 rw[T σ O]at h;unfold p6 at h;split at h
 ·rename_i n xs hn U;split at h
  ·rename_i hlen;simp only at h;split at h
   ·rename_i cs Z;split at h
    ·rename_i hj;cases hl:xs.all Lf.live with
     |false=>simp_all
     | true=>
      rw[hl,au]at h;injection h with h
      refine⟨t,y,r,j,cs,xs,by rw[C];rfl,O,U,Z,h.symm,λσ2 D h1 E h3 h4=>?_⟩
      rw[T σ2 h1,E];simp only[p6,hn,U,aV hlen,h3];rw[aV (by rw[h4];exact hj),hl];rfl
    ·cases h
   ·cases h
  ·cases h
 ·cases h
def Zb(C:GL o=true)(E:xN σ o=true):∃ ty t y,o.op = .store ty (.tmp t) y/\o.dst=none /\ ∃ r j,σ.t t = .aL r j:=by
 unfold GL at C;rw[aJ]at C;obtain⟨D,I⟩:=C;split at D
 ·rename_i ty t y O;refine⟨ty,t,y,O,Option.isNone_iff_eq_none.1 I,?_⟩;unfold xN at E
  grind
 ·cases D
def ajZ{y:A}{xs:aa Lf}(h:y.yT=some xs)(hn:y.nr p=true):xs.all (Lf.nr p)=true:=by
 cases y with
 |lf l=>injection h with h;subst h;rw[List.all_cons,show l.nr p=true from hn];rfl
 |agg cs=>injection h with h;subst h;exact hn
 |_=>cases h
def aj0(hx:kr x)(hu:mE e u)(hp:p e=true)(Z:GL o=true)(hs:xN σ o=true)(E:∀ y∈o.op.operands,(aK σ y).nr p=true/\y ≠ .tmp e){I:S}
  (h:dA P N Φ σ o some=some I):dA P N Φ (cx e x u σ) o some=some (cx e x u I):=by
 obtain⟨t,y,r,j,cs,xs,O,T,g3,g4,g5,g6⟩:=Za (Zb Z hs) h;have C:=E (.tmp t) (by rw[O];simp);have D:=E y (by rw[O];simp);have e1:(cx e x u σ).t t = .aL r j:=(xS C.1 hp C.2).trans T;have U:r≠e:=by
  have Y:(aK σ (.tmp t)).nr p=true:=C.1;have h3:aK σ (.tmp t) = .aL r j:=T;rw[h3]at Y;exact ajm Y hp
 have e3:(cx e x u σ).m r=some (.aB (cs.map (Lf.drop e))):=by
  rw[oX,aW U,g4];rfl
 have oL:=qT.zw (ajZ g3 D.1) hp;rw[g6 (cx e x u σ) _ e1 (xS D.1 hp D.2) e3 (by rw[eS]),g5];congr 1
 refine S.ext' (λk=>?_) λn=>?_
 ·show (cx e x u σ).t k=(cx e x u (σ.root r (.aB (splice cs j xs)))).t k;rw[rJ,rJ];rfl
 ·show bG (cx e x u σ).m r (some (.aB (splice (cs.map (Lf.drop e)) j xs))) n=(cx e x u (σ.root r (.aB (splice cs j xs)))).m n;rw[oX];by_cases hn:n=r
  ·subst hn;rw[bK,aW U];show _=(bG σ.m n (some (aS.aB (splice cs j xs))) n).map (aS.drop e);rw[bK];simp only[Option.map_some,aS.GO,splice,List.map_append,List.map_take,List.map_drop,oL]
  ·rw[cr _ _ _ hn,oX];have:(σ.root r (.aB (splice cs j xs))).m n=σ.m n:=cr _ _ _ hn;rw[this]
def aj1(D:GL o=true)(E:xN σ o=true){C:S}(h:dA P N Φ σ o some=some C)(t:Nat):C.t t=σ.t t:=by
 obtain⟨_,_,r,j,cs,xs,_,_,_,_,I,_⟩:=Za (Zb D E) h;rw[I];rfl
def aj2(T:fK P Φ)(C:kr x)(D:mE e u)(U:e<20000)(hp:p e=true)(Y:∀ n,20000<=n->p n=false)(I:GM Φ o=true)(Z:xN σ o=true)(hd:o.dst≠some e)(E:∀ y∈o.op.operands,(aK σ y).nr p=true/\y ≠ .tmp e)(hl:∀ n∈oU Φ σ o,xO σ p n=true){O:S}
  (h:dA P N Φ σ o some=some O):dA P N Φ (cx e x u σ) o some=some (cx e x u O):=by
 unfold GM at I;rw[dQ,dQ,dQ]at I;rcases I with ((hc|hc)|hc)|hc
 ·exact ajQ T C D U hp Y hc hd E hl h
 ·exact ajV C D hp hc hd E h
 ·exact ajX C D hp hc hd E h
 ·exact aj0 C D hp hc Z E h
def aj3(I:fK P Φ)(C:GM Φ o=true)(O:xN σ o=true){E:S}(h:dA P N Φ σ o some=some E){t:Nat}(D:(σ.t t).fL=true)(hd:o.dst≠some t):E.t t=σ.t t:=by
 unfold GM at C;rw[dQ,dQ,dQ]at C;rcases C with ((hc|hc)|hc)|hc
 ·exact ajT I hc h D hd
 ·exact ajW hc h D hd
 ·exact ajY hc h D hd
 ·exact aj1 hc O h t
def Zc{i W j:Nat}{C:Oper}(D:ops[j]?=some C)(h:GI ops i W j=true):∃ e∈C.after,Region.binds .any e=true/\(e.on=i\/W.testBit e.on=true):=by
 unfold GI at h;rw[D]at h;obtain⟨e,E,hb⟩:=List.any_eq_true.1 h;rw[aJ,dQ]at hb
 refine⟨e,by simpa using E,hb.1,hb.2.imp (λh=>cN h) id⟩
def Sk{g:Oper -> Bool}{C:Oper}{i L W:Nat}:∀ (n j:Nat),GJ g ops C i L W n j=true -> ∀ k,j <= k -> k<j+n -> k=i \/ L.testBit k=true \/ (W.testBit k=true/\GI ops i W k=true) \/ (W.testBit k=false /\ ∀ ok,ops[k]?=some ok -> g ok=true/\C.apart ops ok=true)
 |0,j,_,k,D,E=>by omega
 | n+1,j,h,k,D,E=>by
  unfold GJ at h;rw[aJ,dQ,dQ]at h;by_cases I:k=j
  ·subst I;rcases h.1 with (h | h) | h
   ·exact .inl (cN h)
   ·exact .inr (.inl h)
   ·grind
  ·exact Sk n (j+1) h.2 k (by omega) (by omega)
def oY{g:Oper -> Bool}{i L W:Nat}:∀ (n j:Nat) (k:Nat),j <= k -> k<j+n -> k≠i -> L.testBit k=false -> W.testBit k=false -> ∀ ok,ops[k]?=some ok -> g ok=true -> hU g ops i L W n j=true
 |0,j,k,C,D,_,_,_,_,_,_=>by omega
 | n+1,j,k,C,D,hi,E,I,ok,O,T=>by
  unfold hU;rw[dQ];by_cases U:k=j
  ·subst U;refine .inl ?_;have hb:Nat.beq k i=false:=by
    cases hb:Nat.beq k i with
    |false=>rfl
    |true=>simp_all
   simp_all
  ·exact .inr (oY n _ k (by omega) (by omega) hi E I ok O T)
def Zd{g:Oper -> Bool}{i L W:Nat}:∀ (n j:Nat),hU g ops i L W n j=true -> ∃ k ok,ops[k]?=some ok/\k≠i/\L.testBit k=false/\W.testBit k=false/\g ok=true
 |0,j,h=>by cases h
 | n+1,j,h=>by
  unfold hU at h;rw[dQ]at h;rcases h with h|h
  ·rw[aJ,fB,mU,mU]at h;obtain⟨⟨⟨D,E⟩,I⟩,C⟩:=h;split at C
   next ok O=>exact⟨j,ok,O,(by rintro rfl;rw[Nat.beq_refl]at D;cases D),E,I,C⟩
   ·cases C
  ·exact Zd n _ h
theorem aj4[Inhabited Wd]{L i:Nat}{k:S -> aj X}(hv:fL o.op=true \/ fR σ ops o=some false)(hn:Ry σ (zC Φ ops i L (waits ops i ops.size 0 0) σ) (BH σ ops i L (waits ops i ops.size 0 0)) o=true)(h:GK P N Φ ops L i σ o k=some r):
  ∃v,k (gk σ o.dst v)=some r/\mC P ops o (zC Φ ops i L (waits ops i ops.size 0 0) σ) (BH σ ops i L (waits ops i ops.size 0 0)) v σ /\ ∀σ:S,gW N σ o.dst v some=some (gk σ o.dst v):=by
 unfold GK at h;unfold Ry at hn;rw[aJ]at hn;split at h
 ·rename_i hw;obtain⟨v,C,hd,_⟩:=RE (w0:=default) (N:=N) h;cases D:v.n7 _ _ with
  |false=>rw[D]at C;cases C
  | true=>
   rw[D,au]at C;obtain⟨E,I⟩:=sS C;have hv:=hv.resolve_right (by rw[hw];simp)
   refine⟨v,E,.inl ⟨hw,hv,hd,λy O=>bT.1 hn.1 y (by simpa using O),D,λt y r j e O=>?_⟩,λσ=>(I σ).at_ _⟩
   simp_all
 next hw=>obtain⟨E,I⟩:=sS h;exact⟨.skip,E,.inr ⟨hw,rfl⟩,λσ=>(I σ).at_ _⟩
 ·cases h
def DV{i L W n:Nat}(h:zB Φ ops i L W σ n=true):zC Φ ops i L W σ n=true:=by unfold zC;rw[h];rfl
def aj5{i L W:Nat}(h:FA Φ ops i L W σ o=true):∃ ty t y,o.op = .store ty (.tmp t) y/\o.dst=none/\Lk Φ ops i L W σ t=true/\(∀ k,σ.t t ≠ .ptr k) /\ ∀ r j,σ.t t = .aL r j -> zz σ o=[r]:=by
 unfold FA at h;split at h
 ·rename_i ty t y C;rw[aJ,aJ]at h
  refine⟨ty,t,y,C,by simpa using h.1.1,h.1.2,λk E=>?_,λr j D=>by simp[zz,C,D]⟩
  simp_all
 ·cases h
def aj6{i L W:Nat}(h:Rw Φ ops i L W o=true):∃ x y t C,o.op = .call ⟨.builtin .append,⟨[.tmp x,y]⟩,⟨[t,C]⟩⟩/\mz Φ ops i L W x=true/\(qe t=false/\Nat.beq t C=true/\BF o.dst t (.tmp x)=false):=by
 unfold Rw at h
 grind
def aj7{i L W:Nat}(h:Ru Φ ops i L W σ o=true):∃ f args C c,o.op = .call { callee:=.value (.func f),args:=args,argTypes:=C } /\ Φ f=some (.m c)/\Lh c=true/\sQ (λt r=>!hU (ko t) ops i L W ops.size 0 && !hU (λok=>eP ok r) ops i L W ops.size 0 && !hU isApp ops i L W ops.size 0) σ c.ps args.toList=true/\oU Φ σ o=iJ σ c.ps args.toList:=by
 unfold Ru at h;split at h
 ·rename_i f args C D;split at h
  next c E=>rw[aJ]at h;exact⟨f,args,C,c,D,E,h.1,h.2,by simp[oU,D,E]⟩
  ·cases h
 ·cases h
def GX{p:Nat -> Bool}:∀ (ps:aa PK) (xs:aa Operand),(∀ x∈xs,(aK σ x).nr p=true) -> ∀ n∈iJ σ ps xs,p n=false
 |[],[],_,n,hn=>by cases hn
 |.v _ _::ps,x::xs,h,n,hn=>GX ps xs (λy C=>h y (.tail _ C)) n hn
 |.s _ _::ps,x::xs,h,n,hn=>GX ps xs (λy C=>h y (.tail _ C)) n hn
 | .p _ _ _ :: ps,x :: xs,h,n,hn=>by
  simp[iJ]at hn;split at hn
  ·rename_i I j E;rcases gv.1 hn with rfl | hn
   ·have D:=h x (.head _);rw[E]at D;have D:(!p n)=true:=D
    simpa using D
   ·exact GX ps xs (λy C=>h y (.tail _ C)) n hn
  ·exact GX ps xs (λy C=>h y (.tail _ C)) n hn
def LG{D:aj Tmp}{g:Bool}{k:S -> aj X}(h:sP σ D g k=some r):k σ=some r:=by
 unfold sP at h;cases g with
 |false=>exact h
 | true=>
  rw[au]at h;split at h
  ·rename_i d;split at h
   ·rename_i b hb;have:∀ c,b=c -> σ.set d (.lf (.v (.bool c)))=σ:=by
     rintro c rfl
     refine S.ext' (λk=>?_) λ_=>rfl
     show bG _ _ _ _=_;by_cases C:k=d
     ·subst C;rw[bK,hb]
     ·rw[cr _ _ _ C]
    grind
   ·exact h
  ·exact h
def Ze{L j:Nat}(h:lT ops L j=true):j<ops.size:=by
 obtain⟨_,o,C,_⟩:=GV.1 h
 grind
def BO{L j:Nat}:j∈(List.range ops.size).filter (lT ops L) ↔ lT ops L j=true:=by
 rw[List.mem_filter,gi];exact⟨λh=>h.2,λh=>⟨Ze h,h⟩⟩
structure Zf (ops:Array Oper) (p:Nat->Bool) (σ:S) (o:Oper):Prop where
 is:n6 o=true
 want:fR σ ops o=some true
 auY:∀y∈o.op.operands,(aK σ y).fL=true/\∀t,y = .tmp t->p t=false
 guard:∀g c t,o.guard=some (g,c)->(ops[g]?).bind (·.dst)=some t->p t=false
def aj8{x:A}{n:Nat}{z:V}(h:rB x n=some z)(X:Type)(k:A -> aj X):Bd x n k=k (.lf (.v z)):=by
 unfold rB at h;split at h
 ·split at h
  next xs _ _ C=>injection h with h;subst h;simp[Bd,C,Option.bind_some,yV]
  ·cases h
 ·cases h
def Zg{x:A}{n:Nat}{z:V}{g:Lf -> Lf}{G:A -> A}(C:∀ xs,G (.eY xs) = .eY (xs.map λp=>(p.1,p.2.map g)))(hg:∀ z,g (.v z) = .v z)(h:rB x n=some z):rB (G x) n=some z:=by
 unfold rB at h;split at h
 ·split at h
  next xs _ _ D=>injection h with h;subst h;rw[C];simp[rB,ez,D,Option.map_some,List.map_cons,List.map_nil,hg]
  ·cases h
 ·cases h
def Sl{v:A}(hv:∀ q,v.drop q=v){rr d:Nat}{key:Nat -> aa Nat}:∀ (f j:Nat) (xs:aa Lf) (σ:S),gX rr key f j xs (σ.set d v)=(gX rr key f j xs σ).map λp=>(p.1,p.2.set d v)
 |_,_,[],σ=>by simp[gX]
 |0,j,x::xs,σ=>by cases x<;>simp[gX]
 | f+1,j,.v x :: xs,σ=>by
  simp only[gX,Sl hv f];cases gX rr key f (j+1) xs σ<;>rfl
 | f+1,j,.own [q] :: xs,σ=>by
  simp only[gX];show (match σ.m q with
   |some (.sl z)=>_
   |_=>none)=_
  cases hq:σ.m q with
  |none=>rfl
  | some y=>
   cases y with
   | sl z=>
    cases Nat.beq q rr with
    |true=>rfl
    | false=>
     simp only[ax];rw[S.drop_set q (hv q),Sl hv f];cases gX rr key f (j+1) (xs.map (Lf.drop q)) (σ.drop q)<;>rfl
   |_=>rfl
 |f+1,j,.own []::xs,σ=>rfl
 |f+1,j,.own (_::_::_)::xs,σ=>rfl
 |f+1,j,.dead::xs,σ=>rfl
def Sn{rr:Nat}{key:Nat -> aa Nat}{x n:Nat}{z:V}:∀ (f j:Nat) (xs:aa Lf) (σ C:S) (D:aa V),gX rr key f j xs σ=some (D,C) -> rB (σ.t x) n=some z -> rB (C.t x) n=some z
 | _,_,[],σ,C,D,h,E=>by
  simp only[gX]at h;simp_all
 |0,j,y::xs,σ,C,D,h,E=>by cases y<;>simp[gX]at h
 | f+1,j,.v y :: xs,σ,C,D,h,E=>by
  simp only[gX]at h;cases I:gX rr key f (j+1) xs σ with
  |none=>simp_all
  | some p=>
   rw[I]at h;injection h with h;injection h with _ h;subst h;exact Sn f (j+1) xs σ p.2 p.1 I E
 | f+1,j,.own [q] :: xs,σ,C,D,h,E=>by
  simp only[gX]at h;split at h
  ·cases hb:Nat.beq q rr with
   |true=>simp_all
   | false=>
    rw[hb,ax]at h;cases I:gX rr key f (j+1) (xs.map (Lf.drop q)) (σ.drop q)with
    |none=>simp_all
    | some p=>
     rw[I]at h;injection h with h;injection h with _ h;subst h;refine Sn f (j+1) _ (σ.drop q) p.2 p.1 I ?_;exact Zg (G:=A.drop q) (g:=Lf.drop q) (λ_=>rfl) (λ_=>rfl) E
  ·cases h
def aj9{d:Nat}{v:V}{t:TypeId}{x y:A}{I:S}(h:um P (σ.set d (.lf (.v v))) t x y some=some I):∃ D,um P σ t x y some=some D/\I=D.set d (.lf (.v v)) /\ ∀ (e n:Nat) (z:V),rB (σ.t e) n=some z -> rB (D.t e) n=some z:=by
 unfold um at h;split at h
 ·rename_i n xs j i s rr hn oL;split at h
  ·rename_i hlen;cases O:xs.all Lf.live with
   |false=>simp_all
   | true=>
    rw[O,au]at h;split at h
    ·rename_i vs τ1 C;rw[Sl (v:=.lf (.v v)) (λ_=>rfl)]at C;cases E:gX rr (λm=>(j+m) :: i :: s :: [rr]) xs.length 0 xs σ with
     |none=>simp_all
     | some p=>
      rw[E]at C;obtain⟨vs0,T⟩:=p;injection C with C;injection C with e1 e2;subst e1 e2;split at h
      ·rename_i U Y Z l iQ;have aka:T.m rr=some (.sl (.sl U (Y+2) Z l)):=iQ;split at h
       ·rename_i oJ;split at h
        ·rename_i hi;split at h
         ·rename_i hj;split at h
          ·rename_i e he;injection h with h
           refine⟨T.de [rr] [] [(rr,.sl (.sl U (Y+2) Z (l.set i e)))],?_,?_,λex nx z hz=>?_⟩
           ·simp[um,hn,oL,aV hlen,O,au,E,aka,aV oJ,aO hi,aV hj,he]
           ·rw[<- h];exact S.R0 _ rfl
           ·exact Zg (G:=A.de [rr] []) (λ_=>rfl) (λ_=>rfl) (Sn _ _ _ _ _ _ E hz)
          ·cases h
         ·cases h
        ·cases h
       ·cases h
      ·cases h
    ·cases h
  ·cases h
 ·cases h
def Zh{t:TypeId}{a b:Operand}(C:o.op = .store t a b)(hd:o.dst=none)(hg:xK (aK σ a) (aK σ b)=true):dA P N Φ σ o some=um P σ t (aK σ a) (aK σ b) some:=by
 unfold dA;rw[show fL o.op=false by rw[C];rfl,ax];simp[ir,C,hd,hg,au]
theorem akb[Inhabited Wd](dN:fK P Φ){K:S -> Prop}{f L i:Nat}{U:Oper}{τ:S}(hi:ops[i]?=some U)(hr:lT ops L i=true)(D:RB ops L σ i=true)(iQ:dx P N Φ ops σ U some=some τ)(H:Any P N Φ ops K f (L ||| 2 ^ i) τ):Any P N Φ ops K (f+1) L σ:=by
 unfold RB at D;rw[hi]at D;split at D
 ·rename_i oi' j0 e1 akc;injection e1 with e1;subst e1;split at D
  ·rename_i x n d oj vJ zJ zK Zi;split at D
   ·rename_i ty a b Y Zj Zk;rw[aJ,aJ]at D;obtain⟨⟨c1,c2⟩,c3⟩:=D;obtain⟨z,hz⟩:=Option.isSome_iff_exists.1 c1;obtain⟨a1,a2,a3⟩:=Oper.apart_spec c3;have hpd:∀ j,j<ops.size -> j≠i -> L.testBit j=false -> j=j0:=by
     intro j E I O;have:j∈(List.range ops.size).filter (λj=>!(Nat.beq j i || L.testBit j)):=by
      rw[List.mem_filter];refine⟨gi.2 E,?_⟩;rw[O,Bool.or_false];cases hb:Nat.beq j i with
      |false=>rfl
      |true=>exact absurd (cN hb) I
     rw[akc]at this;exact gf.1 this
    have rI:∀ σ2:S,rB (σ2.t x) n=some z -> dx P N Φ ops σ2 U some=gW N σ2 (some d) (.lf (.v z)) some:=by
     intro σ2 h2;unfold dx;simp only[fR,zK];unfold dA;rw[show fL U.op=true by rw[vJ];rfl,au,vJ];simp only[mw];rw[show aK σ2 (.tmp x)=σ2.t x from rfl,aj8 h2,zJ]
    have hN:∀ σ2:S,gW N σ2 (some d) (.lf (.v z)) some=some (σ2.set d (.lf (.v z))):=by
     intro σ2;rw[rI σ hz]at iQ;obtain⟨_,g2⟩:=sS iQ;exact(g2 σ2).at_ _
    have hE:τ=σ.set d (.lf (.v z)):=by
     grind
    rw[hE]at H
    refine R5 (W:=0) hi (λj oj _ E=>by rw[Nat.zero_testBit]at E;cases E) (λσ=>σ.set d (.lf (.v z)))
     (λL' C=>rB (C.t x) n=some z /\ ∀j,j<ops.size -> j≠i -> L'.testBit j=false -> j=j0/\xK (aK C a) (aK C b)=true)
     (λL' C Z=>(rI C Z.1).trans (hN C)) (λL' C j oj' sD Z T I O _ zH=>?_) f L σ (λj E=>by rw[Nat.zero_testBit]at E;cases E) hr
     ⟨hz,λj E I O=>⟨hpd j E I O,c2⟩⟩ H
    obtain⟨rfl,hg⟩:=Z.2 j (iz.1 T).1 I O;rw[Zi]at T;injection T with T;subst T;have ha:aK (C.set d (.lf (.v z))) a=aK C a:=DP (a1 d zJ) _ (by rw[Y];simp[Op.operands]);have hb:aK (C.set d (.lf (.v z))) b=aK C b:=DP (a1 d zJ) _ (by rw[Y];simp[Op.operands]);have jm:dx P N Φ ops (C.set d (.lf (.v z))) oj some=um P (C.set d (.lf (.v z))) ty (aK C a) (aK C b) some:=by
     unfold dx;simp only[fR,Zk];rw[Zh Y Zj (by rw[ha,hb];exact hg),ha,hb]
    rw[jm]at zH;obtain⟨σ2,h1,h2,h3⟩:=aj9 zH
    refine⟨σ2,?_,h2,h3 _ _ _ Z.1,λk hk Zl Zm=>?_⟩
    ·unfold dx;simp only[fR,Zk];rw[Zh Y Zj hg];exact h1
    ·grind
   ·cases D
  ·cases D
 ·cases D
theorem GY[Inhabited Wd](dN:fK P Φ):∀ (f L:Nat) (σ:S) (k:S->aj X),rC P N Φ ops f L σ k=some r->Any P N Φ ops (λτ=>k τ=some r) f L σ
 | 0,L,σ,k,h=>by
  unfold rC at h;split at h
  ·rename_i hr
   refine⟨λj=>?_,h⟩
   cases Y:lT ops L j with
   |false=>rfl
   |true=>have:=BO.2 Y;rw[hr]at this;cases this
  ·cases h
 | f+1,L,σ,k,h=>by
  unfold rC at h;split at h
  ·rename_i hr
   refine⟨λ_=>h,λj Y=>?_⟩
   have:=BO.2 Y;rw[hr]at this;cases this
  ·rename_i i hr;have hi:lT ops L i=true:=BO.1 (by rw[hr];exact .head _)
   refine⟨λh=>absurd (h i) (by rw[hi];simp),λj Y=>?_⟩
   have Y:=BO.2 Y;rw[hr]at Y;obtain rfl:=gf.1 Y;split at h
   next o ho=>obtain⟨τ,h1,h2⟩:=RS dN h;exact⟨o,τ,ho,h2,GY dN f _ τ k (LG h1)⟩
   ·cases h
  ·rename_i rs hn hs;split at h
   ·rename_i i hf;have hc:=List.find?_some hf;have hm:=List.mem_of_find?_eq_some hf;have hi:=BO.1 hm;split at h
    ·rename_i o ho;unfold Yq at hc;rw[ho,aJ,aJ,aJ]at hc;obtain⟨⟨⟨c1,c2⟩,c3⟩,c4⟩:=hc;have c1:fL o.op=true\/fR σ ops o=some false:=by
      rw[dQ]at c1
      refine c1.imp id λc1=>?_
      split at c1
      next b hb=>rw[hb];cases b<;>first|rfl|cases c1
      ·cases c1
     obtain⟨v,h1,hF,hN⟩:=aj4 c1 c4 h;have mD:=Sk _ _ c3;have c2:=cN c2;have GZ:∀ j,(waits ops i ops.size 0 0).testBit j=true->(L ||| 2 ^ i).testBit j=false:=by
      intro j Y;have:((L |||2 ^ i) &&& waits ops i ops.size 0 0).testBit j=false:=by rw[c2];exact Nat.zero_testBit j
      rw[Nat.testBit_and,Y,Bool.and_true]at this;exact this
     have vI:∀ j,(waits ops i ops.size 0 0).testBit j=true->L.testBit j=false:=by
      intro j Y;have:=GZ j Y;rw[zF,mU]at this;exact this.1
     refine ajG (W:=waits ops i ops.size 0 0) (ok:=λt r=>!hU (ko t) ops i L (waits ops i ops.size 0 0) ops.size 0 && !hU (λok=>eP ok r) ops i L (waits ops i ops.size 0 0) ops.size 0 && !hU isApp ops i L (waits ops i ops.size 0 0) ops.size 0) (rG:=Lk Φ ops i L (waits ops i ops.size 0 0) σ) (mA:=mA Φ ops i L (waits ops i ops.size 0 0) σ) (mz:=mz Φ ops i L (waits ops i ops.size 0 0)) dN ho hN (λj C D Y=>?_) f L σ (λt r jt j C D O T U=>?_) (λx hx j C D O T U=>?_) (λx hx=>?_) (λt jt j C D O T U=>?_) (λt jt j C D O T U=>?_) (λj C D O T U=>?_) vI hi hF (GY dN f _ _ k (LG h1))
     ·have dI:=(iz.1 D).1;rcases mD j (by omega) (by omega)with e | e | e | e
      ·subst e;have:=GZ j Y;rw[zF]at this;simp at this
      ·rw[vI j Y]at e;cases e
      ·exact Zc D e.2
      ·rw[Y]at e;cases e.1
     ·have dI:=(iz.1 D).1;rw[aJ,aJ,fB,fB,fB]at jt
      refine⟨λhd=>?_,?_,?_⟩
      ·have:=oY (g:=ko t) ops.size 0 j (by omega) (by omega) O T U C D (by unfold ko;rw[hd];exact Nat.beq_refl t);rw[jt.1.1]at this;cases this
      ·cases hn:eP C r with
       |false=>rfl
       | true=>
        have:=oY (g:=λok=>eP ok r) ops.size 0 j (by omega) (by omega) O T U C D hn;rw[jt.1.2]at this;cases this
      ·cases hn:isApp C with
       |false=>rfl
       | true=>
        have:=oY (g:=isApp) ops.size 0 j (by omega) (by omega) O T U C D hn;rw[jt.2]at this;cases this
     ·have dI:=(iz.1 D).1;unfold mA at hx;rw[aJ]at hx;intro hd;have:=oY (g:=ko x) ops.size 0 j (by omega) (by omega) O T U C D (by unfold ko;rw[hd];exact Nat.beq_refl x);rw[this]at hx;cases hx.1
     ·unfold mA at hx;rw[aJ]at hx;have hx:=hx.2;cases hz:σ.t x with
      |aL r j=>rw[hz]at hx;exact hx
      |iW cs=>trivial
      |_=>rw[hz]at hx;cases hx
     ·have dI:=(iz.1 D).1;by_cases hd:C.dst=some t
      ·refine .inr ?_;have So:ko t C=true:=by unfold ko;rw[hd];exact Nat.beq_refl t
       cases DT:vH C with
       | false=>
        cases G0:Lj Φ ops i L (waits ops i ops.size 0 0) σ C with
        | false=>
         have:=oY (g:=λok=>ko t ok && !(vH ok ||Lj Φ ops i L (waits ops i ops.size 0 0) σ ok)) ops.size 0 j (by omega) (by omega) O T U C D (by rw[So,DT,G0];rfl);unfold Lk at jt;rw[this]at jt;cases jt
        | true=>
         unfold Lj at G0;split at G0
         next s x f zL=>exact .inr ⟨s,x,f,zL,G0⟩
         ·cases G0
       | true=>
        refine .inl ⟨rfl,?_⟩;refine DV ?_;unfold zB;rw[dQ]
        refine .inl (oY (g:=λo=>eP o t) _ 0 j (by omega) (by omega) O T U C D ?_)
        obtain⟨ty,e,h1,_,h3,_⟩:=YQ DT;unfold eP;rw[hd,h1];exact Nat.beq_refl t
      ·exact .inl hd
     ·have dI:=(iz.1 D).1;by_cases hd:C.dst=some t
      ·refine .inr ?_;have So:ko t C=true:=by unfold ko;rw[hd];exact Nat.beq_refl t
       cases vr:n6 C with
       | false=>
        cases hma:isApp C with
        |true=>exact .inr (.inl rfl)
        | false=>
         cases BJ:zD Φ C with
         |true=>exact .inr (.inr rfl)
         | false=>
          have:=oY (g:=λok=>ko t ok && !(n6 ok ||isApp ok ||zD Φ ok)) ops.size 0 j (by omega) (by omega) O T U C D (by rw[So,vr,hma,BJ];rfl);unfold mz at jt;rw[this]at jt;cases jt
       | true=>
        refine .inl ?_;have lR:eP C t=true:=by
         unfold n6 at vr;rw[aJ]at vr;have h1:=vr.1;unfold eP;rw[hd];split at h1
         next Bl=>simp only[Bl];exact Nat.beq_refl t
         next Bl=>simp only[Bl];exact Nat.beq_refl t
         next Bl=>simp only[Bl];exact Nat.beq_refl t
         ·cases h1
        have h9:=oY (g:=λo=>eP o t) ops.size 0 j (by omega) (by omega) O T U C D lR;refine⟨rfl,?_,?_⟩
        ·refine DV ?_;unfold zB;rw[dQ];exact .inl h9
        ·unfold BH;rw[dQ];exact .inl h9
      ·exact .inl hd
     ·have dI:=(iz.1 D).1;rcases mD j (by omega) (by omega)with e | e | e | e
      ·exact absurd e O
      ·rw[T]at e;cases e
      ·rw[U]at e;cases e.1
      ·obtain⟨e1,e2⟩:=e.2 C D
       refine⟨e2,?_,λn hn=>?_⟩
       ·rw[dQ,dQ,dQ]at e1;rcases e1 with ((e1 | e1) | e1) | e1
        ·exact .inl e1
        ·obtain⟨f',args,jJ,c,g1,g2,g3,g4,g5⟩:=aj7 e1
         refine .inr (.inl ⟨f',args,jJ,c,g1,g2,g3,g4,λn hn=>?_⟩)
         refine DV ?_;unfold zB;rw[dQ]
         refine .inr (oY (g:=λo=>cW n (oU Φ σ o) ||cW n (zz σ o)) _ 0 j (by omega) (by omega) O T U C D ?_)
         rw[g5,ud.2 hn];rfl
        ·obtain⟨ty,t,y,g1,g2,g3,g4,g5⟩:=aj5 e1;refine .inr (.inr (.inl ⟨ty,t,y,g1,g2,g3,?_⟩));cases hx:σ.t t with
         | aL r' j'=>
          show zC Φ ops i L (waits ops i ops.size 0 0) σ r'=true;refine DV ?_;unfold zB;rw[dQ]
          refine .inr (oY (g:=λo=>cW r' (oU Φ σ o) ||cW r' (zz σ o)) _ 0 j (by omega) (by omega) O T U C D ?_)
          rw[g5 r' j' hx,dQ];exact .inr (ud.2 (.head _))
         |ptr k=>exact absurd hx (g4 k)
         |_=>trivial
        ·obtain⟨x,y,t1,t2,g1,g2,g3⟩:=aj6 e1
         refine .inr (.inr (.inr ⟨x,y,t1,t2,g1,g2,g3,λr' fJ=>⟨?_,?_⟩⟩))
         ·refine DV ?_;unfold zB;rw[dQ]
          refine .inr (oY (g:=λo=>cW r' (oU Φ σ o) ||cW r' (zz σ o)) _ 0 j (by omega) (by omega) O T U C D ?_)
          have:zz σ C=[r']:=by simp only[zz,g1,fJ]
          rw[this,dQ];exact .inr (ud.2 (.head _))
         ·unfold BH;rw[dQ]
          refine .inr (oY (g:=λo=>cW r' (Li σ o)) _ 0 j (by omega) (by omega) O T U C D ?_)
          have:Li σ C=[r']:=by simp only[Li,g1,fJ]
          rw[this];exact ud.2 (.head _)
       ·have h9:=oY (g:=λo=>eP o n) ops.size 0 j (by omega) (by omega) O T U C D hn;refine⟨?_,?_⟩
        ·refine DV ?_;unfold zB;rw[dQ];exact .inl h9
        ·unfold BH;rw[dQ];exact .inl h9
    ·cases h
   ·split at h
    ·rename_i i hf;have hc:=List.find?_some hf;have hm:=List.mem_of_find?_eq_some hf;have hi:=BO.1 hm;split at h
     ·rename_i o ho;unfold Yr at hc;rw[ho,aJ,aJ,aJ,aJ,aJ]at hc;obtain⟨⟨⟨⟨⟨c1,c2⟩,c3⟩,c4⟩,c5⟩,c6⟩:=hc;have mD:=Sk _ _ c3;have c2:=cN c2;have GZ:∀ j,(waits ops i ops.size 0 0).testBit j=true->(L ||| 2 ^ i).testBit j=false:=by
       intro j Y;have:((L |||2 ^ i) &&& waits ops i ops.size 0 0).testBit j=false:=by rw[c2];exact Nat.zero_testBit j
       rw[Nat.testBit_and,Y,Bool.and_true]at this;exact this
      have vI:∀ j,(waits ops i ops.size 0 0).testBit j=true->L.testBit j=false:=by
       intro j Y;have:=GZ j Y;rw[zF,mU]at this;exact this.1
      obtain⟨τ,h1,h2⟩:=RS dN h;generalize hp:(λn=>hU (λo=>DO o n) ops i L (waits ops i ops.size 0 0) ops.size 0)=p at c4 c5;have hpe:∀ j C e,ops[j]?=some C->j≠i->L.testBit j=false->(waits ops i ops.size 0 0).testBit j=false->C.dst=some e->p e=true:=by
       intro j C e D O T U hd;have dI:=(iz.1 D).1;rw[<-hp];exact oY (g:=λo=>DO o e) _ 0 j (by omega) (by omega) O T U C D (by unfold DO ko;rw[hd];exact Nat.beq_refl e)
      have BN:∀ j C,ops[j]?=some C->j≠i->L.testBit j=false->(waits ops i ops.size 0 0).testBit j=false->Rz ops i L (waits ops i ops.size 0 0) σ C=true/\o.apart ops C=true:=by
       intro j C D O T U;have dI:=(iz.1 D).1;rcases mD j (by omega) (by omega)with e|e|e|e
       ·exact absurd e O
       ·rw[T]at e;cases e
       ·rw[U]at e;cases e.1
       ·exact e.2 C D
      have vr:∀ j C,ops[j]?=some C->j≠i->L.testBit j=false->(waits ops i ops.size 0 0).testBit j=false->Zf ops p σ C:=by
       intro j C D O T U;have hb:=(BN j C D O T U).1;unfold Rz at hb;rw[aJ,aJ,aJ]at hb;obtain⟨⟨⟨b1,b2⟩,b3⟩,b4⟩:=hb;have Lt:∀t,hU (ko t) ops i L (waits ops i ops.size 0 0) ops.size 0=false->p t=false:=λt Z=>by rw[<-hp];exact Z
       refine⟨b1,?_,λy I=>?_,λg c t hg Z=>?_⟩
       ·split at b2
        next b xE=>rw[xE,b2]
        ·cases b2
       ·have:=bT.1 b3 y (by simpa using I);rw[aJ]at this
        refine⟨this.1,λt Z=>?_⟩
        have h2:=this.2;rw[Z]at h2;exact Lt t (by simpa using h2)
       ·rw[hg]at b4;simp only[Z]at b4;exact Lt t (by simpa using b4)
      have zI:∀ n,20000<=n->p n=false:=by
       intro n hn;cases rF:p n with
       |false=>rfl
       | true=>
        rw[<-hp]at rF;obtain⟨k',Sp,ur,rK,sV,vL,xT⟩:=Zd _ _ rF;have hm:=(vr k' Sp ur rK sV vL).is;unfold n6 at hm;rw[aJ]at hm;have hm:=hm.2;unfold DO ko at xT;split at xT
        next e he=>rw[he]at hm;have h1:e=n:=cN xT;subst h1;exact absurd (cz hm) (Nat.not_le_of_gt (Nat.lt_succ_of_le hn))
        ·cases xT
      have hE:τ=(dx P N Φ ops σ o some).getD σ:=by rw[h2];rfl
      refine R5 (W:=waits ops i ops.size 0 0) ho (λj C D Y=>?_) (λσ=>(dx P N Φ ops σ o some).getD σ)
       (λL' E=>((dx P N Φ ops E o some).isSome=true/\Rx E p o=true/\(oU Φ E o).all (xO E p)=true/\xN E o=true)/\(∀ j,L'.testBit j=false->L.testBit j=false)/\
        ∀j C,ops[j]?=some C->j≠i->L'.testBit j=false->(waits ops i ops.size 0 0).testBit j=false->Zf ops p E C)
       (λL' E hI=>?_) (λL' E j C sD hI D O T U iQ=>?_) f L σ vI hi ⟨⟨by rw[h2];rfl,c4,c5,c6⟩,λ_ h=>h,vr⟩ (by rw[<-hE];exact GY dN f _ τ k (LG h1))
      ·have dI:=(iz.1 D).1;rcases mD j (by omega) (by omega)with e | e | e | e
       ·subst e;have:=GZ j Y;rw[zF]at this;simp at this
       ·rw[vI j Y]at e;cases e
       ·exact Zc D e.2
       ·rw[Y]at e;cases e.1
      ·obtain⟨z,hz⟩:=Option.isSome_iff_exists.1 hI.1.1;rw[hz];rfl
      ·obtain⟨⟨i1,i2,i3,i6⟩,i4,i5⟩:=hI;have ap:=(BN j C D O (i4 j T) U).2;obtain⟨m1,m2,m3,m4⟩:=i5 j C D O T U;obtain⟨a1,a2,a3⟩:=Oper.apart_spec ap;obtain⟨z,hz⟩:=Option.isSome_iff_exists.1 i1;have hEz:(dx P N Φ ops E o some).getD E=z:=by rw[hz];rfl
       have iQ:dx P N Φ ops z C some=some sD:=by rw[<-hEz];exact iQ
       have Zn:∀ t,(E.t t).fL=true->o.dst≠some t->z.t t=E.t t:=by
        intro t Z hd;unfold dx at hz;split at hz
        ·exact aj3 dN c1 i6 hz Z hd
        ·obtain⟨g1,_⟩:=sS hz;injection g1 with g1;rw[<-g1];cases zJ:o.dst with
         |none=>rfl
         |some d=>exact cr _ _ _ (by rintro rfl;exact hd zJ)
        ·cases hz
       have akd:∀ g c t,C.guard=some (g,c)->(ops[g]?).bind (·.dst)=some t->(E.t t).fL=true\/E.t t = .skip:=by
        intro g c t hg Z;unfold fR at m2;rw[hg]at m2;simp only[Z]at m2;split at m2
        next b hb=>left;rw[hb];rfl
        next hb=>exact .inr hb
        ·cases m2
       have zK:∀ g c t,C.guard=some (g,c)->(ops[g]?).bind (·.dst)=some t->o.dst≠some t:=by
        intro g c t hg Z hd;refine a1 t hd (List.mem_append_right _ ?_);rw[hg];simp only[Z];simp
       have hwz:fR z ops C=some true:=by
        rw[zE (σ:=E) λg c t hg Z=>?_]
        ·exact m2
        ·rcases akd g c t hg Z with h | h
         ·exact Zn t h (zK g c t hg Z)
         ·exfalso;unfold fR at m2;rw[hg]at m2;simp only[Z,h]at m2;cases m2
       have ake:∀ y∈C.op.operands,aK z y=aK E y:=by
        intro y I;cases y with
        | tmp t=>
         refine Zn t (m3 _ I).1 λhd=>?_
         exact a1 t hd (List.mem_append_left _ (List.mem_filterMap.2 ⟨.tmp t,by simpa using I,rfl⟩))
        |_=>rfl
       obtain⟨e,x,u,hd,he,hx,hu,zH,oW⟩:=Lu m1 hwz iQ;have BP:=hpe j C e D O (i4 j T) U hd;have sF:=a3 e hd;have sU:∀ y∈o.op.operands,(aK E y).nr p=true/\y ≠ .tmp e:=by
        intro y I;refine⟨bT.1 i2 y (by simpa using I),?_⟩;rintro rfl;exact sF (List.mem_append_left _ (List.mem_filterMap.2 ⟨.tmp e,by simpa using I,rfl⟩))
       have zJ:o.dst≠some e:=λh=>a2 e h hd
       have akf:fR (cx e x u E) ops o=fR E ops o:=by
        have hw:∃ b,fR E ops o=some b:=by
         unfold dx at hz;cases hw:fR E ops o with
         |none=>rw[hw]at hz;cases hz
         |some b=>exact⟨b,rfl⟩
        obtain⟨b,hw⟩:=hw
        refine zE λg c t' C9 Zo=>?_
        rw[rJ,aW ?_]
        ·exact A.Bv (p:=p) (pb:=p) (RT hw g c t' C9 Zo) BP BP
        ·rintro rfl;refine sF (List.mem_append_right _ ?_);rw[C9];simp only[Zo];simp
       have rI:dx P N Φ ops (cx e x u E) o some=some (cx e x u z):=by
        unfold dx at hz ⊢;rw[akf];split at hz
        next hw=>exact aj2 dN hx hu he BP zI c1 i6 zJ sU (λn hn=>bT.1 i3 n hn) hz
        next hw=>obtain⟨g1,g2⟩:=sS hz;injection g1 with g1;refine((g2 (cx e x u E)).at_ _).trans ?_;rw[<-g1,ajH zJ rfl]
        ·cases hz
       have Sq:∀y∈o.op.operands,aK (cx e x u E) y=aK E y:=λy I=>xS (sU y I).1 BP (sU y I).2
       have hL:∀ k,(L' ||| 2 ^ j).testBit k=false->L'.testBit k=false/\k≠j:=by
        intro k hk;rw[zF,mU]at hk;refine⟨hk.1,?_⟩;rintro rfl;simp at hk
       refine⟨cx e x u E,oW E m2 (λy I=>(ake y I).symm),?_,⟨by rw[rI];rfl,?_,?_,?_⟩,λk hk=>i4 k (hL k hk).1,λk Sp hk Zl Zm hkW=>?_⟩
       ·rw[zH,rI];rfl
       ·unfold Rx;rw[bT];intro y I;rw[Sq y (by simpa using I)];exact(sU y (by simpa using I)).1
       ·have hrj:oU Φ (cx e x u E) o=oU Φ E o:=by
         unfold oU;split
         ·rename_i f' args jJ zL;split
          ·refine GS _ _ λy I=>Sq y ?_
           rw[zL];simp only[Op.operands,Call.operands];simp only[Array.mem_append]
           first
            |exact .inr (by simpa using I)
            |exact .inl (by simpa using I)
          ·rfl
         ·rfl
        rw[hrj,bT];intro n hn;have h3:=bT.1 i3 n hn;have bY:n≠e:=by
         rintro rfl;have rF:p n=false:=by
          unfold oU at hn;split at hn
          ·rename_i f' args jJ zL;split at hn
           ·refine GX _ _ (λy I=>(sU y ?_).1) n hn
            rw[zL];simp only[Op.operands,Call.operands];simp only[Array.mem_append]
            first
             |exact .inr (by simpa using I)
             |exact .inl (by simpa using I)
           ·cases hn
          ·cases hn
         rw[BP]at rF;cases rF
        unfold xO at h3 ⊢;rw[oX,aW bY];cases hm:E.m n with
        |none=>rfl
        | some y=>
         cases y with
         |sl=>rfl
         |mp=>rfl
         |gh=>rfl
         | aB cs=>
          rw[hm]at h3;simp only[Option.map_some,aS.GO,qT.zw h3 BP];exact h3
       ·unfold xN at i6 ⊢;split
        next ty t y zL=>rw[zL]at i6;have e1:(cx e x u E).t t=E.t t:=Sq (.tmp t) (by rw[zL];simp[Op.operands]);rw[e1];exact i6
        ·rfl
       ·obtain⟨n1,n2,n3,n4⟩:=i5 k Sp hk Zl (hL k Zm).1 hkW;have akg:∀ t,p t=false->t≠e:=by rintro t Z rfl;rw[BP]at Z;cases Z
        have Zp:∀ t,(E.t t).fL=true->p t=false->(cx e x u E).t t=E.t t:=by
         intro t Z htp;rw[rJ,aW (akg t htp)];exact A.LF Z e
        refine⟨n1,?_,λy I=>?_,n4⟩
        ·rw[zE (σ:=E) λg c t hg Z=>?_]
         ·exact n2
         ·unfold fR at n2;rw[hg]at n2;simp only[Z]at n2;split at n2
          next b hb=>exact Zp t (by rw[hb];rfl) (n4 g c t hg Z)
          next hb=>cases n2
          ·cases n2
        ·refine⟨?_,(n3 y I).2⟩;cases y with
         | tmp t=>
          show ((cx e x u E).t t).fL=true;rw[Zp t (n3 _ I).1 ((n3 _ I).2 t rfl)];exact(n3 _ I).1
         |const v=>exact(n3 _ I).1
         |global g=>exact(n3 _ I).1
         |func f=>exact(n3 _ I).1
     ·cases h
    ·split at h
     ·rename_i i hf;have hc:=List.find?_some hf;have hm:=List.mem_of_find?_eq_some hf;have hi:=BO.1 hm;split at h
      next o ho=>obtain⟨τ,h1,h2⟩:=RS dN h;exact akb dN ho hi hc h2 (GY dN f _ τ k (LG h1))
      ·cases h
     ·cases h
def DW{b:Bool}(h:fR σ ops o=some b)(O:Rl w0 N af ρ σ a w):Region.wanted o (yielded ops a.tmps)=b:=by
 unfold fR at h;split at h
 next hg=>injection h with h;subst h;simp[Region.wanted,hg]
 ·rename_i j want hg;split at h
  ·rename_i t E;have D:=O.tmp t;rw[ig]at D;split at h
   ·rename_i c I;rw[I]at D;have hv:=D.2.yS;injection h with h;subst h;cases C:a.tmps[t]? with
    |none=>rw[C]at hv;cases hv
    | some v=>
     rw[C]at hv;subst hv;simp only[Region.wanted,hg,yielded,E,Option.bind_some,C];simp_all
   ·rename_i I;rw[I]at D;injection h with h;subst h;cases C:a.tmps[t]? with
    |none=>simp[Region.wanted,hg,yielded,E,C]
    | some v=>
     rw[C]at D;have hv:=D;subst hv;simp only[Region.wanted,hg,yielded,E,Option.bind_some,C,undef];simp_all
   ·cases h
  ·cases h
structure uv (ops:Array Oper) (Zq:Array Bool) (L:Nat):Prop where
 size:Zq.size=ops.size
 bit:∀j,j<ops.size->Zq[j]?=some (L.testBit j)
 out:∀j,ops.size<=j->L.testBit j=false
def uv.Zr{C:Array Bool}{L:Nat}(h:uv ops C L)(j:Nat):C.getD j false=L.testBit j:=by
 rw[ig];by_cases D:j<ops.size
 ·rw[h.bit j D];rfl
 ·rw[h.out j (by omega),Array.getElem?_eq_none (by rw[h.size];omega)];rfl
def uv.ready{T:Array Bool}{L:Nat}(h:uv ops T L)(j:Nat):j∈Region.ready .any ops T ↔ lT ops L j=true:=by
 rw[mem_ready,GV];constructor
 ·rintro⟨D,o,C,E⟩;have I:=(iz.1 C).1;rw[ig,h.bit j I]at D;exact⟨D,o,C,λe O hb=>by rw[<-h.Zr];exact E e O hb⟩
 ·rintro⟨D,o,C,E⟩;have I:=(iz.1 C).1;exact⟨by rw[ig,h.bit j I];exact D,o,C,λe O hb=>by rw[h.Zr];exact E e O hb⟩
def uv.set{D:Array Bool}{L i:Nat}(h:uv ops D L)(hi:i<ops.size):uv ops (D.setIfInBounds i true) (L ||| 2 ^ i):=by
 refine⟨by simp[h.size],λj C=>?_,λj C=>?_⟩
 ·rw[zF];by_cases E:i=j
  ·subst E;rw[Array.getElem?_setIfInBounds_self_of_lt (by rw[h.size];exact hi)];simp
  ·rw[Array.getElem?_setIfInBounds_ne E,h.bit j C];simp_all
 ·rw[zF,h.out j C]
  grind
def uv.start:uv ops (Array.replicate ops.size false) 0:=
 ⟨by simp,λj C=>by simp[C],λj _=>Nat.zero_testBit j⟩
def akh(T:fK P Φ){k:S -> aj X}{i:Nat}(hi:ops[i]?=some o)(h:dx P N Φ ops σ o k=some r):∃ I,k I=some r /\ ∀ a w (K:Act -> World -> Prop) (Q:Exit -> Act -> World -> Prop),R w0 N σ a w -> (∀ O w',R w0 N I O w' -> K O w') -> wpOp P ops Q i K a w:=by
 unfold dx at h;split at h
 ·rename_i hw;obtain⟨I,U,Y⟩:=RG T h
  refine⟨I,U,λa w K Q D E=>?_⟩
  obtain⟨af,ρ,C⟩:=D;unfold wpOp;rw[hi];simp[DW hw C];exact .inl (Y a w K Q ⟨af,ρ,C⟩ E)
 ·rename_i hw;unfold gW at h;split at h
  ·rename_i hd
   refine⟨σ,h,λa w K Q D E=>?_⟩
   obtain⟨af,ρ,C⟩:=D;unfold wpOp;rw[hi];simp[DW hw C,hd];exact E _ _ ⟨af,ρ,C⟩
  ·rename_i d hd;cases hN:Nat.blt d N with
   |false=>simp_all
   | true=>
    rw[hN,au]at h
    refine⟨_,h,λa w K Q D E=>?_⟩
    obtain⟨af,ρ,C⟩:=D;unfold wpOp;rw[hi];simp only[DW hw C,hd];exact E _ _ ⟨af,ρ,C.set rfl (by have:=cz hN;omega)⟩
 ·cases h
def Zs(Y:fK P Φ){K:S -> Prop}{Q:Exit -> Act -> World -> Prop}(O:∀ T,K T -> ∀ a w,R w0 N T a w -> Q .normal a w):
  ∀(f L:Nat) (σ:S) (E:Array Bool),Any P N Φ ops K f L σ -> uv ops E L -> ∀a w,R w0 N σ a w -> wpAny P .any ops Q f E a w
 | 0,L,σ,E,h,D,a,w,I=>by
  refine⟨List.eq_nil_iff_forall_not_mem.2 λj C=>?_,O σ h.2 a w I⟩
  rw[D.ready,h.1]at C;cases C
 | f+1,L,σ,E,h,D,a,w,I=>by
  refine⟨λhr=>O σ (h.1 λj=>?_) a w I,λj C=>?_⟩
  ·cases C:lT ops L j with
   |false=>rfl
   | true=>
    have:=(D.ready j).2 C;simp_all
  ·have Z:=(D.ready j).1 C;obtain⟨o,T,ho,hd,hA⟩:=h.2 j Z;obtain⟨sD,U,hw⟩:=akh Y ho hd;injection U with U;subst U;exact hw a w _ Q I λa' w' dU=>Zs Y O f _ _ _ hA (D.set (Ze Z)) a' w' dU
def R.drawn(C:R w0 N σ a w):R w0 N σ a { w with drawn:=w.drawn+1 }:=by
 obtain⟨af,ρ,h⟩:=C;exact⟨af,ρ,h.grow ⟨rfl,rfl,rfl,dB _,λ_ _=>rfl⟩ (λ_ _=>rfl) (λb k hb hl=>absurd (h.cV b k hl).2.1 (Nat.not_lt.2 hb))⟩
theorem aki[Inhabited Wd](C:fK P Φ){id:Nat}{k:S->aj X}(E:P.follows .mixedOrders=true)(h:rC P N Φ ops ops.size 0 σ k=some r){Q:Exit->Act->World->Prop}(I:∀ D,k D=some r->∀ a w,R w0 N D a w->Q .normal a w)(O:R w0 N σ a w):
  (Code.region id ops true).wp P Q a w:=
 wp_region_any E (Zs C I _ _ _ _ (GY C _ _ _ _ h) uv.start a _ O.drawn)
/-! Values. -/
end
end Go.Proofs.YtpigmalhjkekiaaGreat
