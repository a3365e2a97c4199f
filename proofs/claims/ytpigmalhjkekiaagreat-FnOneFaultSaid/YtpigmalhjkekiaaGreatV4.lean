/-
  Running the program over pure contents, and that it follows (part 4). Nothing here is a claim.
-/
import Derived.Test.YtpigmalhjkekiaaGreatV3
set_option linter.unusedSimpArgs false
namespace Go.Proofs.YtpigmalhjkekiaaGreat
set_option linter.defProp false
open Go.RowKit
set_option linter.unusedVariables false
def gE(σ:S):aj Tmp->A->S
 |none,_=>σ
 |some d,v=>σ.set d v
section
variable {P:Program} {w w':World} {w0:Wd} {B N:Nat} {af aA:bw} {ρ ρ':Nat->Loc} {σ:S} {a:Act} {X:Type} {d:Nat} {r:X} {o:Oper} {Φ:eN} {p pb:Nat->Bool} {e:Nat} {x:aS} {u:A} {ops:Array Oper}
def tV{C:aj Tmp}{x:A}{k:S -> aj X}(h:iI N σ C x k=some r):k (gE σ C x)=some r /\ ∀ (σ2:S),m6 (λX k=>iI (X:=X) N σ2 C x k) (gE σ2 C x):=by
 unfold iI at h;split at h
 ·exact⟨h,λ_ X k=>rfl⟩
 ·rename_i d;cases D:Nat.blt d N with
  |false=>simp_all
  |true=>rw[D]at h;exact⟨h,λ_ X k=>by simp[iI,D];rfl⟩
def Ib{f:Nat}{c:jH}(C:fZ P Φ)(h:Φ f=some (.p c)):jl P f c:=(C f _ h).2
def qOK{f:Nat}{c:jH}(C:fZ P Φ)(h:Φ f=some (.q c)):jl P f c:=(C f _ h).2
def amc{f:Nat}{C:aj Tmp}{c:vm}{xs:aa A}(D:fZ P Φ)(h:Φ f=some (.i c)):cB λX k=>HO (X:=X) N σ C c xs k:=λX Y k g=>
 ((D f _ h).2.1 N σ xs X Y _ g).trans (bB (c.run Y N σ xs) (funext λE=>funext λy=>yK X Y k g))
def aa9(C:fZ P Φ):cB λX k=>dS (X:=X) P N Φ σ o k:=λX Y k g=>by
 unfold dS
 refine dx ((T8.comp λv=>yK) X Y k g) ?_
 unfold iU gS r8 AB Af wK Aa
 repeat' first
  |rfl
  |exact MF _ _ _ _
  |exact aaF _ _ _ _
  |exact alu _ _ _ _
  |exact aaI (Ib C (by assumption)) EA _ _ _ _
  |exact TS _ _ _ _
  |exact alz _ _ _ _
  |exact alw _ _ _ _
  |exact amc C (by assumption) _ _ _ _
  |exact akW (λ_=>TS) _ _ _ _
  |exact aaI (qOK C (by assumption)) aaH _ _ _ _
  |exact alG _ _ _ _
  |exact alr _ _ _ _
  |exact alX _ _ _ _
  |exact ala _ _ _ _
  |exact alM _ _ _ _
  |exact(alN.comp λv=>yK) X Y k g
  |exact alO _ _ _ _
  |exact yK _ _ _ _
  |exact(ajU.comp λv=>yK) X Y k g
  |refine dx ?_ ?_
  |split
def iz.bp{σ C:S}(h:iz p pb σ C){t r j:Nat}(D:σ.t t = .aG r j)(E:pb r=false):C.t t = .aG r j:=by
 rw[<-D];exact h.t (by rw[D];simpa [A.oT,A.fr,vj]using E)
def jV(p:Nat->Bool):A->Prop
 |.aG r _=>p r=true
 |.ptr _=>False
 |_=>True
def iz.st{D:Nat->Bool}{σ C:S}(h:iz p pb σ C){t:Nat}(E:jV D (σ.t t)):jV D (C.t t):=by
 rcases h.nw t with e|e
 ·rw[e];exact E
 ·revert e;cases C.t t<;>simp[A.yP,jV]
def iz.Ui{σ C:S}(h:iz p pb σ C){x:Operand}(D:(aL σ x).oT p pb=true):aL C x=aL σ x:=by
 cases x with
 |tmp t=>exact h.t D
 |const v=>rfl
 |global g=>rfl
 |func f=>rfl
def iz.val{σ U:S}(h:iz p pb σ U){E:Op}{v:A}(D:m6 (λX k=>nc (X:=X) P σ E k) v)(T:∀ y∈E.operands,(aL σ y).oT p pb=true)(Z:v.oT p pb=true)(O:∀ t y r j,E = .load t y->aL σ y = .aG r j->p r=false):m6 (λX k=>nc (X:=X) P U E k) v:=by
 intro X k
 refine(aa0 E (λy I=>⟨h.Ui (T y I),λq e X k=>M1 h.sl q k (aa6 (T y I) e)⟩) (λt y e k=>?_) k).trans (D X k)
 subst e;have D:m6 (λX k=>oJ (X:=X) P σ t (aL σ y) k) v:=D;have I:=T y (by simp[Op.operands]);have O:=λr j=>O t y r j rfl
 generalize aL σ y=u at D I O;by_cases Y:∃r j,u = .aG r j
 ·obtain⟨r,j,rfl⟩:=Y;have C:oJ P σ t (.aG r j) some=some v:=D A some;rw[D.at_ k];simp only[oJ]at C ⊢;split at C
  ·cases C
  ·split at C
   next cs gu=>obtain⟨f,e1,e2⟩:=h.az r (O r j rfl) cs gu;obtain⟨z,⟨⟩,e4⟩:=ME.mm C;rw[e1];simp only[];rw[<-List.map_drop,<-List.map_take,pW λl hl=>e2 l (al9 C Z l hl),List.map_id'];exact e4.at_ k
   ·cases C
 ·exact Sm.load (λq e X k=>M1 h.sl q k (aa6 I e)) (λr j e=>absurd ⟨r,j,e⟩ Y) k
def Uj:∀ (xs:aa V) (c:Nat) (σ:S),(∀ n,c <= n -> p n=true/\pb n=true) -> iz p pb σ (m7 c σ xs)
 |[],c,σ,h=>.refl σ
 | x :: xs,c,σ,h=>by
  simp[m7];cases D:x.aH with
  |true=>exact Uj xs _ σ (λn C=>h n (by omega))
  |false=>exact .trans (.root c (.sl x) (h c (dg _)).1 (h c (dg _)).2 (.refl σ)) (Uj xs (c+1) _ (λn C=>h n (by omega)))
def Ic:∀ (ps:aa Pt) (c:Nat) (σ:S),(∀ n,c<=n->p n=true/\pb n=true)->iz p pb σ (oO c σ ps)
 |[],c,σ,h=>.refl σ
 |q::ps,c,σ,h=>(Uj q.2 c σ h).trans (Ic ps _ _ (λn C=>h n (by omega)))
def AI{σ2:S}{ops:Array Oper}(h:∀ g b t,o.guard=some (g,b) -> (ops[g]?).bind (·.dst)=some t -> σ2.t t=σ.t t):gn σ2 ops o=gn σ ops o:=by
 unfold gn
 grind
def sB(p pb:Nat->Bool)(x:A):Prop:=∀r,x = .lf (.own [r])->p r=true/\pb r=true
def iz.tg{C D:Nat->Bool}{σ E:S}(h:iz p pb σ E){t:Nat}(I:sB C D (σ.t t)):sB C D (E.t t):=by
 rcases h.nw t with e|e
 ·rw[e];exact I
 ·intro r O;rw[O]at e;cases e
structure sC (P:Program) (N:Nat) (Φ:eN) (o:Oper) (p pb:Nat->Bool) (q8 τ:S) where
 G:S->S
 u:A
 eq:τ=gE (G q8) o.dst u
 run:∀σ2:S,(∀x∈o.op.operands,aL σ2 x=aL q8 x)->σ2.m=q8.m->dS P N Φ σ2 o some=some (gE (G σ2) o.dst u)
 grow:∀σ,iz p pb σ (G σ)
 set:∀(σ:S) d v,(A.oT p pb v)=true->G (σ.set d v)=(G σ).set d v
 bp:isApp o=false->∀(σ:S) t r j,σ.t t = .aG r j->fe o r=false->(G σ).t t = .aG r j
theorem sC.new{D:S}{d:Nat}(E:o.dst=some d)(C:p d=true/\pb d=true)(T:fe o d=true)(x:aS)(u:A){I:S}(e:I=((D.drop d).root d x).set d u)
  (U:∀σ2:S,(∀x∈o.op.operands,aL σ2 x=aL D x)->dS P N Φ σ2 o some=some (((σ2.drop d).root d x).set d u)):Nonempty (sC P N Φ o p pb D I):=
 ⟨{ G:=λσ=>(σ.drop d).root d x,u:=u,eq:=by rw[E];exact e,run:=λσ2 h _=>by rw[U σ2 h,E];rfl,grow:=λσ=>.root d x C.1 C.2 (.refl σ),
    set:=λσ e v Y=>by rw[S.drop_set d (A.Cy Y C.1 C.2)];rfl
    bp:=λ_ σ t r j Z O=>by
     show A.drop d (σ.t t)=_;rw[Z];exact A.qa (by simp only[A.fr,ya];rw[qc (by rintro rfl;rw[T]at O;cases O)];rfl) }⟩
def Uk{d:Nat}{C:gv}{D:S}(h:n6 σ d C some=some D):∃ (ps:aa Pt) (u:A),∀ σ,n6 σ d C some=some ((oO (1000000000100000+1000*d) σ ps).set d u):=by
 unfold n6 at h ⊢;split at h
 ·rename_i q;split at h
  next y E=>exact⟨[q],y,λσ=>rfl⟩
  ·cases h
 ·exact⟨_,_,λσ=>rfl⟩
theorem aba{f d:Nat}{c:jH}{T:S}{ev:S->(X:Type)->(aa Pt->aj X)->aj X}(U:o.dst=some d)(E:∀ n,1000000000100000+1000*d<=n->fe o n=true)(Z:∀ n,fe o n=true->p n=true/\pb n=true)(hc:jl P f c)(C:cB (ev σ))
  (TU:∀σ2:S,(∀x∈o.op.operands,aL σ2 x=aL σ x)->σ2.m=σ.m->∀(X:Type) (k:aa Pt->aj X),ev σ2 X k=ev σ X k) (eR:∀σ2,dS P N Φ σ2 o some=tK N σ2 d c (ev σ2 S) some) (h:tK N σ d c (ev σ S) some=some T):Nonempty (sC P N Φ o p pb σ T):=by
 obtain⟨res,tD,D,I,h3⟩:=MH hc C h;injection I with I;subst I;obtain⟨ps,u,Y⟩:=Uk D;have O:∀n,1000000000100000+1000*d<=n->p n=true/\pb n=true:=λn C=>Z n (E n C)
 rw[Y]at D;injection D with D;exact⟨{ G:=λσ=>oO (1000000000100000+1000*d) σ ps,u:=u,eq:=by rw[U];exact D.symm,run:=λσ2 tW hm=>by rw[eR,U];exact(h3 σ2 _ _ (TU σ2 tW hm) (Y σ2)).at_ _,grow:=λσ=>Ic ps _ σ O,set:=λσ e v hv=>TI v ps _ σ λn C=>A.Cy hv (O n C).1 (O n C).2,bp:=λ_ σ t r j ht hr=>(Ic (p:=fe o) (pb:=fe o) ps _ σ (λn C=>⟨E n C,E n C⟩)).bp ht hr }⟩
theorem amd[Inhabited Wd](eC:fZ P Φ){τ:S}(E:MV Φ o.op=true)(hp:∀ n,fe o n=true->p n=true/\pb n=true)(h:dS P N Φ σ o some=some τ):Nonempty (sC P N Φ o p pb σ τ):=by
 have h0:=h;unfold dS at h;cases hv:ga o.op with
 | true=>
  rw[hv,aq]at h;obtain⟨v,I,D,_⟩:=T9 (w0:=default) (N:=N) h;obtain⟨T,h3⟩:=tV I;injection T with T
  refine⟨{ G:=λσ=>σ,u:=v,eq:=T.symm,run:=λσ2 C hm=>?_,grow:=.refl,set:=λ_ _ _ _=>rfl,bp:=λ_ _ _ _ _ h _=>h }⟩
  unfold dS;rw[hv,aq,aa1 o.op hm C];refine(D.at_ _).trans ?_;exact(h3 σ2).at_ _
 | false=>
  rw[hv,av]at h;have Z:∀σ2,dS P N Φ σ2 o some=iU P N Φ σ2 o some:=λσ2=>by unfold dS;rw[hv,av]
  unfold iU at h Z;unfold MV at E;rw[hv,Bool.false_or]at E;split at h
  ·rename_i e C;obtain⟨d,D,h⟩:=jU h;obtain⟨x,y,I,_,T⟩:=ak9 h;injection I with I;have U:fe o d=true:=by unfold fe;rw[D,C];exact Nat.beq_refl d
   refine sC.new D (hp d U) U x y I.symm λσ2 _=>?_
   rw[Z,C];simp only[gS,D];exact(T σ2).at_ _
  ·rename_i e x C;obtain⟨d,D,h⟩:=jU h;obtain⟨y,u,I,T⟩:=ale h;injection I with I;have U:fe o d=true:=by unfold fe;rw[D,C];exact Nat.beq_refl d
   refine sC.new D (hp d U) U _ _ I.symm λσ2 O=>?_
   rw[Z,C];simp only[gS,D];rw[O x (by rw[C];simp[Op.operands])];exact(T σ2).at_ _
  ·rename_i t len parts C;obtain⟨d,D,h⟩:=jU h;have U:fe o d=true:=by unfold fe;rw[D,C];exact Nat.beq_refl d
   cases hn:q9 t with
   | true=>
    rw[hn,aq]at h;obtain⟨y,u,I,T⟩:=alk h;injection I with I
    refine sC.new D (hp d U) U _ _ I.symm λσ2 O=>?_
    rw[Z,C];simp only[gS,D,hn,aq]
    refine(T σ2 λq hq=>O _ ?_).at_ _
    rw[C];simp only[Op.operands];exact List.mem_toArray.2 (List.mem_map_of_mem (f:=(·.2)) hq)
   | false=>
    rw[hn,av]at h;obtain⟨y,I,T⟩:=aaD h;injection I with I
    refine sC.new D (hp d U) U _ _ I.symm λσ2 O=>?_
    rw[Z,C];simp only[gS,D,hn,av]
    refine(T σ2 λq hq=>O _ ?_).at_ _
    rw[C];simp only[Op.operands];exact List.mem_toArray.2 (List.mem_map_of_mem (f:=(·.2)) hq)
  next t x y C=>rw[C]at E;cases E
  ·rename_i t l c C;obtain⟨d,D,h⟩:=jU h;obtain⟨y,I,T⟩:=aaC h;injection I with I;have U:fe o d=true:=by unfold fe;rw[D,C];exact Nat.beq_refl d
   refine sC.new D (hp d U) U _ _ I.symm λσ2 O=>?_
   rw[Z,C];simp only[gS,D];rw[O l (by rw[C];simp[Op.operands]),O c (by rw[C];simp[Op.operands])];exact(T σ2).at_ _
  ·rename_i f args jS C;have abb:∀ σ2:S,(∀ x∈o.op.operands,aL σ2 x=aL σ x)->∀ x∈args.toList,aL σ2 x=aL σ x:=λσ2 O x hx=>O x (by
    rw[C];simp only[Op.operands,Call.operands,Array.mem_append]
    first
     |exact .inr (by simpa using hx)
     |exact .inl (by simpa using hx))
   have nm:∀d,o.dst=some d->∀n,1000000000100000+1000*d<=n->fe o n=true:=λd D n hn=>by unfold fe;rw[D,C];exact ja hn
   split at h
   next c Y=>obtain⟨d,D,h⟩:=jU h;exact aba D (nm d D) hp (Ib eC Y) (ev:=λσ X k=>tH σ args.toList k) EA (λσ2 O hm X k=>al2 hm _ _ (abb σ2 O)) (λσ2=>by rw[Z,C];simp only[Y,gS,D];rfl) h
   iterate 5 (rename_i c Y;rw[C]at E;simp[Y]at E)
   next c Y=>obtain⟨d,D,h⟩:=jU h;exact aba D (nm d D) hp (qOK eC Y) (ev:=λσ X k=>Co σ args.toList k) aaH (λσ2 O hm X k=>al4 hm _ _ (abb σ2 O)) (λσ2=>by rw[Z,C];simp only[Y,gS,D];rfl) h
   next c Y=>rw[C]at E;simp[Y]at E
   ·cases h
  next x y t t' C=>rw[C]at E;cases E
  next t C=>rw[C]at E;cases E
  next t x i C=>rw[C]at E;cases E
  next t x i v C=>rw[C]at E;cases E
  next t args jS C=>rw[C]at E;cases E
  next f aaZ C=>rw[C]at E;cases E
  next x t C=>rw[C]at E;cases E
  ·cases h
def abc(C:fZ P Φ){ops:Array Oper}:cB λX k=>dM (X:=X) P N Φ ops σ o k:=λX Y k g=>by
 unfold dM;split
 ·exact aa9 C _ _ _ _
 ·exact yK _ _ _ _
 ·rfl
theorem Ul[Inhabited Wd](D:fZ P Φ){ops:Array Oper}{k:S->aj X}(h:dM P N Φ ops σ o k=some r):∃ C,k C=some r/\dM P N Φ ops σ o some=some C:=
 let ⟨C,E,I⟩:=(abc D).mm h
 ⟨C,E,I S some⟩
def Um{ops:Array Oper}{b:Bool}(h:gn σ ops o=some b):∀ g c t,o.guard=some (g,c) -> (ops[g]?).bind (·.dst)=some t -> (σ.t t).oT p pb=true:=by
 intro g c t C D;unfold gn at h;rw[C]at h;simp[D]at h;split at h
 next hb=>rw[hb];rfl
 next hb=>rw[hb];rfl
 ·cases h
def EF{ops:Array Oper}{d:Nat}(h:d ∉ o.looksAt ops)(v:A){x:Operand}(C:x∈o.op.operands):aL (σ.set d v) x=aL σ x:=by
 cases x with
 | tmp t=>
  have:t≠d:=by
   rintro rfl;exact h (List.mem_append_left _ (List.mem_filterMap.2 ⟨.tmp t,by simpa using C,rfl⟩))
  exact cy _ _ _ this
 |_=>rfl
def Un{ops:Array Oper}{d:Nat}(h:d ∉ o.looksAt ops)(v:A):∀ g b t,o.guard=some (g,b) -> (ops[g]?).bind (·.dst)=some t -> (σ.set d v).t t=σ.t t:=by
 intro g b t C D;have:t≠d:=by
  rintro rfl;refine h (List.mem_append_right _ ?_);simp_all
 exact cy _ _ _ this
def nj(P:Program)(ops:Array Oper)(C:Oper)(p pb:Nat->Bool)(v:A)(σ:S):Prop:=
 (gn σ ops C=some true/\ga C.op=true/\m6 (λX k=>nc (X:=X) P σ C.op k) v/\(∀y∈C.op.operands,(aL σ y).oT p pb=true)/\v.oT p pb=true/\∀t y r j,C.op = .load t y->aL σ y = .aG r j->p r=false)\/(gn σ ops C=some false/\v = .skip)
def nj.grow{ops:Array Oper}{U:Oper}{v:A}(h:nj P ops U p pb v σ){Y:S}(C:iz p pb σ Y):nj P ops U p pb v Y:=by
 rcases h with ⟨D,I,h3,E,Z,h6⟩|⟨D,I⟩
 ·refine .inl ⟨?_,I,C.val h3 E Z h6,λy hy=>?_,Z,λt y r j e h=>?_⟩
  ·rw[AI λg b t O T=>C.t (Um D g b t O T)];exact D
  ·rw[C.Ui (E y hy)];exact E y hy
  ·exact h6 t y r j e (by rw[<-C.Ui (E y (by rw[e];simp[Op.operands]))];exact h)
 ·refine .inr ⟨?_,I⟩;rw[AI λg b t O T=>C.t (Um D g b t O T)];exact D
def nj.set{ops:Array Oper}{D:Oper}{v u:A}(h:nj P ops D p pb v σ){d:Nat}(C:d ∉ D.looksAt ops):nj P ops D p pb v (σ.set d u):=by
 rcases h with ⟨E,I,T,U,Y,Z⟩|⟨E,I⟩
 ·refine .inl ⟨?_,I,λX k=>?_,λy O=>?_,Y,λt y r j e h=>?_⟩
  ·rw[AI (Un C u)];exact E
  ·exact(aa1 (σ:=σ) (σ2:=σ.set d u) D.op rfl (λx hx=>EF C u hx) k).trans (T.at_ k)
  ·rw[EF C u O];exact U y O
  ·exact Z t y r j e (by rw[<-EF C u (by rw[e];simp[Op.operands])];exact h)
 ·refine .inr ⟨?_,I⟩;rw[AI (Un C u)];exact E
def nj.put{ops:Array Oper}{C:Oper}{v u:A}(h:nj P ops C p pb v σ){D:aj Tmp}(E:∀ d,D=some d->d ∉ C.looksAt ops):nj P ops C p pb v (gE σ D u):=by
 cases D with
 |none=>exact h
 |some d=>exact h.set (E d rfl)
def nj.nr{ops:Array Oper}{C:Oper}{v:A}(h:nj P ops C p pb v σ):v.oT p pb=true:=by
 rcases h with ⟨_,_,_,_,D,_⟩|⟨_,E⟩
 ·exact D
 ·rw[E];rfl
def abd{x y:aj Tmp}(v u:A)(h:∀ d,x=some d->y≠some d):gE (gE σ x v) y u=gE (gE σ y u) x v:=by
 cases x with
 |none=>rfl
 | some d=>cases y with
  |none=>rfl
  |some e=>exact S.set_set (λC=>h d rfl (bB some C)) v u
def ame(x:aj Tmp)(v:A):(gE σ x v).m=σ.m:=by cases x<;>rfl
def M3{ops:Array Oper}{C:aj Tmp}(h:∀ d,C=some d->d ∉ o.looksAt ops)(v:A){x:Operand}(D:x∈o.op.operands):aL (gE σ C v) x=aL σ x:=by
 cases C with
 |none=>rfl
 |some d=>exact EF (h d rfl) v D
def amf{ops:Array Oper}{C:aj Tmp}(h:∀ d,C=some d->d ∉ o.looksAt ops)(v:A):gn (gE σ C v) ops o=gn σ ops o:=by
 cases C with
 |none=>rfl
 |some d=>exact AI (Un (h d rfl) v)
/-! Calls that write blocks alone. -/
def abe{σ2:S}(C:σ2.m=σ.m)(ns:aa Nat):∀ (xs:aa Lf) (k:aa V -> aj X),tN σ2 ns xs k=tN σ ns xs k
 |[],k=>rfl
 | x :: xs,k=>by
  simp[tN,Ub C];congr 2;funext y;exact abe C ns xs _
def amg{σ2:S}(C:σ2.m=σ.m)(ns:aa Nat)(x:A)(k:Pt->aj X):sx σ2 ns x k=sx σ ns x k:=by
 unfold sx;split<;>simp only[abe C,C]
def amh{σ2:S}(C:σ2.m=σ.m)(p:PK)(x:A):wE σ2 p x=wE σ p x:=by
 cases p<;>simp only[wE,C]
def abf{σ2:S}(C:σ2.m=σ.m):∀ (ps:aa PK) (xs:aa Operand),(∀ x∈xs,aL σ2 x=aL σ x)->jI σ2 ps xs=jI σ ps xs
 |[],[],_=>rfl
 |[],_::_,_=>rfl
 |_::_,[],_=>rfl
 | p :: ps,x :: xs,h=>by
  simp only[jI];rw[h x (.head _),amh C,abf C ps xs (λy D=>h y (.tail _ D))]
def M4{σ2:S}(E:σ2.m=σ.m)(ns:aa Nat):∀ (ps:aa PK) (xs:aa Operand) (C:aa Mu) (k:lQ ps->aj X),(∀ x∈xs,aL σ2 x=aL σ x)->jJ σ2 ns ps xs C k=jJ σ ns ps xs C k
 |[],[],[],k,_=>rfl
 | .v b t :: ps,x :: xs,C,k,h=>by
  simp only[jJ];rw[h x (.head _),amg E];congr 1;funext p;congr 1;split
  ·exact M4 E ns ps xs C _ (λy D=>h y (.tail _ D))
  ·rfl
 | .p t g off :: ps,x :: xs,.az I cs O :: C,k,h=>by
  simp only[jJ];split
  ·exact M4 E ns ps xs C _ (λy D=>h y (.tail _ D))
  ·rfl
 | .s t g :: ps,x :: xs,.sl q T :: C,k,h=>by
  simp only[jJ];split
  ·exact M4 E ns ps xs C _ (λy D=>h y (.tail _ D))
  ·rfl
 |[],[],_::_,k,_=>rfl
 |[],_::_,_,k,_=>rfl
 |.v _ _::_,[],_,k,_=>rfl
 |.p _ _ _::_,[],_,k,_=>rfl
 |.s _ _::_,[],_,k,_=>rfl
 |.p _ _ _::_,_::_,[],k,_=>rfl
 |.s _ _::_,_::_,[],k,_=>rfl
 |.p _ _ _::_,_::_,.sl _ _::_,k,_=>rfl
 |.s _ _::_,_::_,.az _ _ _::_,k,_=>rfl
def ami{m:Nat -> aj aS}{l:Lf}{v:V}{q:Nat}(h:wD m l=some (v,some q)):v.aH=false:=by
 unfold wD at h
 grind
def abg{m:Nat->aj aS}:∀ {cs:aa Lf} {C:aa (V×aj Nat)},sv m cs=some C->(∀ v∈C,v.1.aH=true)->∀ v∈C,v.2=none
 |[],C,h,_=>by injection h with h;subst h;simp
 | c :: cs,C,h,D=>by
  unfold sv at h;split at h
  ·rename_i v T E I;injection h with h;subst h;intro u hu;rcases gU.1 hu with rfl | hu
   ·obtain⟨x,q⟩:=u;cases q with
    |none=>rfl
    |some q=>have:=ami E;rw[D _ (.head _)]at this;cases this
   ·exact abg I (λv O=>D v (.tail _ O)) u hu
  ·cases h
def abh{i:Nat}:∀ (C:aa (V×aj Nat)) (j:Nat),(∀ v∈C,v.2=none) -> Ep i j C=[]
 |[],_,_=>rfl
 | (x,q) :: C,j,h=>by
  have:=h _ (.head _);subst this;exact abh C _ (λv D=>h v (.tail _ D))
def Uo:∀ (C:aa Nat) (xs:aa V),(∀ x∈xs,x.aH=true)->wG C xs=[]/\vh C xs=[]
 |[],[],_=>⟨rfl,rfl⟩
 |[],_::_,_=>⟨rfl,rfl⟩
 |_::_,[],_=>⟨rfl,rfl⟩
 | n :: C,x :: xs,h=>by
  simp only[wG,vh,h x (.head _),aq];exact Uo C xs (λx D=>h x (.tail _ D))
def EG(ps:aa PK):Bool:=ps.all λp=>match p with
 |.v _ _=>true
 |.p _ g _=>Nat.beq g 0
 |.s _ _=>false
def Up{ns:aa Nat}:∀ (ps:aa PK) (xs:aa Operand) (D:aa Mu) (k:lQ ps->aj X),EG ps=true->jI σ ps xs=some D->jJ σ ns ps xs D k=some r->∀ (i E c0:Nat) (y:sr (eU ps)),
  (∀p∈lR i D,p.1∈jf σ ps xs)/\n9 c0 E D (jm (eU ps) y)=[]/\∀(Z cn:aa Nat),∀p∈lS Z cn c0 E D (jm (eU ps) y),p.1∈jf σ ps xs
 | [],[],D,k,_,C,h=>by
  injection C with C;subst C;intro i E c0 y;exact⟨(λp hp=>by cases hp),by simp[n9],(λ_ _ p hp=>by simp[lS]at hp)⟩
 | .v b t :: ps,x :: xs,D,k,U,C,h=>by
  have tC:jI σ ps xs=some D:=by
   unfold jI at C;split at C
   next mu Y I O=>exact(wF I).elim
   next Y I O=>rw[O];exact C
   ·cases C
  have tA:EG ps=true:=by simpa [EG]using U
  unfold jJ at h;obtain⟨p,O,_⟩:=aaO.mm h;cases hb:p.1==b with
  |false=>rw[hb]at O;cases O
  | true=>
   rw[hb,aq]at O;split at O
   ·intro i E c0 y;exact Up ps xs D _ tA tC O i E c0 y
   ·cases O
 | .p t g off :: ps,x :: xs,D,k,U,C,h=>by
  unfold jI at C;split at C
  ·rename_i mu Y I O;injection C with C;subst C;have I:=wF I;cases mu with
   |sl=>exact I.elim
   | az r' cs T=>
    have I:aL σ x = .aG r' off/\Av σ (.az r' cs T):=I;have U:Nat.beq g 0=true/\EG ps=true:=by simpa [EG]using U
    have hg:=cJ U.1;subst hg;unfold jJ at h;split at h
    ·rename_i z hz;have hz:dec t 0 (T.map (·.1))=some z:=hz;have hw:=mj t 0 _ z hz;have Uq:∀ v∈T,v.1.aH=true:=by
      intro v hv;obtain⟨j,hj⟩:=List.mem_iff_getElem?.1 hv;have M5:(T.map (·.1))[j]?=some v.1:=by rw[eO,hj];rfl
      have yd:j<(enc t 0 z).length:=by rw[<-hw.1];exact(dZ.1 M5).1
      have hk:=hw.2 j _ _ M5 (bK yd);have rm:=qU t 0 z (by omega) j _ (bK yd);cases Uq:v.1.aH with
      |true=>rfl
      |false=>rw[hk.Tg Uq]at rm;cases rm
     have hn:=abg I.2.2.1 Uq;intro i E c0 y;obtain⟨k1,k2,k3⟩:=Up ps xs Y _ U.2 O h (i+1) (E+1+T.length) c0 y.2;have hyf:∀ u∈enc t 0 y.1,u.aH=true:=by
      intro u hu;obtain⟨j,hj⟩:=List.mem_iff_getElem?.1 hu;exact qU t 0 y.1 (by omega) j u hj
     have CA:jf σ (.p t 0 off::ps) (x::xs)=r'::jf σ ps xs:=by simp only[jf,I.1]
     rw[CA]
     refine⟨λp hp=>?_,?_,λZ cn p hp=>?_⟩
     ·simp only[lR,abh T 0 hn,List.nil_append]at hp;rcases gU.1 hp with rfl | hp
      ·exact .head _
      ·exact .tail _ (k1 p hp)
     ·show wG (m8 c0 (E+1) T) (enc t 0 y.1)++n9 c0 (E+1+T.length) Y (jm (eU ps) y.2)=[]
      rw[(Uo _ _ hyf).1,k2];rfl
     ·have hp:p∈(r',aS.az (qy Z cn (m8 c0 (E+1) T) cs (enc t 0 y.1))) :: (vh (m8 c0 (E+1) T) (enc t 0 y.1)++lS Z cn c0 (E+1+T.length) Y (jm (eU ps) y.2)):=hp;rw[(Uo _ _ hyf).2,List.nil_append]at hp;rcases gU.1 hp with rfl | hp
      ·exact .head _
      ·exact .tail _ (k3 Z cn p hp)
    ·cases h
  next Y I O=>exact(wF I).elim
  ·cases C
 |.s t g::ps,x::xs,D,k,U,C,h=>by simp[EG]at U
 |[],_::_,D,k,_,C,h=>by cases C
 |_::_,[],D,k,_,C,h=>by cases C
def S.Ur{ns:aa Nat}{nr:aa (Nat×aS)}(v:A)(h:v.dA ns []=v):(σ.set d v).dA ns [] nr=(σ.dA ns [] nr).set d v:=by
 refine S.ext' (λk=>?_) λ_=>rfl
 show (bJ σ.t d v k).dA ns []=bJ (λk=>(σ.t k).dA ns []) d v k;by_cases C:k=d
 ·subst C;rw[bM,bM];exact h
 ·rw[cy _ _ _ C,cy _ _ _ C]
def M6{n:Nat}{x:aS}:∀ {l:aa (Nat×aS)},l.lookup n=some x -> (n,x)∈l
 |[],h=>by cases h
 | q :: l,h=>by
  rw[List.lookup_cons]at h;cases hb:n==q.1 with
  |true =>grind
  |false=>rw[hb]at h;exact .tail _ (M6 h)
theorem amj{τ:S}{f:Nat}{args:Array Operand}{jS:Array TypeId}{c:n8}(Z:o.op = .call { callee:=.value (.func f),args,argTypes:=jS })(hc:Φ f=some (.m c))(hfl:MW c=true)(hp:∀ n,fe o n=true->p n=true/\pb n=true)(Az:∀ n∈jf σ c.ps args.toList,p n=true)
  (h:dS P N Φ σ o some=some τ):Nonempty (sC P N Φ o p pb σ τ):=by
 have eR:∀ σ2,dS P N Φ σ2 o some=oQ N σ2 o.dst c args.toList some:=by
  intro σ2;unfold dS;rw[show ga o.op=false by rw[Z];rfl,av];simp only[iU,Z,hc]
 rw[eR]at h;have abi:∀ σ2:S,(∀ x∈o.op.operands,aL σ2 x=aL σ x)->∀ x∈args.toList,aL σ2 x=aL σ x:=by
  intro σ2 E x U;refine E x ?_;rw[Z];simp only[Op.operands,Call.operands];simp only[Array.mem_append]
  first
   |exact .inr (by simpa using U)
   |exact .inl (by simpa using U)
 unfold oQ at h;split at h
 ·rename_i O vi;cases kF:(once (lR 0 O)&&Nat.ble O.length 40)with
  |false=>rw[kF]at h;cases h
  | true=>
   rw[kF,aq]at h;have amk:=Up c.ps args.toList O _ hfl vi h;obtain⟨x,C,hd⟩:=(MN _ _ _).mm h;split at C
   ·rename_i y hy;obtain⟨k1,k2,k3⟩:=amk 0 (fm c.ro y.1).len (iR o.dst) y.2;unfold Et at C;rw[k2]at C;generalize jK:Es N O (jm (eU c.ps) y.2) []=ok at C;cases ok with
    |false=>cases C
    | true=>
     rw[aq]at C;generalize Ca:(lR 0 O).map (·.1)=ns at C hd;generalize wJ:lS ns [] (iR o.dst) (fm c.ro y.1).len O (jm (eU c.ps) y.2)=nr at C;have M7:Ue p ns nr:=by
      refine⟨λn D=>?_,λn x U=>?_⟩
      ·rw[<-Ca]at D;obtain⟨q,hq,e⟩:=List.mem_map.1 (vc.1 D);rw[<-e];exact Az _ (k1 q hq)
      ·rw[<-wJ]at U;exact Az _ (k3 ns [] _ (M6 U))
     have qC:∀ σ2:S,(∀ x∈o.op.operands,aL σ2 x=aL σ x)->σ2.m=σ.m->oQ N σ2 o.dst c args.toList some=q6 N (σ2.dA ns [] nr) o.dst (fm c.ro y.1) some:=by
      intro σ2 E T;simp only[oQ];rw[abf T _ _ (abi σ2 E),vi];simp only[kF,aq];rw[Ca,M4 T _ _ _ _ _ (abi σ2 E)];refine(hd S _).trans ?_;simp only[hy,Et,k2,jK,aq,wJ]
     have bp0:∀ (σ:S) t r j,σ.t t = .aG r j->(σ.dA ns [] nr).t t = .aG r j:=by
      intro σ t r j Y;show A.dA ns [] (σ.t t)=_;rw[Y];rfl
     generalize kD:fm c.ro y.1=res at C qC;cases I:o.dst with
     | none=>
      rw[I]at C;have C:some (σ.dA ns [] nr)=some τ:=C;injection C with C;exact⟨{ G:=λσ=>σ.dA ns [] nr,u:=.undef,eq:=by rw[I];exact C.symm,run:=λσ2 E T=>by rw[eR,qC σ2 E T,I];rfl,grow:=λσ=>.dA ns nr M7 (.refl σ),set:=λσ e v hv=>S.Ur v (A.Uh hv M7.ns),bp:=λ_ σ t r j Y _=>bp0 σ t r j Y }⟩
     | some d=>
      rw[I]at C;have mA:∀n,1000000000100000+1000*d<=n->fe o n=true:=λn D=>by unfold fe;rw[I,Z];exact ja D
      have sD:∀n,1000000000100000+1000*d<=n->p n=true/\pb n=true:=λn D=>hp n (mA n D)
      cases hN:Nat.blt d N with
      |false=>simp only[q6,hN,av]at C;cases C
      | true=>
       have e:∀σ,q6 N σ (some d) res some=n6 σ d res some:=λσ=>by simp only[q6,hN,aq]
       rw[e]at C;obtain⟨ps,u,hG⟩:=Uk C;rw[hG]at C;injection C with C;exact⟨{ G:=λσ=>oO (1000000000100000+1000*d) (σ.dA ns [] nr) ps,u:=u,eq:=by rw[I];exact C.symm,run:=λσ2 E T=>by rw[eR,qC σ2 E T,I,e,hG];rfl,grow:=λσ=>(iz.dA ns nr M7 (.refl σ)).trans (Ic ps _ _ sD),set:=λσ e v hv=>by rw[S.Ur v (A.Uh hv M7.ns),TI v ps _ _ λn D=>A.Cy hv (sD n D).1 (sD n D).2],bp:=λ_ σ t r j Y hr=>(Ic (p:=fe o) (pb:=fe o) ps _ _ (λn D=>⟨mA n D,mA n D⟩)).bp (bp0 σ t r j Y) hr }⟩
   ·cases C
 ·cases h
def Calm(Φ:eN)(ok:Nat->Nat->Bool)(sE ng p pb:Nat->Bool)(σ:S)(o:Oper):Prop:=
 MV Φ o.op=true\/(∃f args D c,o.op = .call { callee:=.value (.func f),args:=args,argTypes:=D }/\Φ f=some (.m c)/\MW c=true/\tT ok σ c.ps args.toList=true/\∀n∈jf σ c.ps args.toList,p n=true)\/
 (∃ty t y,o.op = .store ty (.tmp t) y/\o.dst=none/\sE t=true/\jV p (σ.t t))\/
 ∃x y t C,o.op = .call ⟨.builtin .append,⟨[.tmp x,y]⟩,⟨[t,C]⟩⟩/\ng x=true/\(q9 t=false/\Nat.beq t C=true/\CF o.dst t (.tmp x)=false)/\sB p pb (σ.t x)
theorem aml{Z:S}{ty:TypeId}{t:Tmp}{y:Operand}(I:o.op = .store ty (.tmp t) y)(Y:o.dst=none)(C:jV p (σ.t t))(h:dS P N Φ σ o some=some Z):Nonempty (sC P N Φ o p pb σ Z):=by
 have HD:∀ (x:A) (z:A),(∀ k,x ≠ .ptr k) -> yL x z=false:=by
  intro x z E;unfold yL;split
  ·grind
  ·rfl
 have eR:∀ σ2:S,(∀ k,σ2.t t ≠ .ptr k) -> dS P N Φ σ2 o some=qW P σ2 ty (σ2.t t) (aL σ2 y) some:=by
  intro σ2 M8;unfold dS;rw[show ga o.op=false by rw[I];rfl,av];simp only[iU,I,Y];rw[show yL (aL σ2 (.tmp t)) (aL σ2 y)=false from HD _ _ M8,av];rfl
 rw[eR σ (λk O=>by rw[O]at C;exact C)]at h;cases E:σ.t t with
 | aG D j=>
  rw[E]at h C;have hp:p D=true:=C;have key:∃ x,∀ σ2:S,σ2.m=σ.m -> ∀ v,v=aL σ y -> qW P σ2 ty (.aG D j) v some=some (σ2.root D x):=by
   unfold qW at h;split at h
   ·rename_i n xs hn qi;split at h
    ·rename_i hlen;simp only at h;split at h
     ·rename_i cs gu;split at h
      ·rename_i hj;cases hl:xs.all Lf.live with
       |false=>grind
       | true=>
        refine⟨.az (splice cs j xs),λσ2 T v hv=>?_⟩
        subst hv;simp only[qW,hn,qi,aW hlen,T,gu,aW hj,hl,aq];simp only[S.root,T]
      ·cases h
     ·cases h
    ·cases h
   ·cases h
  obtain⟨x,mq⟩:=key;have U:=mq σ rfl _ rfl;rw[h]at U;injection U with U
  refine⟨{ G:=λσ=>σ.root D x,u:=.undef,eq:=by rw[Y];exact U,run:=λσ2 tW T=>?_,grow:=λσ=>.rt D x hp (.refl σ),set:=λσ d v hv=>rfl,bp:=λ_ σ t r j ht _=>ht }⟩
  have e1:σ2.t t = .aG D j:=(tW (.tmp t) (by rw[I];simp[Op.operands])).trans E;rw[eR σ2 (λk O=>by rw[e1]at O;cases O),e1,mq σ2 T _ (tW y (by rw[I];simp[Op.operands])),Y];rfl
 |ptr k=>rw[E]at C;exact C.elim
 | _=>
  rw[E]at h;exfalso;revert h;unfold qW;split
  ·grind
  ·grind
def cC(e:Nat)(x:aS)(u:A)(σ:S):S:=((σ.drop e).root e x).set e u
def nq(e:Nat)(u:A):Prop:=u = .aG e 0\/u = .lf (.own [e])
structure kH (x:aS):Prop where
 cx:∀K:nW,x.cx K=x
def kH.drop{x:aS}(h:kH x)(n:Nat):x.drop n=x:=h.cx _
def kH.dA{x:aS}(h:kH x)(ns cn:aa Nat):x.dA ns cn=x:=h.cx _
def kH.zero(C:aa Value):kH (.az (C.map oL)):=⟨λK=>bB aS.az (r5.qa (bT.2 λc D=>by
 obtain⟨v,_,rfl⟩:=List.mem_map.1 D;unfold oL;split<;>rfl))⟩
def abj(h:wM o=true):∃ t,∃ e:Nat,o.op = .alloc t/\o.guard=none/\o.dst=some e/\e<20000:=by
 unfold wM at h;rw[aM,aM]at h;obtain⟨⟨C,E⟩,D⟩:=h;split at C
 ·rename_i t I;split at D
  ·simp_all
  ·cases D
 ·cases C
def amm{ops:Array Oper}{t:TypeId}{e:Nat}(D:o.op = .alloc t)(O:o.guard=none)(T:o.dst=some e){E:S}(h:dM P N Φ ops σ o some=some E):∃ x,kH x/\E=cC e x (.aG e 0) σ/\∀ σ2,dM P N Φ ops σ2 o some=some (cC e x (.aG e 0) σ2):=by
 have I:∀ σ2,dM P N Φ ops σ2 o some=r8 P N σ2 e t some:=by
  intro σ2;unfold dM gn;rw[O];simp only;unfold dS;rw[show ga o.op=false by rw[D];rfl,av];simp only[iU,D,gS,T]
 rw[I]at h;unfold r8 at h;split at h
 ·rename_i z U;unfold gZ at h;cases C:Nat.blt e N with
  |false=>rw[C]at h;cases h
  | true=>
   rw[C,aq]at h;injection h with h
   refine⟨_,.zero _,h.symm,λσ2=>(I σ2).trans ?_⟩
   unfold r8 gZ;rw[U,C];rfl
 ·cases h
def Ie{σ2:S}:∀ (ps:aa PK) (xs:aa Operand),(∀ x∈xs,aL σ2 x=aL σ x) -> jf σ2 ps xs=jf σ ps xs
 |[],[],_=>rfl
 |[],_::_,_=>rfl
 |.v _ _::_,[],_=>rfl
 |.p _ _ _::_,[],_=>rfl
 |.s _ _::_,[],_=>rfl
 |.v _ _::ps,x::xs,h=>by simp[jf];exact Ie ps xs (λy C=>h y (.tail _ C))
 |.s _ _::ps,x::xs,h=>by simp only[jf];exact Ie ps xs (λy C=>h y (.tail _ C))
 | .p _ _ _ :: ps,x :: xs,h=>by
  simp only[jf];rw[h x (.head _),Ie ps xs (λy C=>h y (.tail _ C))]
def Us{ok:Nat -> Nat -> Bool}{σ2:S}(D:∀ t r j,σ.t t = .aG r j -> ok t r=true -> σ2.t t = .aG r j):∀ (ps:aa PK) (xs:aa Operand),tT ok σ ps xs=true -> tT ok σ2 ps xs=true/\jf σ2 ps xs=jf σ ps xs
 |[],[],_=>⟨rfl,rfl⟩
 | .v _ _ :: ps,x :: xs,h=>by
  exact Us D ps xs h
 | .p _ _ _ :: ps,x :: xs,h=>by
  cases x with
  | tmp t=>
   simp[tT,aM]at h;obtain⟨C,I⟩:=h;obtain⟨O,T⟩:=Us D ps xs I;split at C
   ·rename_i U j E;have e:=D t U j E C;refine⟨?_,?_⟩
    ·simp only[tT,aM];exact⟨by rw[e];exact C,O⟩
    ·simp only[jf,aL,e,E,T]
   ·cases C
  |const v=>simp[tT]at h
  |global g=>simp[tT]at h
  |func f=>simp[tT]at h
def Calm.jr{ok:Nat->Nat->Bool}{sE ng:Nat->Bool}{σ2:S}(h:Calm Φ ok sE ng p pb σ o)(O:∀ t r j,σ.t t = .aG r j->ok t r=true->σ2.t t = .aG r j)(T:∀ t,sE t=true->jV p (σ.t t)->jV p (σ2.t t))(U:∀ t,ng t=true->sB p pb (σ.t t)->sB p pb (σ2.t t)):Calm Φ ok sE ng p pb σ2 o:=by
 rcases h with h|⟨f,args,Y,c,E,C,D,I,Z⟩|⟨ty,t,y,E,C,D,I⟩|⟨x,y,t,t',E,C,hn,D⟩
 ·exact .inl h
 ·obtain⟨k1,k2⟩:=Us O _ _ I;exact .inr (.inl ⟨f,args,Y,c,E,C,D,k1,by rw[k2];exact Z⟩)
 ·exact .inr (.inr (.inl ⟨ty,t,y,E,C,D,T t D I⟩))
 ·exact .inr (.inr (.inr ⟨x,y,t,t',E,C,hn,U x C D⟩))
def M9{ops:Array Oper}(U:oS o=true)(Y:gn σ ops o=some true){τ:S}(h:dM P N Φ ops σ o some=some τ):∃ (e:Nat) (x:aS) (u:A),o.dst=some e/\e<20000/\kH x/\nq e u/\τ=cC e x u σ/\
  ∀σ2,gn σ2 ops o=some true->(∀y∈o.op.operands,aL σ2 y=aL σ y)->dM P N Φ ops σ2 o some=some (cC e x u σ2):=by
 have Z:ga o.op=false->∀ σ2,gn σ2 ops o=some true->dM P N Φ ops σ2 o some=iU P N Φ σ2 o some:=by
  intro hv σ2 I;unfold dM;rw[I];simp only;unfold dS;rw[hv,av]
 have bsl:∀y:V,kH (.sl y):=λy=>⟨λ_=>rfl⟩
 unfold oS at U;rw[aM]at U;obtain⟨Ig,rq⟩:=U;split at rq
 ·rename_i e D;have dK:e<20000:=cE rq;split at Ig
  ·rename_i t C;have E:=Z (by rw[C];rfl);rw[E σ Y]at h;simp only[iU,C,gS,D]at h;unfold r8 at h;split at h
   ·rename_i z hz;unfold gZ at h;cases hN:Nat.blt e N with
    |false=>rw[hN]at h;cases h
    | true=>
     rw[hN,aq]at h;injection h with h
     refine⟨e,.az (z.cells.toList.map oL),.aG e 0,D,dK,.zero _,.inl rfl,h.symm,λσ2 I _=>(E σ2 I).trans ?_⟩
     simp only[iU,C,gS,D];unfold r8 gZ;rw[hz,hN];rfl
   ·cases h
  ·rename_i t len parts C;have E:=Z (by rw[C];rfl);rw[E σ Y]at h;have hn:q9 t=false:=by simpa using Ig
   simp only[iU,C,gS,D,hn,av]at h;obtain⟨y,O,h2⟩:=aaD h;injection O with O
   refine⟨e,.sl y,.lf (.own [e]),D,dK,bsl y,.inr rfl,O.symm,λσ2 I T=>(E σ2 I).trans ?_⟩
   simp only[iU,C,gS,D,hn,av]
   refine(h2 σ2 λq hq=>T _ ?_).at_ _
   rw[C];simp only[Op.operands];exact List.mem_toArray.2 (List.mem_map_of_mem (f:=(·.2)) hq)
  ·rename_i t l c C;have E:=Z (by rw[C];rfl);rw[E σ Y]at h;simp only[iU,C,gS,D]at h;obtain⟨y,O,h2⟩:=aaC h;injection O with O
   refine⟨e,.sl y,.lf (.own [e]),D,dK,bsl y,.inr rfl,O.symm,λσ2 I T=>(E σ2 I).trans ?_⟩
   simp only[iU,C,gS,D];rw[T l (by rw[C];simp[Op.operands]),T c (by rw[C];simp[Op.operands])];exact(h2 σ2).at_ _
  ·cases Ig
 ·cases rq
def Na{d:Nat}{t:TypeId}{y z:A}{U:S}(h:uS P N σ d t y z some=some U):∃ (r:Nat) (v:V),U=((σ.drop r).root r (.sl v)).set d (.lf (.own [r]))/\(r=d\/y = .lf (.own [r]))/\
  ∀σ2:S,(∀(k:V->aj S),tw σ2 z k=tw σ z k)->(∀r v,y = .lf (.own [r])->σ.m r=some (.sl v)->σ2.m r=some (.sl v))->uS P N σ2 d t y z some=some (((σ2.drop r).root r (.sl v)).set d (.lf (.own [r]))):=by
 unfold uS at h;split at h
 ·rename_i e tc Y;cases I:(Nat.beq (full tc) 0&&(zeroOf P e).any (λz=>Nat.beq z.cells.size (aC tc)))with
  |false=>rw[I]at h;cases h
  | true=>
   rw[I,aq]at h;obtain⟨yv,C,Z⟩:=TD.mm h;clear h;split at C
   ·cases C
   ·rename_i l2 jv;split at C
    ·cases D:bX l2.length with
     |false=>rw[D]at C;cases C
     | true=>
      rw[D,aq]at C;cases O:Nat.blt d N with
      |false=>unfold gZ at C;rw[O]at C;cases C
      | true=>
       have E:=C;unfold gZ at E;rw[O,aq]at E;injection E with E
       refine⟨d,.sl tc 2 false l2,E.symm,.inl rfl,λσ2 T rq=>?_⟩
       simp only[uS,Y,I,aq];refine(T _).trans ((Z.at_ _).trans ?_);simp only[jv,D,aq];unfold gZ;rw[O,aq]
    ·rename_i rr;split at C
     ·rename_i t' o q l hm;split at C
      ·rename_i nZ;cases D:(Nat.blt d N&&(Nat.blt rr N || Nat.ble 60000 rr)&&bX (l.length+l2.length))with
       |false=>rw[D]at C;cases C
       | true=>
        rw[D,aq]at C;injection C with C
        refine⟨rr,_,C.symm,.inr rfl,λσ2 T rq=>?_⟩
        simp only[uS,Y,I,aq];refine(T _).trans ((Z.at_ _).trans ?_);simp only[jv,rq rr _ rfl hm,aK nZ,D,aq]
      ·cases C
     ·cases C
    ·cases C
 ·cases h
def Ut(h:isApp o=true):∃ x y t C,o.op = .call ⟨.builtin .append,⟨[x,y]⟩,⟨[t,C]⟩⟩/\q9 t=false/\Nat.beq t C=true/\CF o.dst t x=false:=by
 unfold isApp at h
 grind
def Ih{x y:Operand}{t D:TypeId}(E:o.op = .call ⟨.builtin .append,⟨[x,y]⟩,⟨[t,D]⟩⟩)(I:q9 t=false)(O:Nat.beq t D=true)(C:CF o.dst t x=false)(σ:S):dS P N Φ σ o some=gS o λd=>uS P N σ d t (aL σ x) (aL σ y) some:=by
 unfold dS;rw[show ga o.op=false by rw[E];rfl];simp[iU,E,I,O,aq];unfold gS;cases T:o.dst with
 |none=>rfl
 | some d=>
  rw[T]at C;have C:MU t d x=false:=C;simp_all
theorem amn{U:S}{x:Tmp}{y:Operand}{t Y:TypeId}(C:o.op = .call ⟨.builtin .append,⟨[.tmp x,y]⟩,⟨[t,Y]⟩⟩)(E:q9 t=false)(I:Nat.beq t Y=true)(O:CF o.dst t (.tmp x)=false)(hp:∀ n,fe o n=true->p n=true/\pb n=true)(kC:sB p pb (σ.t x))(h:dS P N Φ σ o some=some U):Nonempty (sC P N Φ o p pb σ U):=by
 rw[Ih C E I O]at h;obtain⟨d,T,h⟩:=jU h;obtain⟨r,v,iS,hr,qC⟩:=Na h;have D:p r=true/\pb r=true:=by
  rcases hr with hr|hr
  ·rw[hr];exact hp d (by unfold fe;rw[T,C];exact Nat.beq_refl d)
  ·exact kC r hr
 refine⟨{ G:=λσ=>(σ.drop r).root r (.sl v),u:=.lf (.own [r]),eq:=by rw[T];exact iS,run:=λσ2 Z hm=>?_,grow:=λσ=>.root r _ D.1 D.2 (.refl σ),set:=λσ e v' hv=>(by rw[S.drop_set r (A.Cy hv D.1 D.2)];rfl),bp:=λha=>(by rw[isApp,C]at ha;simp[E,I,O]at ha) }⟩
 rw[Ih C E I O];unfold gS;rw[T];simp only;rw[Z (.tmp x) (by rw[C];simp[Op.operands,Call.operands]),Z y (by rw[C];simp[Op.operands,Call.operands]),qC σ2 (λk=>al1 hm _ k) (λr' v' _ h'=>by rw[hm];exact h')];rfl
theorem amo[Inhabited Wd](eC:fZ P Φ){ok:Nat->Nat->Bool}{sE ng nh:Nat->Bool}(hX:∀ x,nh x=true->jV p (σ.t x)){ops:Array Oper}{oi D:Oper}{v:A}{τ:S}(hF:nj P ops oi p pb v σ)(ha:oi.apart ops D=true)(O:Calm Φ ok sE ng p pb σ D)(hp:∀ n,fe D n=true->p n=true/\pb n=true)
  (h:dM P N Φ ops (gE σ oi.dst v) D some=some τ):∃ U,dM P N Φ ops σ D some=some U/\τ=gE U oi.dst v/\nj P ops oi p pb v U/\(isApp D=false->∀ t r j,σ.t t = .aG r j->D.dst≠some t->fe D r=false->U.t t = .aG r j)/\
   (∀t,jV p (σ.t t)->(D.dst≠some t\/(wM D=true/\p t=true)\/∃s x f,D.op = .fieldAddr s (.tmp x) f/\nh x=true)->jV p (U.t t))/\
   ∀t,sB p pb (σ.t t)->(D.dst≠some t\/(oS D=true/\p t=true/\pb t=true)\/(isApp D=true\/AH Φ D=true))->sB p pb (U.t t):=by
 obtain⟨a1,a2,a3⟩:=Oper.apart_spec ha;have EH:∀ (σ:S) (u:A) t,D.dst≠some t->(gE σ D.dst u).t t=σ.t t:=by
  intro σ u t O;cases T:D.dst with
  |none=>rfl
  |some d=>exact cy _ _ _ (by rintro rfl;exact O T)
 have EI:∀ U,dM P N Φ ops σ D some=some U->∀ t,wM D=true->D.dst=some t->p t=true->jV p (U.t t):=by
  intro U C t EI T TW;obtain⟨ty,e,E,Y,h3,_⟩:=abj EI;rw[h3]at T;injection T with T;subst T;obtain⟨x,_,e1,_⟩:=amm E Y h3 C;rw[e1];show jV p (bJ _ e (.aG e 0) e);rw[bM];exact TW
 have fin:∀ U,dM P N Φ ops σ D some=some U->(∀ t,D.dst≠some t->jV p (σ.t t)->jV p (U.t t))->∀ t,jV p (σ.t t)->(D.dst≠some t\/(wM D=true/\p t=true)\/∃ s x f,D.op = .fieldAddr s (.tmp x) f/\nh x=true)->jV p (U.t t):=by
  intro U C hk t O Uu;rcases Uu with cA|⟨E,Y⟩|⟨s,x,f,E,Y⟩
  ·exact hk t cA O
  ·by_cases T:D.dst=some t
   ·exact EI U C t E T Y
   ·exact hk t T O
  ·by_cases T:D.dst=some t
   ·unfold dM at C;split at C
    ·unfold dS at C;rw[show ga D.op=true by rw[E];rfl,aq]at C;rw[E]at C;simp only[nc]at C;have hx:=hX x Y;have hx:jV p (aL σ (.tmp x)):=hx;generalize aL σ (.tmp x)=z at hx C;have key:∀ v,iI N σ D.dst v some=some U->jV p v->jV p (U.t t):=by
      intro v hv hA;obtain⟨I,_⟩:=tV hv;injection I with I;rw[<-I,T];show jV p (bJ σ.t t v t);rw[bM];exact hA
     unfold D8 at C;split at C
     ·cases C
     ·split at C
      ·split at C
       ·exact key _ C hx
       ·exact key _ C trivial
       ·exact hx.elim
       ·cases C
      ·cases C
    ·obtain⟨I,_⟩:=tV C;injection I with I;rw[<-I,T];show jV p (bJ σ.t t .skip t);rw[bM];trivial
    ·cases C
   ·exact hk t T O
 have amp:=O;have abk:∀ U,dM P N Φ ops σ D some=some U->(∀ t,D.dst≠some t->sB p pb (σ.t t)->sB p pb (U.t t))->∀ t,sB p pb (σ.t t)->(D.dst≠some t\/(oS D=true/\p t=true/\pb t=true)\/(isApp D=true\/AH Φ D=true))->sB p pb (U.t t):=by
  intro U C hk t O Uu;rcases Uu with cA|⟨E,Y⟩|amq|CJ
  ·exact hk t cA O
  ·by_cases T:D.dst=some t
   ·cases hw:gn σ ops D with
    |none=>unfold dM at C;rw[hw]at C;cases C
    | some b=>
     cases b with
     | true=>
      obtain⟨e,x,u,I,g2,g3,g4,g5,_⟩:=M9 E hw C;rw[T]at I;injection I with I;subst I;rw[g5];intro r hr;have hr:bJ _ t u t = .lf (.own [r]):=hr;rw[bM]at hr;rcases g4 with g4|g4
      ·rw[g4]at hr;cases hr
      ·rw[g4]at hr;injection hr with hr;injection hr with hr;injection hr with hr;subst hr;exact Y
     | false=>
      unfold dM at C;rw[hw]at C;obtain⟨I,_⟩:=tV C;injection I with I;rw[<-I,T];intro r hr;have hr:bJ σ.t t .skip t = .lf (.own [r]):=hr;rw[bM]at hr;cases hr
   ·exact hk t T O
  ·by_cases T:D.dst=some t
   ·obtain⟨x,y,t1,t2,I,g2,g3,g4⟩:=Ut amq;have hT:sB p pb (aL σ x):=by
     rcases amp with q|⟨f,args,jS,c,q1,_⟩|⟨ty,tt,yy,q1,_⟩|⟨x',y',t1',t2',q1,q2,q3,q4⟩
     ·rw[I]at q;cases q
     ·rw[I]at q1;cases q1
     ·rw[I]at q1;cases q1
     ·rw[I]at q1;injection q1 with q1;injection q1 with _ q1 _;injection q1 with q1;injection q1 with q1 _;subst q1;exact q4
    cases hw:gn σ ops D with
    |none=>unfold dM at C;rw[hw]at C;cases C
    | some b=>
     cases b with
     | true=>
      unfold dM at C;rw[hw]at C;have C:dS P N Φ σ D some=some U:=C;rw[Ih I g2 g3 g4]at C;obtain⟨d,vn,C⟩:=jU C;rw[T]at vn;injection vn with vn;subst vn;obtain⟨r,v,iS,hr,_⟩:=Na C;rw[iS];intro r' fQ;have fQ:bJ ((σ.drop r).root r (.sl v)).t t (.lf (.own [r])) t = .lf (.own [r']):=fQ;rw[bM]at fQ;injection fQ with fQ;injection fQ with fQ;injection fQ with fQ;subst fQ;rcases hr with hr|hr
      ·rw[hr];exact hp t (by unfold fe;rw[T,I];exact Nat.beq_refl t)
      ·exact hT r hr
     | false=>
      unfold dM at C;rw[hw]at C;obtain⟨I,_⟩:=tV C;injection I with I;rw[<-I,T];intro r hr;have hr:bJ σ.t t .skip t = .lf (.own [r]):=hr;rw[bM]at hr;cases hr
   ·exact hk t T O
  ·by_cases T:D.dst=some t
   ·cases hw:gn σ ops D with
    |none=>unfold dM at C;rw[hw]at C;cases C
    | some b=>
     cases b with
     | true=>
      unfold dM at C;rw[hw]at C;have C:dS P N Φ σ D some=some U:=C;unfold AH at CJ;split at CJ
      ·rename_i f args jS ho;split at CJ
       ·rename_i c hc;unfold dS at C;rw[show ga D.op=false by rw[ho];rfl,av]at C;simp only[iU,ho,hc]at C;obtain⟨d,vn,C⟩:=jU C;rw[T]at vn;injection vn with vn;subst vn;obtain⟨res,tD,E,Y,_⟩:=MH (Ib eC hc) EA C;injection Y with Y;subst Y;have mA:∀ n,1000000000100000+1000*t<=n->p n=true/\pb n=true:=λn hn=>hp n (by unfold fe;rw[T,ho];exact ja hn)
        intro r hr;unfold n6 at E;cases res with
        | one q=>
         simp only at E;split at E
         ·rename_i y Z;injection E with E;rw[<-E]at hr;have hr:bJ _ t y t=A.lf (Lf.own [r]):=hr;rw[bM]at hr;subst hr;obtain⟨b,vs⟩:=q;cases b with
          |true=>cases Z
          | false=>
           match vs,Z with
           | [v],Z=>
            have Z:some (A.lf (bif v.aH then Lf.v v else Lf.own [1000000000100000+1000*t]))=some (A.lf (Lf.own [r])):=Z;injection Z with Z;injection Z with Z;cases hf:v.aH with
            |true=>rw[hf]at Z;cases Z
            | false=>
             rw[hf]at Z;injection Z with Z;injection Z with Z;subst Z;exact mA _ (dg _)
         ·cases E
        | fz ps=>
         injection E with E;rw[<-E]at hr;have hr:bJ _ t _ t=A.lf (Lf.own [r]):=hr;rw[bM]at hr;cases hr
       ·cases CJ
      ·cases CJ
     | false=>
      unfold dM at C;rw[hw]at C;obtain⟨I,_⟩:=tV C;injection I with I;rw[<-I,T];intro r hr;have hr:bJ σ.t t .skip t = .lf (.own [r]):=hr;rw[bM]at hr;cases hr
   ·exact hk t T O
 unfold dM at h;rw[amf a1]at h;split at h
 ·rename_i hw;have amr:Nonempty (sC P N Φ D p pb (gE σ oi.dst v) τ):=by
   rcases O with O|⟨f,args,jS,c,E,Y,h3,h4,h5⟩|⟨ty,t,y,E,Y,h3,h4⟩|⟨x,y,t1,t2,E,Y,hn,h3⟩
   ·exact amd eC O hp h
   ·refine amj E Y h3 hp ?_ h;rw[Ie]
    ·exact h5
    ·intro x hx;refine M3 a1 v ?_;rw[E];simp only[Op.operands,Call.operands];simp only[Array.mem_append]
     first
      |exact .inr (by simpa using hx)
      |exact .inl (by simpa using hx)
   ·refine aml E Y ?_ h;have e1:aL (gE σ oi.dst v) (.tmp t)=aL σ (.tmp t):=M3 a1 v (by rw[E];simp[Op.operands]);have e1:(gE σ oi.dst v).t t=σ.t t:=e1;rw[e1];exact h4
   ·refine amn E hn.1 hn.2.1 hn.2.2 hp ?_ h;have e1:aL (gE σ oi.dst v) (.tmp x)=aL σ (.tmp x):=M3 a1 v (by rw[E];simp[Op.operands,Call.operands]);have e1:(gE σ oi.dst v).t x=σ.t x:=e1;rw[e1];exact h3
  obtain⟨G,u,e,hr,hg,hs,Nb⟩:=amr;have sF:dM P N Φ ops σ D some=some (gE (G σ) D.dst u):=by
   unfold dM;rw[hw];exact hr σ (λx hx=>(M3 a1 v hx).symm) (ame _ _).symm
  refine⟨gE (G σ) D.dst u,sF,?_,(hF.grow (hg σ)).put a3,λwL t r j O cA mA=>?_,fin _ sF λt cA O=>?_,abk _ sF λt cA O=>?_⟩
  ·refine e.trans ?_;have:∀ dst,G (gE σ dst v)=gE (G σ) dst v:=by
    intro dst;cases dst with
    |none=>rfl
    |some d=>exact hs σ d v hF.nr
   rw[this];exact abd _ _ a2
  ·rw[EH _ _ t cA];exact Nb wL σ t r j O mA
  ·rw[EH _ _ t cA];exact(hg σ).st O
  ·rw[EH _ _ t cA];exact(hg σ).tg O
 ·rename_i hw;obtain⟨E,Y⟩:=tV h;injection E with E;have sF:dM P N Φ ops σ D some=some (gE σ D.dst .skip):=by
   unfold dM;rw[hw];exact(Y σ).at_ _
  exact⟨gE σ D.dst .skip,sF,by rw[<-E];exact abd _ _ a2,hF.put a3,λ_ t r j O cA _=>(by rw[EH _ _ t cA];exact O),fin _ sF λt cA O=>(by rw[EH _ _ t cA];exact O),abk _ sF λt cA O=>(by rw[EH _ _ t cA];exact O)⟩
 ·cases h
def Any(P:Program)(N:Nat)(Φ:eN)(ops:Array Oper)(K:S->Prop):Nat->Nat->S->Prop
 |0,L,σ=>(∀j,mB ops L j=false)/\K σ
 |f+1,L,σ=>((∀j,mB ops L j=false)->K σ)/\∀j,mB ops L j=true->∃o C,ops[j]?=some o/\dM P N Φ ops σ o some=some C/\Any P N Φ ops K f (L |||2 ^ j) C
def AJ(L i j:Nat):(L ||| 2 ^ i).testBit j=(L.testBit j || decide (i=j)):=by
 rw[Nat.testBit_or,Nat.testBit_two_pow]
def Ii{ops:Array Oper}{L j:Nat}:mB ops L j=true ↔ L.testBit j=false /\ ∃ o,ops[j]?=some o /\ ∀ e∈o.after,Region.binds .any e=true -> L.testBit e.on=true:=by
 unfold mB
 grind
def Uv{ops:Array Oper}{L i j:Nat}(h:mB ops L j=true)(C:j≠i):mB ops (L ||| 2 ^ i) j=true:=by
 rw[Ii]at h ⊢
 grind
def nj.step{ops:Array Oper}{C:Oper}{v:A}(I:nj P ops C p pb v σ)(O:∀ σ:S,iI N σ C.dst v some=some (gE σ C.dst v)):dM P N Φ ops σ C some=some (gE σ C.dst v):=by
 unfold dM;rcases I with ⟨D,E,T,_,_,_⟩|⟨D,E⟩
 ·rw[D];unfold dS;rw[E,aq];exact(T.at_ _).trans (O σ)
 ·simp_all
def Uw{K:S -> Prop}{ops:Array Oper}{i W:Nat}{U:Oper}(hi:ops[i]?=some U)(hW:∀ j C,ops[j]?=some C -> W.testBit j=true -> ∃ e∈C.after,Region.binds .any e=true/\(e.on=i \/ W.testBit e.on=true))(E:S -> S)(I:Nat -> S -> Prop)
  (r1:∀L σ,I L σ -> dM P N Φ ops σ U some=some (E σ))
  (r2:∀L σ j C Y,I L σ -> ops[j]?=some C -> j≠i -> L.testBit j=false -> W.testBit j=false -> dM P N Φ ops (E σ) C some=some Y -> ∃O,dM P N Φ ops σ C some=some O/\Y=E O/\I (L |||2 ^ j) O):
  ∀(f L:Nat) (σ:S),(∀j,W.testBit j=true -> L.testBit j=false) -> mB ops L i=true -> I L σ -> Any P N Φ ops K f (L |||2 ^ i) (E σ) -> Any P N Φ ops K (f+1) L σ:=by
 intro f
 induction f with
 | zero=>
  intro L σ wN T Z H
  refine⟨λh=>absurd (h i) (by rw[T];simp),λj hj=>?_⟩
  by_cases D:j=i
  ·subst D;exact⟨U,_,hi,r1 L σ Z,H⟩
  ·have:=Uv hj D;rw[H.1]at this;cases this
 | succ f ih=>
  intro L σ wN T Z H
  refine⟨λh=>absurd (h i) (by rw[T];simp),λj hj=>?_⟩
  by_cases D:j=i
  ·subst D;exact⟨U,_,hi,r1 L σ Z,H⟩
  ·obtain⟨C,Y,yQ,iS,H'⟩:=H.2 j (Uv hj D);obtain⟨EJ,oj',Nc,qC⟩:=Ii.1 hj;rw[yQ]at Nc;injection Nc with Nc;subst Nc;have AK:W.testBit j=false:=by
    cases AK:W.testBit j with
    |false=>rfl
    | true=>
     obtain⟨e,he,hb,kF⟩:=hW j C yQ AK;have h1:=qC e he hb;rcases kF with kF|kF
     ·rw[kF,(Ii.1 T).1]at h1;cases h1
     ·rw[wN _ kF]at h1;cases h1
   obtain⟨O,hs,AL,hI'⟩:=r2 L σ j C Y Z yQ D EJ AK iS
   refine⟨C,O,yQ,hs,ih (L |||2 ^ j) O (λk hk=>?_) (Uv T (Ne.symm D)) hI' ?_⟩
   ·grind
   ·rw[<- AL]
    grind
theorem ams[Inhabited Wd](eC:fZ P Φ){ok:Nat -> Nat -> Bool}{sE ng nh:Nat -> Bool}{K:S -> Prop}{ops:Array Oper}{i W:Nat}{I:Oper}{v:A}(hi:ops[i]?=some I)(hN:∀ σ:S,iI N σ I.dst v some=some (gE σ I.dst v))
  (hW:∀j C,ops[j]?=some C -> W.testBit j=true -> ∃e∈C.after,Region.binds .any e=true/\(e.on=i \/ W.testBit e.on=true)) (f L:Nat) (σ:S)
  (jK:∀t r,ok t r=true -> ∀j C,ops[j]?=some C -> j≠i -> L.testBit j=false -> W.testBit j=false -> C.dst≠some t/\fe C r=false/\isApp C=false)
  (Nd:∀x,nh x=true -> ∀j C,ops[j]?=some C -> j≠i -> L.testBit j=false -> W.testBit j=false -> C.dst≠some x) (hX:∀x,nh x=true -> jV p (σ.t x))
  (Nf:∀t,sE t=true -> ∀j C,ops[j]?=some C -> j≠i -> L.testBit j=false -> W.testBit j=false -> C.dst≠some t \/ (wM C=true/\p t=true) \/ ∃s x f,C.op = .fieldAddr s (.tmp x) f/\nh x=true)
  (Ng:∀t,ng t=true -> ∀j C,ops[j]?=some C -> j≠i -> L.testBit j=false -> W.testBit j=false -> C.dst≠some t \/ (oS C=true/\p t=true/\pb t=true) \/ (isApp C=true \/ AH Φ C=true))
  (CK:∀j C,ops[j]?=some C -> j≠i -> L.testBit j=false -> W.testBit j=false -> I.apart ops C=true/\Calm Φ ok sE ng p pb σ C /\ ∀n,fe C n=true -> p n=true/\pb n=true)
  (wN:∀j,W.testBit j=true -> L.testBit j=false) (hr:mB ops L i=true) (hF:nj P ops I p pb v σ) (H:Any P N Φ ops K f (L |||2 ^ i) (gE σ I.dst v)):Any P N Φ ops K (f+1) L σ:=by
 refine Uw hi hW (λσ=>gE σ I.dst v)
  (λL σ=>nj P ops I p pb v σ/\(∀ t r,ok t r=true -> ∀ j C,ops[j]?=some C -> j≠i -> L.testBit j=false -> W.testBit j=false -> C.dst≠some t/\fe C r=false/\isApp C=false) /\
   ((∀x,nh x=true -> ∀j C,ops[j]?=some C -> j≠i -> L.testBit j=false -> W.testBit j=false -> C.dst≠some x) /\ ∀x,nh x=true -> jV p (σ.t x)) /\
   (∀t,sE t=true -> ∀j C,ops[j]?=some C -> j≠i -> L.testBit j=false -> W.testBit j=false -> C.dst≠some t \/ (wM C=true/\p t=true) \/ ∃s x f,C.op = .fieldAddr s (.tmp x) f/\nh x=true) /\
   (∀t,ng t=true -> ∀j C,ops[j]?=some C -> j≠i -> L.testBit j=false -> W.testBit j=false -> C.dst≠some t \/ (oS C=true/\p t=true/\pb t=true) \/ (isApp C=true \/ AH Φ C=true)) /\
   ∀j C,ops[j]?=some C -> j≠i -> L.testBit j=false -> W.testBit j=false -> I.apart ops C=true/\Calm Φ ok sE ng p pb σ C /\ ∀n,fe C n=true -> p n=true/\pb n=true)
  (λL σ h=>h.1.step hN) (λL σ j C τ h yQ Ij EJ AK iS=>?_) f L σ wN hr ⟨hF,jK,⟨Nd,hX⟩,Nf,Ng,CK⟩ H
 obtain⟨hF,jK,⟨Nd,hX⟩,Nf,Ng,CK⟩:=h;obtain⟨c1,c2,c3⟩:=CK j C yQ Ij EJ AK;obtain⟨dc,hs,AL,hF',TQ,kC,hta⟩:=amo (nh:=nh) eC hX hF c1 c2 c3 iS;have Z:∀ k,(L ||| 2 ^ j).testBit k=false -> L.testBit k=false:=by
  intro k D;rw[AJ,nQ]at D;exact D.1
 refine⟨dc,hs,AL,hF',λt r E k O D T U Y=>jK t r E k O D T (Z k U) Y,⟨λx hx k O D T U Y=>Nd x hx k O D T (Z k U) Y,λx hx=>kC x (hX x hx) (.inl (Nd x hx j C yQ Ij EJ AK))⟩,λt E k O D T U Y=>Nf t E k O D T (Z k U) Y,λt E k O D T U Y=>Ng t E k O D T (Z k U) Y,λk O D T U Y=>?_⟩
 obtain⟨d1,d2,d3⟩:=CK k O D T (Z k U) Y
 refine⟨d1,d2.jr (λt r j' E h=>?_) (λt h E=>kC t E (Nf t h j C yQ Ij EJ AK)) (λt h E=>hta t E (Ng t h j C yQ Ij EJ AK)),d3⟩
 grind
def A.Ux(y:A)(a b:Nat):(y.drop a).drop b=(y.drop b).drop a:=A.qb y _ _
def aS.Ux(y:aS)(a b:Nat):(y.drop a).drop b=(y.drop b).drop a:=aS.qb y _ _
def nq.drop(h:nq e u){n:Nat}(C:e≠n):u.drop n=u:=by
 rcases h with rfl|rfl
 ·simp only[A.drop,qc C,av,A.cx,ya]
 ·have:cT n [e]=false:=by simp[cT,C]
  simp only[A.drop,Lf.drop,this,av,A.cx,ya,Lf.cx]
def nq.dA(h:nq e u){ns cn:aa Nat}(D:dm e ns=false)(C:dm e cn=false):u.dA ns cn=u:=by
 rcases h with rfl|rfl
 ·simp only[A.dA,C,av,A.cx,wC]
 ·have E:gk [e] ns=false:=D;have I:gk [e] cn=false:=C;simp only[A.dA,Lf.dA,E,I,A.cx,wC,Lf.cx];rfl
def sG(k:Nat):(cC e x u σ).t k=if k=e then u else (σ.t k).drop e:=by
 by_cases C:k=e
 ·subst C;rw[aW rfl];exact bM _ _ _
 ·rw[aX C];exact cy _ _ _ C
def qD(n:Nat):(cC e x u σ).m n=if n=e then some x else (σ.m n).map (aS.drop e):=by
 show bJ (λr=>bif Nat.beq r e then none else (σ.m r).map (aS.drop e)) e (some x) n=_;by_cases C:n=e
 ·subst C;rw[aW rfl,bM]
 ·rw[aX C,cy _ _ _ C,qc C];rfl
def Uy(c:Nat)(y:aS)(k:Nat):((σ.drop c).root c y).t k=(σ.t k).drop c:=rfl
def abl(c:Nat)(y:aS)(n:Nat):((σ.drop c).root c y).m n=if n=c then some y else (σ.m n).map (aS.drop c):=by
 show bJ (λr=>bif Nat.beq r c then none else (σ.m r).map (aS.drop c)) c (some y) n=_;by_cases C:n=c
 ·subst C;rw[aW rfl,bM]
 ·rw[aX C,cy _ _ _ C,qc C];rfl
def abm{c:Nat}(z:V)(I:kH x)(O:nq e u)(T:e≠c):((cC e x u σ).drop c).root c (.sl z)=cC e x u ((σ.drop c).root c (.sl z)):=by
 refine S.ext' (λk=>?_) λn=>?_
 ·rw[Uy,sG,sG,Uy];by_cases C:k=e
  ·rw[aW C,aW C];exact O.drop T
  ·rw[aX C,aX C];exact A.qb _ _ _
 ·rw[abl,qD,qD,abl];by_cases D:n=c
  ·rw[aW D,aX,aW D];rfl
  ·rw[aX D];by_cases E:n=e
   ·rw[aW E,aW E];simp only[Option.map_some,I.drop]
   ·rw[aX E,aX E,aX D,Option.map_map,Option.map_map];congr 1;funext y;exact aS.qb y _ _
def Nh(C:kH x)(D:nq e u):∀ (xs:aa V) (c:Nat) (σ:S),e<c -> m7 c (cC e x u σ) xs=cC e x u (m7 c σ xs)
 |[],c,σ,_=>rfl
 | y :: xs,c,σ,h=>by
  simp[m7];cases E:y.aH with
  |true=>exact Nh C D xs _ σ (by omega)
  | false=>
   rw[abm y C D (by omega)];exact Nh C D xs _ _ (by omega)
def abn(C:kH x)(D:nq e u):∀ (ps:aa Pt) (c:Nat) (σ:S),e<c -> oO c (cC e x u σ) ps=cC e x u (oO c σ ps)
 |[],c,σ,_=>rfl
 | q :: ps,c,σ,h=>by
  simp[oO];rw[Nh C D _ _ _ h];exact abn C D ps _ _ (by omega)
def Ni{v:A}(D:d≠e)(E:v.drop e=v):(cC e x u σ).set d v=cC e x u (σ.set d v):=by
 refine S.ext' (λk=>?_) λn=>?_
 ·show bJ (cC e x u σ).t d v k=_;rw[sG];show _=if k=e then u else (bJ σ.t d v k).drop e;by_cases C:k=d
  ·subst C;rw[bM,aX D,bM,E]
  ·rw[cy _ _ _ C,cy _ _ _ C,sG]
 ·rfl
def amt{v:A}{C:aj Tmp}(D:C≠some e)(E:v.drop e=v):gE (cC e x u σ) C v=cC e x u (gE σ C v):=by
 cases C with
 |none=>rfl
 |some d=>exact Ni (by rintro rfl;exact D rfl) E
def amu{ns cn:aa Nat}{nr:aa (Nat×aS)}(T:kH x)(U:nq e u)(E:dm e ns=false)(I:dm e cn=false)(O:∀ q∈nr,q.1≠e/\q.2.drop e=q.2):(cC e x u σ).dA ns cn nr=cC e x u (σ.dA ns cn nr):=by
 have hl:nr.lookup e=none:=by
  cases hl:nr.lookup e with
  |none=>rfl
  |some y=>exact absurd rfl (O _ (M6 hl)).1
 refine S.ext' (λk=>?_) λn=>?_
 ·show ((cC e x u σ).t k).dA ns cn=_;rw[sG,sG];by_cases C:k=e
  ·rw[aW C,aW C];exact U.dA E I
  ·rw[aX C,aX C];exact A.qb _ _ _
 ·rw[qD];show (match nr.lookup n with | some x=>some x | none=>bif dm n ns || dm n cn then none else ((cC e x u σ).m n).map (aS.dA ns cn))=if n=e then some x else (match nr.lookup n with | some x=>some x | none=>bif dm n ns || dm n cn then none else (σ.m n).map (aS.dA ns cn)).map (aS.drop e);by_cases D:n=e
  ·subst D;rw[aW rfl,hl,E,I];simp only[Bool.or_false,av,qD,if_true,Option.map_some,T.dA]
  ·rw[aX D];cases Y:nr.lookup n with
   |some y=>simp only[Option.map_some];rw[(O _ (M6 Y)).2]
   | none=>
    simp only;cases (dm n ns ||dm n cn)with
    |true=>rfl
    | false=>
     simp only[av];rw[qD,aX D,Option.map_map,Option.map_map];congr 1;funext y;exact aS.qb y _ _
/-! What a call reads. -/
def abo{q:aa Nat}{k:V->aj X}(h:cT e q=false):ju (cC e x u σ).m q k=ju σ.m q k:=al7 q k h
def yR{y:Operand}(h:(aL σ y).nr p=true)(C:p e=true)(D:y ≠ .tmp e):aL (cC e x u σ) y=aL σ y:=by
 cases y with
 | tmp t=>
  show (cC e x u σ).t t=σ.t t;rw[sG,aX (by rintro rfl;exact D rfl)];exact A.AA h C
 |_=>rfl
def Uz{l:Lf}{k:V->aj X}(h:l.nr p=true)(C:p e=true):qg (cC e x u σ) l k=qg σ l k:=by
 cases l with
 |own q=>exact abo (aaJ h C)
 |_=>rfl
def abp{q:aa Nat}{s i j:Nat}{k:V->aj X}(h:oR p q=true)(C:p e=true):wg (cC e x u σ) q s i j k=wg σ q s i j k:=by
 unfold wg;exact abo (aaJ h C)
def amv{y:A}{k:V->aj X}(h:y.nr p=true)(C:p e=true):tw (cC e x u σ) y k=tw σ y k:=by
 cases y with
 |lf l=>exact Uz h C
 |view q s i j=>exact abp h C
 |_=>rfl
def UA(C:p e=true):∀ (xs:aa Lf) (k:aa V -> aj X),xs.all (Lf.nr p)=true -> r9 (cC e x u σ) xs k=r9 σ xs k
 |[],k,_=>rfl
 | y :: xs,k,h=>by
  rw[List.all_cons,aM]at h;simp[r9,Uz h.1 C];congr 1;funext z;exact UA C xs _ h.2
def amw{y:A}{k:Pt->aj X}(h:y.nr p=true)(C:p e=true):oM (cC e x u σ) y k=oM σ y k:=by
 cases y with
 |lf l=>simp only[oM];exact UA C _ _ (by rw[List.all_cons,show l.nr p=true from h];rfl)
 |agg cs=>simp only[oM];exact UA C _ _ h
 |view q s i j=>simp only[oM];exact abp h C
 |js cs=>cases cs<;>rfl
 |_=>rfl
def abq(C:p e=true):∀ (xs:aa Operand) (k:aa Pt->aj X),(∀ y∈xs,(aL σ y).nr p=true/\y ≠ .tmp e)->tH (cC e x u σ) xs k=tH σ xs k
 |[],k,_=>rfl
 | y :: xs,k,h=>by
  obtain⟨D,E⟩:=h y (.head _);unfold tH wz;rw[yR D C E,amw D C];congr 1;funext z;exact abq C xs _ (λy I=>h y (.tail _ I))
def UB{ns:aa Nat}(C:p e=true):∀ (xs:aa Lf) (k:aa V -> aj X),xs.all (Lf.nr p)=true -> tN (cC e x u σ) ns xs k=tN σ ns xs k
 |[],k,_=>rfl
 | y :: xs,k,h=>by
  rw[List.all_cons,aM]at h;simp[tN,Uz h.1 C];congr 2;funext z;exact UB C xs _ h.2
def abr{d:Nat}:∀ (xs:aa Lf),r7 (xs.map (Lf.drop d))=r7 xs
 |[]=>rfl
 | x :: xs=>by
  have C:(x.drop d).pl=x.pl:=by
   cases x with
   | own k=>
    show (bif cT d k then _ else Lf.own k).pl=_;cases cT d k<;>rfl
   |_=>rfl
  simp[List.map_cons,r7,C,abr]
def amx{ns:aa Nat}{y:A}{k:Pt->aj X}(h:y.nr p=true)(C:p e=true):sx (cC e x u σ) ns y k=sx σ ns y k:=by
 cases y with
 |lf l=>simp only[sx];exact UB C _ _ (by rw[List.all_cons,show l.nr p=true from h];rfl)
 |agg cs=>simp only[sx];exact UB C _ _ h
 |nU f cs=>cases cs<;>rfl
 | fn f cap=>
  match cap,h with
  |[],_=>rfl
  |_::_::_,_=>rfl
  | [(D,j)],h=>
   have E:p D=false:=by simpa [A.nr,A.fr,vj]using h
   have I:D≠e:=by rintro rfl;rw[C]at E;cases E
   simp only[sx,qD,aX I];cases σ.m D with
   |none=>rfl
   | some z=>
    cases z with
    |az cs=>simp only[Option.map_some,aS.H9,<-List.map_drop,abr]
    |_=>rfl
 |_=>rfl
def amy{l:Lf}(h:l.nr p=true)(C:p e=true):wD (cC e x u σ).m l=wD σ.m l:=by
 cases l with
 | own k=>
  match k with
  |[]=>rfl
  | [q]=>
   have D:q≠e:=by
    have h:(!p q)=true:=by simpa [Lf.nr,Lf.fr,oR,jj]using h
    rintro rfl;rw[C]at h;cases h
   simp only[wD];rw[qD,aX D];cases σ.m q with
   |none=>rfl
   |some y=>cases y<;>rfl
  |_::_::_=>rfl
 |v x=>rfl
 |dead=>rfl
def abt(D:p e=true):∀ (C:aa Lf),C.all (Lf.nr p)=true -> sv (cC e x u σ).m C=sv σ.m C
 |[],_=>rfl
 | l :: C,h=>by
  rw[List.all_cons,aM]at h;simp[sv,amy h.1 D,abt D C h.2]
def abu{m:Nat->aj aS}:∀ {cs:aa Lf} {E:aa (V×aj Nat)},sv m cs=some E->cs.all (Lf.nr p)=true->∀ v∈E,∀ q,v.2=some q->p q=false
 |[],E,h,_=>by injection h with h;subst h;simp
 | c :: cs,E,h,I=>by
  rw[List.all_cons,aM]at I;unfold sv at h;split at h
  ·rename_i v Y C T;injection h with h;subst h;intro u hu q D;rcases gU.1 hu with rfl | hu
   ·unfold wD at C;split at C
    ·injection C with C;rw[<-C]at D;cases D
    ·rename_i Z;split at C
     ·rename_i y _;cases O:y.aH with
      |true=>rw[O]at C;injection C with C;rw[<-C]at D;cases D
      | false=>
       rw[O,av]at C;injection C with C;rw[<-C]at D;injection D with D;subst D;have U:=I.1
       simpa [Lf.nr,Lf.fr,oR,jj]using U
     ·cases C
    ·cases C
   ·exact abu T I.2 u hu q D
  ·cases h
def Nj(p:Nat->Bool):Mu->Prop
 |.az r cs C=>p r=false/\cs.all (Lf.nr p)=true/\∀v∈C,∀q,v.2=some q->p q=false
 |.sl q _=>p q=false
def UC(I:p e=true):∀ (ps:aa PK) (xs:aa Operand) (O:aa Mu),(∀ y∈xs,(aL σ y).nr p=true/\y ≠ .tmp e)->(∀ n∈jf σ ps xs,yO σ p n=true)->jI σ ps xs=some O->jI (cC e x u σ) ps xs=some O/\∀ C∈O,Nj p C
 |[],[],O,_,_,h=>⟨h,by injection h with h;subst h;simp⟩
 |[],_::_,O,_,_,h=>by cases h
 |_::_,[],O,_,_,h=>by cases h
 | q :: ps,y :: xs,O,hy,hl,h=>by
  obtain⟨E,h2⟩:=hy y (.head _);have wo:∀ n∈jf σ ps xs,yO σ p n=true:=by
   intro n Z;refine hl n ?_;cases q with
   |v=>exact Z
   |s=>exact Z
   | p t g off=>
    simp only[jf];split
    ·exact .tail _ Z
    ·exact Z
  unfold jI at h;have D:∀ z,wE σ q (aL σ y)=some z->wE (cC e x u σ) q (aL (cC e x u σ) y)=some z/\∀ C,z=some C->Nj p C:=by
   intro z hz;rw[yR E I h2];have T:=wF hz;cases q with
   | v=>
    cases z with
    |some C=>exact T.elim
    |none=>exact⟨hz,by simp⟩
   | p t g off=>
    cases z with
    |none=>exact T.elim
    | some C=>
     cases C with
     |sl=>exact T.elim
     | az Y cs vs=>
      obtain⟨U,hm,hg,hlen⟩:=T;have fQ:p Y=false:=by
       rw[U]at E;have E:(!p Y)=true:=E
       simpa using E
      have cA:Y≠e:=by rintro rfl;rw[I]at fQ;cases fQ
      have gu:cs.all (Lf.nr p)=true:=by
       have:=hl Y (by simp only[jf,U];exact .head _);unfold yO at this;rw[hm]at this;exact this
      have tC:(cC e x u σ).m Y=some (.az cs):=by
       rw[qD,aX cA,hm];simp only[Option.map_some,aS.H9,r5.AA gu I]
      refine⟨?_,λC D=>?_⟩
      ·rw[U];simp only[wE,Nat.beq_refl,aq,tC,abt I cs gu,hg];have:Nat.blt cs.length 999=true:=ja hlen;rw[this];rfl
      ·injection D with D;subst D;exact⟨fQ,gu,abu hg gu⟩
   | s t g=>
    cases z with
    |none=>exact T.elim
    | some C=>
     cases C with
     |az=>exact T.elim
     | sl q y0=>
      obtain⟨U,hm,hf⟩:=T;have hq:p q=false:=by
       rw[U]at E;have E:(!p q)=true:=by simpa [A.nr,A.fr,vj,Lf.nr,Lf.fr,oR,jj]using E
       simpa using E
      have cA:q≠e:=by rintro rfl;rw[I]at hq;cases hq
      refine⟨?_,λC D=>?_⟩
      ·rw[U];simp only[wE];rw[qD,aX cA,hm];simp only[Option.map_some,aS.drop,hf,av,aS.cx]
      ·injection D with D;subst D;exact hq
  split at h
  ·rename_i C MQ k1 k2;injection h with h;subst h;obtain⟨g1,g2⟩:=D _ k1;obtain⟨f1,f2⟩:=UC I ps xs MQ (λy h=>hy y (.tail _ h)) wo k2
   refine⟨by simp only[jI,g1,f1],λm hm=>?_⟩
   rcases gU.1 hm with rfl|hm
   ·exact g2 _ rfl
   ·exact f2 m hm
  next MQ k1 k2=>injection h with h;subst h;obtain⟨g1,g2⟩:=D _ k1;obtain⟨f1,f2⟩:=UC I ps xs MQ (λy h=>hy y (.tail _ h)) wo k2;exact⟨by simp only[jI,g1,f1],f2⟩
  ·cases h
def Nk(D:p e=true)(ns:aa Nat):∀ (ps:aa PK) (xs:aa Operand) (C:aa Mu) (k:lQ ps->aj X),(∀ y∈xs,(aL σ y).nr p=true/\y ≠ .tmp e)->jJ (cC e x u σ) ns ps xs C k=jJ σ ns ps xs C k
 |[],[],[],k,_=>rfl
 | .v b t :: ps,y :: xs,C,k,h=>by
  obtain⟨I,O⟩:=h y (.head _);simp only[jJ];rw[yR I D O,amx I D];congr 1;funext z;congr 1;split
  ·exact Nk D ns ps xs C _ (λy E=>h y (.tail _ E))
  ·rfl
 | .p t g off :: ps,y :: xs,.az T cs U :: C,k,h=>by
  simp only[jJ];split
  ·exact Nk D ns ps xs C _ (λy E=>h y (.tail _ E))
  ·rfl
 | .s t g :: ps,y :: xs,.sl q Y :: C,k,h=>by
  simp only[jJ];split
  ·exact Nk D ns ps xs C _ (λy E=>h y (.tail _ E))
  ·rfl
 |[],[],_::_,k,_=>rfl
 |[],_::_,_,k,_=>rfl
 |.v _ _::_,[],_,k,_=>rfl
 |.p _ _ _::_,[],_,k,_=>rfl
 |.s _ _::_,[],_,k,_=>rfl
 |.p _ _ _::_,_::_,[],k,_=>rfl
 |.s _ _::_,_::_,[],k,_=>rfl
 |.p _ _ _::_,_::_,.sl _ _::_,k,_=>rfl
 |.s _ _::_,_::_,.az _ _ _::_,k,_=>rfl
def UD{i:Nat}:∀ (C:aa (V×aj Nat)) (j:Nat),(∀ v∈C,∀ q,v.2=some q -> p q=false) -> ∀ u∈Ep i j C,p u.1=false
 |[],_,_,u,hu=>by cases hu
 |(y,none)::C,j,h,u,hu=>UD C (j+1) (λv D=>h v (.tail _ D)) u hu
 | (y,some q) :: C,j,h,u,hu=>by
  rcases gU.1 hu with rfl|hu
  ·simp_all
  ·exact UD C (j+1) (λv D=>h v (.tail _ D)) u hu
def UE:∀ (C:aa Mu) (i:Nat),(∀ E∈C,Nj p E) -> ∀ u∈lR i C,p u.1=false
 |[],_,_,u,hu=>by cases hu
 | .az U cs I :: C,i,h,u,hu=>by
  obtain⟨O,Y,T⟩:=h _ (.head _);rcases gU.1 hu with rfl|hu
  ·exact O
  ·rcases List.mem_append.1 hu with hu | hu
   ·exact UD I 0 T u hu
   ·exact UE C _ (λm D=>h m (.tail _ D)) u hu
 | .sl q y :: C,i,h,u,hu=>by
  rcases gU.1 hu with rfl|hu
  ·exact h _ (.head _)
  ·exact UE C (i+1) (λm D=>h m (.tail _ D)) u hu
def UF{c0:Nat}(E:∀ n,c0 <= n -> p n=false):∀ (C:aa (V×aj Nat)) (n:Nat),(∀ v∈C,∀ q,v.2=some q -> p q=false) -> ∀ u∈m8 c0 n C,p u=false
 |[],_,_,u,hu=>by cases hu
 | (y,none) :: C,n,h,u,hu=>by
  rcases gU.1 hu with rfl|hu
  ·simp_all
  ·exact UF E C (n+1) (λv D=>h v (.tail _ D)) u hu
 | (y,some q) :: C,n,h,u,hu=>by
  rcases gU.1 hu with rfl|hu
  ·simp_all
  ·exact UF E C (n+1) (λv D=>h v (.tail _ D)) u hu
def UG:∀ (C:aa Nat) (xs:aa V),∀ u∈wG C xs,u∈C
 |[],[],u,hu=>by cases hu
 | n :: C,y :: xs,u,hu=>by
  simp[wG]at hu;cases D:y.aH with
  |true=>rw[D]at hu;exact .tail _ (UG C xs u hu)
  | false=>
   rw[D]at hu;rcases gU.1 hu with rfl|hu
   ·simp_all
   ·exact .tail _ (UG C xs u hu)
def abv{ns cn:aa Nat}:∀ (C:aa Nat) (D:aa Lf) (xs:aa V),(∀ n∈C,p n=false)->D.all (Lf.nr p)=true->(qy ns cn C D xs).all (Lf.nr p)=true
 |[],_,_,_,_=>by simp[qy]
 |_::_,[],_,_,_=>by simp[qy]
 |_::_,_::_,[],_,_=>by simp[qy]
 | n :: C,l :: D,y :: xs,I,E=>by
  rw[List.all_cons,aM]at E;simp only[qy,List.all_cons,aM]
  refine⟨?_,abv C D xs (λn O=>I n (.tail _ O)) E.2⟩
  cases y.plain with
  |true=>rfl
  | false=>
   simp only[av];cases y.aH with
   | true=>
    simp only[aq];cases l with
    | own k=>
     have T:Lf.dA ns cn (.own k)=(bif gk k cn ||(gk k ns && !(Nat.beq k.length 1))then .dead else .own k):=rfl;rw[T];cases (gk k cn ||(gk k ns && !(Nat.beq k.length 1)))with
     |true=>rfl
     |false=>exact E.1
    |v x=>rfl
    |dead=>rfl
   | false=>
    show (!p n)=true;rw[I n (.head _)];rfl
def UH:∀ (C:aa Nat) (xs:aa V),∀ u∈vh C xs,u.1∈C /\ ∃ y,u.2 = .sl y
 |[],[],u,hu=>by cases hu
 |[],_::_,u,hu=>by cases hu
 | n :: C,y :: xs,u,hu=>by
  simp[vh]at hu;cases I:y.aH with
  |true=>rw[I]at hu;obtain⟨D,E⟩:=UH C xs u hu;exact⟨.tail _ D,E⟩
  | false=>
   rw[I]at hu;rcases gU.1 hu with rfl|hu
   ·simp_all
   ·obtain⟨D,E⟩:=UH C xs u hu;exact⟨.tail _ D,E⟩
def UI{c0:Nat}{ns cn:aa Nat}(E:p e=true)(T:∀ n,c0<=n->p n=false):∀ (D:aa Mu) (outs:aa In) (C:Nat),(∀ mu∈D,Nj p mu)->(∀ u∈n9 c0 C D outs,p u=false)/\∀ u∈lS ns cn c0 C D outs,u.1≠e/\u.2.drop e=u.2
 |[],outs,C,_=>⟨(λu hu=>by simp[n9]at hu),(λu hu=>by simp[lS]at hu)⟩
 |.az _ _ _::_,[],C,_=>⟨(λu hu=>by cases hu),(λu hu=>by cases hu)⟩
 |.sl _ _::_,[],C,_=>⟨(λu hu=>by cases hu),(λu hu=>by cases hu)⟩
 |.az _ _ _::_,.sl _::_,C,_=>⟨(λu hu=>by cases hu),(λu hu=>by cases hu)⟩
 |.sl _ _::_,.az _::_,C,_=>⟨(λu hu=>by cases hu),(λu hu=>by cases hu)⟩
 | .az r' cs vs :: D,.az xs :: outs,C,h=>by
  obtain⟨I,h2,h3⟩:=h _ (.head _);obtain⟨U,O⟩:=UI (ns:=ns) (cn:=cn) E T D outs (C+1+vs.length) (λm Y=>h m (.tail _ Y));have cA:∀n,p n=false->n≠e:=by rintro n hn rfl;rw[E]at hn;cases hn
  have Z:=UF T vs (C+1) h3
  refine⟨λu hu=>?_,λu hu=>?_⟩
  ·simp only[n9]at hu;rcases List.mem_append.1 hu with hu | hu
   ·exact Z u (UG _ _ u hu)
   ·exact U u hu
  ·simp only[lS]at hu;rcases gU.1 hu with rfl | hu
   ·refine⟨cA _ I,?_⟩;rw[aS.H9,r5.AA (abv _ _ _ Z h2) E]
   ·rcases List.mem_append.1 hu with hu | hu
    ·obtain⟨g1,y,g2⟩:=UH _ _ u hu;exact⟨cA _ (Z _ g1),by rw[g2];rfl⟩
    ·exact O u hu
 | .sl q y :: D,.sl y' :: outs,C,h=>by
  have I:p q=false:=h _ (.head _);obtain⟨U,O⟩:=UI (ns:=ns) (cn:=cn) E T D outs (C+1) (λm Y=>h m (.tail _ Y))
  refine⟨λu hu=>U u (by simpa [n9]using hu),λu hu=>?_⟩
  simp only[lS]at hu;cases hy:y'.ku with
  |false=>rw[hy]at hu;exact O u hu
  |true=>
  rw[hy]at hu;rcases gU.1 hu with rfl|hu
  ·exact⟨(by rintro rfl;rw[E]at I;cases I),rfl⟩
  ·exact O u hu
def UJ:∀ (xs:aa V) (c:Nat),e<c->(oN c xs).map (Lf.drop e)=oN c xs
 |[],_,_=>rfl
 | y :: xs,c,h=>by
  simp only[oN,List.map_cons];rw[UJ xs (c+1) (by omega)];cases y.aH with
  |true=>rfl
  | false=>
   have:cT e [c]=false:=by simp[cT];omega
   simp only[av,Lf.drop,this,Lf.cx]
def amz{b:Bool}{xs:aa Lf}{y:A}(h:zZ (b,xs)=some y)(C:xs.map (Lf.drop e)=xs):y.drop e=y:=by
 unfold zZ at h;split at h
 next D=>injection h with h;subst h;obtain⟨_,rfl⟩:=D;exact bB A.agg C
 next z D=>injection h with h;subst h;obtain⟨_,rfl⟩:=D;simp at C;exact bB A.lf C
 ·cases h
def abw:∀ (ps:aa Pt) (c:Nat),e<c->(tJ c ps).map (λq=>(q.1,q.2.map (Lf.drop e)))=tJ c ps
 |[],_,_=>rfl
 | q :: ps,c,h=>by
  simp only[tJ,List.map_cons];rw[UJ _ _ h,abw ps _ (by omega)]
def amA(ps:aa Pt)(c:Nat)(h:e<c):A.drop e (.fz (tJ c ps)) = .fz (tJ c ps):=bB A.fz (abw ps c h)
def abx(C:kH x)(D:nq e u)(U:e<20000)(E:d≠e){I:gv}{O:S}(h:n6 σ d I some=some O):n6 (cC e x u σ) d I some=some (cC e x u O):=by
 unfold n6 at h ⊢;split at h
 ·split at h
  next y T=>injection h with h;subst h;rw[Nh C D _ _ _ (by omega),Ni E (amz T (UJ _ _ (by omega)))]
  ·cases h
 ·injection h with h;subst h;rw[abn C D _ _ _ (by omega),Ni E (amA _ _ (by omega))]
def amB(O:kH x)(T:nq e u)(U:e<20000){C:aj Tmp}(Y:C≠some e){E:gv}{D:S}(h:q6 N σ C E some=some D):q6 N (cC e x u σ) C E some=some (cC e x u D):=by
 cases C with
 | none=>
  have h:some σ=some D:=h;injection h with h;rw[<-h];rfl
 | some d=>
  unfold q6 at h ⊢;cases I:Nat.blt d N with
  |false=>simp only[I,av]at h;cases h
  | true=>
   simp only[I,aq]at h ⊢;exact abx O T U (by rintro rfl;exact Y rfl) h
def amC(eC:fZ P Φ)(hx:kH x)(Y:nq e u)(he:e<20000)(T:p e=true)(yS:∀ n,20000<=n->p n=false)(C:oc Φ o=true)(hd:o.dst≠some e)(tW:∀ y∈o.op.operands,(aL σ y).nr p=true/\y ≠ .tmp e)(hl:∀ n∈qA Φ σ o,yO σ p n=true){τ:S}
  (h:dS P N Φ σ o some=some τ):dS P N Φ (cC e x u σ) o some=some (cC e x u τ):=by
 have tX:∃ f args jS,o.op = .call { callee:=.value (.func f),args:=args,argTypes:=jS }:=by
  unfold oc at C;split at C
  ·exact⟨_,_,_,by assumption⟩
  ·cases C
 obtain⟨f,args,jS,D⟩:=tX;have mw:∀ y∈args.toList,(aL σ y).nr p=true/\y ≠ .tmp e:=by
  intro y hy;refine tW y ?_;rw[D];simp only[Op.operands,Call.operands];simp only[Array.mem_append]
  first
   |exact .inr (by simpa using hy)
   |exact .inl (by simpa using hy)
 have eR:∀ σ2,dS P N Φ σ2 o some=iU P N Φ σ2 o some:=by
  intro σ2;unfold dS;rw[show ga o.op=false by rw[D];rfl,av]
 rw[eR]at h ⊢;cases I:Φ f with
 |none=>simp only[iU,D,I]at h;cases h
 | some c=>
  cases c with
  |n F=>rw[oc,D]at C;simp[I]at C
  |v c=>rw[oc,D]at C;simp[I]at C
  |i c=>rw[oc,D]at C;simp[I]at C
  |d c=>rw[oc,D]at C;simp[I]at C
  |q c=>rw[oc,D]at C;simp[I]at C
  |c c=>rw[oc,D]at C;simp[I]at C
  | p c=>
   simp only[iU,D,I]at h ⊢;obtain⟨d,Z,h⟩:=jU h;have hde:d≠e:=by rintro rfl;exact hd Z
   obtain⟨res,tD,h1,E,h3⟩:=MH (Ib eC I) EA h;injection E with E;subst E;simp only[gS,Z];exact(h3 (cC e x u σ) (cC e x u tD) (λX k=>tH (cC e x u σ) args.toList k) (λX k=>abq T _ k mw) (abx hx Y he hde h1)).at_ _
  | m c=>
   simp only[iU,D,I]at h ⊢;have Az:∀ n∈jf σ c.ps args.toList,yO σ p n=true:=by
    intro n U;refine hl n ?_;simp only[qA,D,I];exact U
   unfold oQ at h;split at h
   ·rename_i O vi;obtain⟨g1,g2⟩:=UC (x:=x) (u:=u) T c.ps args.toList O mw Az vi;cases kF:(once (lR 0 O)&&Nat.ble O.length 40)with
    |false=>rw[kF]at h;cases h
    | true=>
     rw[kF,aq]at h;obtain⟨z,E,aby⟩:=(MN _ _ _).mm h;simp only[oQ,g1,kF,aq];rw[Nk T _ _ _ _ _ mw];refine(aby S _).trans ?_;split at E
     ·rename_i y hy;unfold Et at E ⊢;generalize qt:n9 (iR o.dst) (fm c.ro y.1).len O (jm (eU c.ps) y.2)=cn at E;generalize jK:Es N O (jm (eU c.ps) y.2) cn=ok at E;cases ok with
      |false=>cases E
      | true=>
       rw[aq]at E;have su:∀ n,iR o.dst<=n->p n=false:=by
        intro n U;refine yS n ?_;cases Z:o.dst with
        |none=>rw[Z]at U;simp only[iR]at U;omega
        |some d=>rw[Z]at U;simp only[iR]at U;omega
       obtain⟨k1,k2⟩:=UI (ns:=(lR 0 O).map (·.1)) (cn:=cn) T su O (jm (eU c.ps) y.2) (fm c.ro y.1).len g2;rw[qt]at k1;rw[aq,amu hx Y ?_ ?_ k2]
       ·exact amB hx Y he hd E
       ·cases hm:dm e ((lR 0 O).map (·.1))with
        |false=>rfl
        | true=>
         obtain⟨u,Y,e1⟩:=List.mem_map.1 (vc.1 hm);have:=UE O 0 g2 u Y;rw[e1,T]at this;cases this
       ·cases hm:dm e cn with
        |false=>rfl
        |true=>have:=k1 e (vc.1 hm);rw[T]at this;cases this
     ·cases E
   ·cases h
def A.abz{y:A}(h:y.ga=true)(K:nW):y.cx K=y:=by
 refine A.qa ?_;cases y with
 |lf l=>cases l<;>first|rfl|cases h
 | agg cs=>
  refine bT.2 λl hl=>?_
  have:=bT.1 h l hl;cases l<;>first|rfl|cases this
 |_=>cases h
def A.Nl{y:A}(h:y.ga=true)(n:Nat):y.drop n=y:=A.abz h _
def A.amD{y:A}(h:y.ga=true)(ns cn:aa Nat):y.dA ns cn=y:=A.abz h _
def UK:∀ (xs:aa V) (c:Nat) (σ:S) {t:Nat},(σ.t t).ga=true -> (m7 c σ xs).t t=σ.t t
 |[],c,σ,t,h=>rfl
 | y :: xs,c,σ,t,h=>by
  simp[m7];cases y.aH with
  |true=>exact UK xs _ σ h
  | false=>
   simp;have C:(((σ.drop c).root c (.sl y)).t t)=σ.t t:=by rw[Uy];exact A.Nl h c
   rw[UK xs _ _ (by rw[C];exact h),C]
def abA:∀ (ps:aa Pt) (c:Nat) (σ:S) {t:Nat},(σ.t t).ga=true -> (oO c σ ps).t t=σ.t t
 |[],c,σ,t,h=>rfl
 | q :: ps,c,σ,t,h=>by
  simp[oO];have C:=UK q.2 c σ h;rw[abA ps _ _ (by rw[C];exact h),C]
def abC{D:gv}{C:S}(h:n6 σ d D some=some C){t:Nat}(E:(σ.t t).ga=true)(I:t≠d):C.t t=σ.t t:=by
 obtain⟨ps,u,O⟩:=Uk h;rw[O]at h;injection h with h;rw[<-h];exact(cy _ _ _ I).trans (abA _ _ _ E)
def amE{C:aj Tmp}{I:gv}{D:S}(h:q6 N σ C I some=some D){t:Nat}(O:(σ.t t).ga=true)(T:C≠some t):D.t t=σ.t t:=by
 cases C with
 | none=>
  have h:some σ=some D:=h;injection h with h;rw[<-h]
 | some d=>
  unfold q6 at h;cases E:Nat.blt d N with
  |false=>simp only[E,av]at h;cases h
  | true=>
   simp only[E,aq]at h;exact abC h O (by rintro rfl;exact T rfl)
def amF(eC:fZ P Φ)(C:oc Φ o=true){U:S}(h:dS P N Φ σ o some=some U){t:Nat}(T:(σ.t t).ga=true)(Y:o.dst≠some t):U.t t=σ.t t:=by
 have tX:∃ f args Z,o.op = .call { callee:=.value (.func f),args:=args,argTypes:=Z }:=by
  unfold oc at C;split at C
  ·exact⟨_,_,_,by assumption⟩
  ·cases C
 obtain⟨f,args,Z,E⟩:=tX;have eR:dS P N Φ σ o some=iU P N Φ σ o some:=by
  unfold dS;rw[show ga o.op=false by rw[E];rfl,av]
 rw[eR]at h;cases I:Φ f with
 |none=>simp only[iU,E,I]at h;cases h
 | some c=>
  cases c with
  |n F=>rw[oc,E]at C;simp[I]at C
  |v c=>rw[oc,E]at C;simp[I]at C
  |i c=>rw[oc,E]at C;simp[I]at C
  |d c=>rw[oc,E]at C;simp[I]at C
  |q c=>rw[oc,E]at C;simp[I]at C
  |c c=>rw[oc,E]at C;simp[I]at C
  | p c=>
   simp only[iU,E,I]at h;obtain⟨d,vn,h⟩:=jU h;obtain⟨res,tD,h1,D,h3⟩:=MH (Ib eC I) EA h;injection D with D;subst D;exact abC h1 T (by rintro rfl;exact Y vn)
  | m c=>
   simp only[iU,E,I]at h;unfold oQ at h;split at h
   ·rename_i O vi;cases kF:(once (lR 0 O)&&Nat.ble O.length 40)with
    |false=>rw[kF]at h;cases h
    | true=>
     rw[kF,aq]at h;obtain⟨z,D,aby⟩:=(MN _ _ _).mm h;split at D
     ·rename_i y hy;unfold Et at D;generalize Es N O (jm (eU c.ps) y.2) (n9 (iR o.dst) (fm c.ro y.1).len O (jm (eU c.ps) y.2))=ok at D;cases ok with
      |false=>cases D
      | true=>
       rw[aq]at D;have e1:∀ns cn nr,(σ.dA ns cn nr).t t=σ.t t:=λns cn nr=>A.amD T ns cn
       have:=amE (t:=t) D (by rw[e1];exact T) Y;rw[this,e1]
     ·cases D
   ·cases h
def amG{E:Nat}{I:aS}{O:A}(T:kH x)(U:nq e u)(Y:kH I)(Z:nq E O)(h:e≠E):cC E I O (cC e x u σ)=cC e x u (cC E I O σ):=by
 refine S.ext' (λk=>?_) λn=>?_
 ·simp only[sG];by_cases C:k=E
  ·subst C;rw[aW rfl,aX (Ne.symm h),aW rfl,Z.drop (Ne.symm h)]
  ·rw[aX C];by_cases D:k=e
   ·subst D;rw[aW rfl,aW rfl,U.drop h]
   ·rw[aX D,aX D,aX C,A.Ux]
 ·simp only[qD];by_cases C:n=E
  ·subst C;rw[aW rfl,aX (Ne.symm h),aW rfl,Option.map_some,Y.drop]
  ·rw[aX C];by_cases D:n=e
   ·subst D;rw[aW rfl,aW rfl,Option.map_some,T.drop]
   ·rw[aX D,aX D,aX C];cases σ.m n with
    |none=>rfl
    |some y=>simp only[Option.map_some,aS.Ux]
def amH(O:kH x)(T:nq e u)(U:p e=true)(Y:oS o=true)(Z:o.dst≠some e)(C:∀ y∈o.op.operands,(aL σ y).nr p=true/\y ≠ .tmp e){D:S}
  (h:dS P N Φ σ o some=some D):dS P N Φ (cC e x u σ) o some=some (cC e x u D):=by
 obtain⟨e',x',u',hd',Hy,mq,wh,iS,qC⟩:=M9 (o:={ o with guard:=none }) (ops:=#[]) Y rfl h;have cA:e≠e':=by rintro rfl;exact Z hd'
 have E:=qC (cC e x u σ) rfl λy I=>yR (C y I).1 U (C y I).2
 rw[amG O T mq wh cA,<- iS]at E;exact E
def amI(D:oS o=true){C:S}(h:dS P N Φ σ o some=some C){t:Nat}(E:(σ.t t).ga=true)(I:o.dst≠some t):C.t t=σ.t t:=by
 obtain⟨O,Z,u',T,Hy,mq,wh,U,qC⟩:=M9 (o:={ o with guard:=none }) (ops:=#[]) D rfl h;have Y:t≠O:=by rintro rfl;exact I T
 rw[U,sG,aX Y,A.Nl E]
def amJ(hx:kH x)(hu:nq e u)(C:p e=true)(hm:isApp o=true)(hd:o.dst≠some e)(O:∀ y∈o.op.operands,(aL σ y).nr p=true/\y ≠ .tmp e){T:S}
  (h:dS P N Φ σ o some=some T):dS P N Φ (cC e x u σ) o some=some (cC e x u T):=by
 obtain⟨a,b,t,t',I,hn,nZ,hk⟩:=Ut hm;have E:=O a (by rw[I];simp[Op.operands,Call.operands]);have hb:=O b (by rw[I];simp[Op.operands,Call.operands]);rw[Ih I hn nZ hk]at h ⊢;obtain⟨d,U,h⟩:=jU h;obtain⟨r,v,iS,hr,qC⟩:=Na h;have Y:d≠e:=by rintro rfl;exact hd U
 have Z:r≠e:=by
  rcases hr with h1|h1
  ·rw[h1];exact Y
  ·rintro rfl;have D:=E.1;rw[h1]at D;simp[A.nr,A.fr,vj,Lf.nr,Lf.fr,oR,jj,C]at D
 unfold gS;rw[U];simp only;rw[yR E.1 C E.2,yR hb.1 C hb.2,qC (cC e x u σ) (λk=>amv hb.1 C) (λr' v' fQ tC=>?_)]
 ·rw[abm v hx hu (Ne.symm Z),Ni Y ?_,iS];have:cT e [r]=false:=by simp[cT,Z]
  simp only[A.drop,Lf.drop,this,av,A.cx,ya,Lf.cx]
 ·have cA:r'≠e:=by
   rintro rfl;have D:=E.1;rw[fQ]at D;simp[A.nr,A.fr,vj,Lf.nr,Lf.fr,oR,jj,C]at D
  rw[qD,aX cA,tC];rfl
def amK(D:isApp o=true){C:S}(h:dS P N Φ σ o some=some C){t:Nat}(E:(σ.t t).ga=true)(I:o.dst≠some t):C.t t=σ.t t:=by
 obtain⟨a,b,t1,t2,O,T,U,Y⟩:=Ut D;rw[Ih O T U Y]at h;obtain⟨d,Z,h⟩:=jU h;obtain⟨r,v,iS,hr,qC⟩:=Na h;have cA:t≠d:=by rintro rfl;exact I Z
 rw[iS];show bJ ((σ.drop r).root r _).t d _ t=_;rw[cy _ _ _ cA];exact A.Nl E r
def abD(C:∃ ty t y,o.op = .store ty (.tmp t) y/\o.dst=none /\ ∃ r j,σ.t t = .aG r j){I:S}(h:dS P N Φ σ o some=some I):∃ t y r j cs xs,o.op.operands = #[.tmp t,y]/\σ.t t = .aG r j/\(aL σ y).zX=some xs/\σ.m r=some (.az cs)/\I=σ.root r (.az (splice cs j xs)) /\
  ∀(σ2:S) (D:aa Lf),σ2.t t = .aG r j -> aL σ2 y=aL σ y -> σ2.m r=some (.az D) -> D.length=cs.length -> dS P N Φ σ2 o some=some (σ2.root r (.az (splice D j xs))):=by
 obtain⟨ty,t,y,C,Y,r,j,O⟩:=C;have T:∀ σ2:S,σ2.t t = .aG r j -> dS P N Φ σ2 o some=qW P σ2 ty (.aG r j) (aL σ2 y) some:=by
  intro σ2 E;unfold dS;rw[show ga o.op=false by rw[C];rfl,av];simp[iU,C,Y];have Z:aL σ2 (.tmp t) = .aG r j:=E;rw[Z,show yL _ _=false from rfl,av]
 rw[T σ O]at h;unfold qW at h;split at h
 ·rename_i n xs hn U;split at h
  ·rename_i hlen;simp only at h;split at h
   ·rename_i cs gu;split at h
    ·rename_i hj;cases hl:xs.all Lf.live with
     |false=>simp_all
     | true=>
      rw[hl,aq]at h;injection h with h
      refine⟨t,y,r,j,cs,xs,by rw[C];rfl,O,U,gu,h.symm,λσ2 D h1 E h3 h4=>?_⟩
      rw[T σ2 h1,E];simp only[qW,hn,U,aW hlen,h3];rw[aW (by rw[h4];exact hj),hl];rfl
    ·cases h
   ·cases h
  ·cases h
 ·cases h
def abE(C:H6 o=true)(E:yN σ o=true):∃ ty t y,o.op = .store ty (.tmp t) y/\o.dst=none /\ ∃ r j,σ.t t = .aG r j:=by
 unfold H6 at C;rw[aM]at C;obtain⟨D,I⟩:=C;split at D
 ·rename_i ty t y O;refine⟨ty,t,y,O,Option.isNone_iff_eq_none.1 I,?_⟩;unfold yN at E
  grind
 ·cases D
def amL{y:A}{xs:aa Lf}(h:y.zX=some xs)(C:y.nr p=true):xs.all (Lf.nr p)=true:=by
 cases y with
 |lf l=>injection h with h;subst h;rw[List.all_cons,show l.nr p=true from C];rfl
 |agg cs=>injection h with h;subst h;exact C
 |_=>cases h
def amM(hx:kH x)(hu:nq e u)(C:p e=true)(hm:H6 o=true)(hs:yN σ o=true)(O:∀ y∈o.op.operands,(aL σ y).nr p=true/\y ≠ .tmp e){T:S}
  (h:dS P N Φ σ o some=some T):dS P N Φ (cC e x u σ) o some=some (cC e x u T):=by
 obtain⟨t,y,r,j,cs,xs,U,Y,g3,g4,g5,g6⟩:=abD (abE hm hs) h;have D:=O (.tmp t) (by rw[U];simp);have E:=O y (by rw[U];simp);have e1:(cC e x u σ).t t = .aG r j:=(yR D.1 C D.2).trans Y;have Z:r≠e:=by
  have h2:(aL σ (.tmp t)).nr p=true:=D.1;have h3:aL σ (.tmp t) = .aG r j:=Y;rw[h3]at h2;exact al8 h2 C
 have e3:(cC e x u σ).m r=some (.az (cs.map (Lf.drop e))):=by
  rw[qD,aX Z,g4];rfl
 have qi:=r5.AA (amL g3 E.1) C;rw[g6 (cC e x u σ) _ e1 (yR E.1 C E.2) e3 (by rw[fy]),g5];congr 1
 refine S.ext' (λk=>?_) λn=>?_
 ·show (cC e x u σ).t k=(cC e x u (σ.root r (.az (splice cs j xs)))).t k;rw[sG,sG];rfl
 ·show bJ (cC e x u σ).m r (some (.az (splice (cs.map (Lf.drop e)) j xs))) n=(cC e x u (σ.root r (.az (splice cs j xs)))).m n;rw[qD];by_cases I:n=r
  ·subst I;rw[bM,aX Z];show _=(bJ σ.m n (some (aS.az (splice cs j xs))) n).map (aS.drop e);rw[bM];simp only[Option.map_some,aS.H9,splice,List.map_append,List.map_take,List.map_drop,qi]
  ·rw[cy _ _ _ I,qD];have:(σ.root r (.az (splice cs j xs))).m n=σ.m n:=cy _ _ _ I;rw[this]
def amN(D:H6 o=true)(E:yN σ o=true){C:S}(h:dS P N Φ σ o some=some C)(t:Nat):C.t t=σ.t t:=by
 obtain⟨_,_,r,j,cs,xs,_,_,_,_,I,_⟩:=abD (abE D E) h;rw[I];rfl
def amO(Y:fZ P Φ)(C:kH x)(D:nq e u)(Z:e<20000)(E:p e=true)(yS:∀ n,20000<=n->p n=false)(O:H7 Φ o=true)(kC:yN σ o=true)(T:o.dst≠some e)(I:∀ y∈o.op.operands,(aL σ y).nr p=true/\y ≠ .tmp e)(hl:∀ n∈qA Φ σ o,yO σ p n=true){U:S}
  (h:dS P N Φ σ o some=some U):dS P N Φ (cC e x u σ) o some=some (cC e x u U):=by
 unfold H7 at O;rw[dY,dY,dY]at O;rcases O with ((hc|hc)|hc)|hc
 ·exact amC Y C D Z E yS hc T I hl h
 ·exact amH C D E hc T I h
 ·exact amJ C D E hc T I h
 ·exact amM C D E hc kC I h
def amP(O:fZ P Φ)(C:H7 Φ o=true)(T:yN σ o=true){I:S}(h:dS P N Φ σ o some=some I){t:Nat}(D:(σ.t t).ga=true)(E:o.dst≠some t):I.t t=σ.t t:=by
 unfold H7 at C;rw[dY,dY,dY]at C;rcases C with ((hc|hc)|hc)|hc
 ·exact amF O hc h D E
 ·exact amI hc h D E
 ·exact amK hc h D E
 ·exact amN hc T h t
def abF{i W j:Nat}{C:Oper}(D:ops[j]?=some C)(h:HX ops i W j=true):∃ e∈C.after,Region.binds .any e=true/\(e.on=i\/W.testBit e.on=true):=by
 unfold HX at h;rw[D]at h;obtain⟨e,E,hb⟩:=List.any_eq_true.1 h;rw[aM,dY]at hb
 refine⟨e,by simpa using E,hb.1,hb.2.imp (λh=>cJ h) id⟩
def UL{g:Oper -> Bool}{C:Oper}{i L W:Nat}:∀ (n j:Nat),HY g ops C i L W n j=true -> ∀ k,j <= k -> k<j+n -> k=i \/ L.testBit k=true \/ (W.testBit k=true/\HX ops i W k=true) \/ (W.testBit k=false /\ ∀ ok,ops[k]?=some ok -> g ok=true/\C.apart ops ok=true)
 |0,j,_,k,D,E=>by omega
 | n+1,j,h,k,D,E=>by
  unfold HY at h;rw[aM,dY,dY]at h;by_cases I:k=j
  ·subst I;rcases h.1 with (h | h) | h
   ·exact .inl (cJ h)
   ·exact .inr (.inl h)
   ·grind
  ·exact UL n (j+1) h.2 k (by omega) (by omega)
def qE{g:Oper -> Bool}{i L W:Nat}:∀ (n j:Nat) (k:Nat),j <= k -> k<j+n -> k≠i -> L.testBit k=false -> W.testBit k=false -> ∀ ok,ops[k]?=some ok -> g ok=true -> iK g ops i L W n j=true
 |0,j,k,C,D,_,_,_,_,_,_=>by omega
 | n+1,j,k,C,D,hi,E,I,ok,O,T=>by
  unfold iK;rw[dY];by_cases U:k=j
  ·subst U;refine .inl ?_;have hb:Nat.beq k i=false:=by
    cases hb:Nat.beq k i with
    |false=>rfl
    |true=>simp_all
   simp_all
  ·exact .inr (qE n _ k (by omega) (by omega) hi E I ok O T)
def abG{g:Oper -> Bool}{i L W:Nat}:∀ (n j:Nat),iK g ops i L W n j=true -> ∃ k ok,ops[k]?=some ok/\k≠i/\L.testBit k=false/\W.testBit k=false/\g ok=true
 |0,j,h=>by cases h
 | n+1,j,h=>by
  unfold iK at h;rw[dY]at h;rcases h with h|h
  ·rw[aM,gd,nQ,nQ]at h;obtain⟨⟨⟨D,E⟩,I⟩,C⟩:=h;split at C
   next ok O=>exact⟨j,ok,O,(by rintro rfl;rw[Nat.beq_refl]at D;cases D),E,I,C⟩
   ·cases C
  ·exact abG n _ h
theorem amQ[Inhabited Wd]{L i:Nat}{k:S -> aj X}(E:ga o.op=true \/ gn σ ops o=some false)(I:T4 σ (AG Φ ops i L (waits ops i ops.size 0 0) σ) (CH σ ops i L (waits ops i ops.size 0 0)) o=true)(h:HZ P N Φ ops L i σ o k=some r):
  ∃v,k (gE σ o.dst v)=some r/\nj P ops o (AG Φ ops i L (waits ops i ops.size 0 0) σ) (CH σ ops i L (waits ops i ops.size 0 0)) v σ /\ ∀σ:S,iI N σ o.dst v some=some (gE σ o.dst v):=by
 unfold HZ at h;unfold T4 at I;rw[aM]at I;split at h
 ·rename_i C;obtain⟨v,D,Z,_⟩:=T9 (w0:=default) (N:=N) h;cases O:v.oT _ _ with
  |false=>rw[O]at D;cases D
  | true=>
   rw[O,aq]at D;obtain⟨T,U⟩:=tV D;have E:=E.resolve_right (by rw[C];simp)
   refine⟨v,T,.inl ⟨C,E,Z,λy Y=>bT.1 I.1 y (by simpa using Y),O,λt y r j e Y=>?_⟩,λσ=>(U σ).at_ _⟩
   simp_all
 next C=>obtain⟨T,U⟩:=tV h;exact⟨.skip,T,.inr ⟨C,rfl⟩,λσ=>(U σ).at_ _⟩
 ·cases h
def EK{i L W n:Nat}(h:AF Φ ops i L W σ n=true):AG Φ ops i L W σ n=true:=by unfold AG;rw[h];rfl
def amR{i L W:Nat}(h:GM Φ ops i L W σ o=true):∃ ty t y,o.op = .store ty (.tmp t) y/\o.dst=none/\MZ Φ ops i L W σ t=true/\(∀ k,σ.t t ≠ .ptr k) /\ ∀ r j,σ.t t = .aG r j -> AE σ o=[r]:=by
 unfold GM at h;split at h
 ·rename_i ty t y C;rw[aM,aM]at h
  refine⟨ty,t,y,C,by simpa using h.1.1,h.1.2,λk E=>?_,λr j D=>by simp[AE,C,D]⟩
  simp_all
 ·cases h
def amS{i L W:Nat}(h:T2 Φ ops i L W o=true):∃ x y t C,o.op = .call ⟨.builtin .append,⟨[.tmp x,y]⟩,⟨[t,C]⟩⟩/\ng Φ ops i L W x=true/\(q9 t=false/\Nat.beq t C=true/\CF o.dst t (.tmp x)=false):=by
 unfold T2 at h
 grind
def amT{i L W:Nat}(h:T1 Φ ops i L W σ o=true):∃ f args C c,o.op = .call { callee:=.value (.func f),args:=args,argTypes:=C } /\ Φ f=some (.m c)/\MW c=true/\tT (λt r=>!iK (kG t) ops i L W ops.size 0 && !iK (λok=>fe ok r) ops i L W ops.size 0 && !iK isApp ops i L W ops.size 0) σ c.ps args.toList=true/\qA Φ σ o=jf σ c.ps args.toList:=by
 unfold T1 at h;split at h
 ·rename_i f args C D;split at h
  next c E=>rw[aM]at h;exact⟨f,args,C,c,D,E,h.1,h.2,by simp[qA,D,E]⟩
  ·cases h
 ·cases h
def Ik{p:Nat -> Bool}:∀ (ps:aa PK) (xs:aa Operand),(∀ x∈xs,(aL σ x).nr p=true) -> ∀ n∈jf σ ps xs,p n=false
 |[],[],_,n,hn=>by cases hn
 |.v _ _::ps,x::xs,h,n,hn=>Ik ps xs (λy C=>h y (.tail _ C)) n hn
 |.s _ _::ps,x::xs,h,n,hn=>Ik ps xs (λy C=>h y (.tail _ C)) n hn
 | .p _ _ _ :: ps,x :: xs,h,n,hn=>by
  simp[jf]at hn;split at hn
  ·rename_i I j E;rcases gU.1 hn with rfl | hn
   ·have D:=h x (.head _);rw[E]at D;have D:(!p n)=true:=D
    simpa using D
   ·exact Ik ps xs (λy C=>h y (.tail _ C)) n hn
  ·exact Ik ps xs (λy C=>h y (.tail _ C)) n hn
def Nm{D:aj Tmp}{g:Bool}{k:S -> aj X}(h:tS σ D g k=some r):k σ=some r:=by
 unfold tS at h;cases g with
 |false=>exact h
 | true=>
  rw[aq]at h;split at h
  ·rename_i d;split at h
   ·rename_i b hb;have:∀ c,b=c -> σ.set d (.lf (.v (.bool c)))=σ:=by
     rintro c rfl
     refine S.ext' (λk=>?_) λ_=>rfl
     show bJ _ _ _ _=_;by_cases C:k=d
     ·subst C;rw[bM,hb]
     ·rw[cy _ _ _ C]
    grind
   ·exact h
  ·exact h
def abH{L j:Nat}(h:mB ops L j=true):j<ops.size:=by
 obtain⟨_,o,C,_⟩:=Ii.1 h
 grind
def CL{L j:Nat}:j∈(List.range ops.size).filter (mB ops L) ↔ mB ops L j=true:=by
 rw[List.mem_filter,fS];exact⟨λh=>h.2,λh=>⟨abH h,h⟩⟩
structure abI (ops:Array Oper) (p:Nat->Bool) (σ:S) (o:Oper):Prop where
 is:oS o=true
 want:gn σ ops o=some true
 ayL:∀y∈o.op.operands,(aL σ y).ga=true/\∀t,y = .tmp t->p t=false
 guard:∀g c t,o.guard=some (g,c)->(ops[g]?).bind (·.dst)=some t->p t=false
def amU{x:A}{n:Nat}{z:V}(h:sy x n=some z)(X:Type)(k:A -> aj X):Cd x n k=k (.lf (.v z)):=by
 unfold sy at h;split at h
 ·split at h
  next xs _ _ C=>injection h with h;subst h;simp[Cd,C,Option.bind_some,zZ]
  ·cases h
 ·cases h
def abJ{x:A}{n:Nat}{z:V}{g:Lf -> Lf}{G:A -> A}(C:∀ xs,G (.fz xs) = .fz (xs.map λp=>(p.1,p.2.map g)))(D:∀ z,g (.v z) = .v z)(h:sy x n=some z):sy (G x) n=some z:=by
 unfold sy at h;split at h
 ·split at h
  next xs _ _ E=>injection h with h;subst h;rw[C];simp[sy,eO,E,Option.map_some,List.map_cons,List.map_nil,D]
  ·cases h
 ·cases h
def UM{v:A}(C:∀ q,v.drop q=v){rr d:Nat}{key:Nat -> aa Nat}:∀ (f j:Nat) (xs:aa Lf) (σ:S),iJ rr key f j xs (σ.set d v)=(iJ rr key f j xs σ).map λp=>(p.1,p.2.set d v)
 |_,_,[],σ=>by simp[iJ]
 |0,j,x::xs,σ=>by cases x<;>simp[iJ]
 | f+1,j,.v x :: xs,σ=>by
  simp only[iJ,UM C f];cases iJ rr key f (j+1) xs σ<;>rfl
 | f+1,j,.own [q] :: xs,σ=>by
  simp only[iJ];show (match σ.m q with
   |some (.sl z)=>_
   |_=>none)=_
  cases D:σ.m q with
  |none=>rfl
  | some y=>
   cases y with
   | sl z=>
    cases Nat.beq q rr with
    |true=>rfl
    | false=>
     simp only[av];rw[S.drop_set q (C q),UM C f];cases iJ rr key f (j+1) (xs.map (Lf.drop q)) (σ.drop q)<;>rfl
   |_=>rfl
 |f+1,j,.own []::xs,σ=>rfl
 |f+1,j,.own (_::_::_)::xs,σ=>rfl
 |f+1,j,.dead::xs,σ=>rfl
def UN{rr:Nat}{key:Nat -> aa Nat}{x n:Nat}{z:V}:∀ (f j:Nat) (xs:aa Lf) (σ C:S) (D:aa V),iJ rr key f j xs σ=some (D,C) -> sy (σ.t x) n=some z -> sy (C.t x) n=some z
 | _,_,[],σ,C,D,h,E=>by
  simp only[iJ]at h;simp_all
 |0,j,y::xs,σ,C,D,h,E=>by cases y<;>simp[iJ]at h
 | f+1,j,.v y :: xs,σ,C,D,h,E=>by
  simp only[iJ]at h;cases I:iJ rr key f (j+1) xs σ with
  |none=>simp_all
  | some p=>
   rw[I]at h;injection h with h;injection h with _ h;subst h;exact UN f (j+1) xs σ p.2 p.1 I E
 | f+1,j,.own [q] :: xs,σ,C,D,h,E=>by
  simp only[iJ]at h;split at h
  ·cases hb:Nat.beq q rr with
   |true=>simp_all
   | false=>
    rw[hb,av]at h;cases I:iJ rr key f (j+1) (xs.map (Lf.drop q)) (σ.drop q)with
    |none=>simp_all
    | some p=>
     rw[I]at h;injection h with h;injection h with _ h;subst h;refine UN f (j+1) _ (σ.drop q) p.2 p.1 I ?_;exact abJ (G:=A.drop q) (g:=Lf.drop q) (λ_=>rfl) (λ_=>rfl) E
  ·cases h
def amV{d:Nat}{v:V}{t:TypeId}{x y:A}{I:S}(h:vk P (σ.set d (.lf (.v v))) t x y some=some I):∃ D,vk P σ t x y some=some D/\I=D.set d (.lf (.v v)) /\ ∀ (e n:Nat) (z:V),sy (σ.t e) n=some z -> sy (D.t e) n=some z:=by
 unfold vk at h;split at h
 ·rename_i n xs j i s rr hn qi;split at h
  ·rename_i hlen;cases O:xs.all Lf.live with
   |false=>simp_all
   | true=>
    rw[O,aq]at h;split at h
    ·rename_i vs τ1 C;rw[UM (v:=.lf (.v v)) (λ_=>rfl)]at C;cases E:iJ rr (λm=>(j+m) :: i :: s :: [rr]) xs.length 0 xs σ with
     |none=>simp_all
     | some p=>
      rw[E]at C;obtain⟨vs0,T⟩:=p;injection C with C;injection C with e1 e2;subst e1 e2;split at h
      ·rename_i U Y Z l iS;have amW:T.m rr=some (.sl (.sl U (Y+2) Z l)):=iS;split at h
       ·rename_i qe;split at h
        ·rename_i hi;split at h
         ·rename_i hj;split at h
          ·rename_i e he;injection h with h
           refine⟨T.dA [rr] [] [(rr,.sl (.sl U (Y+2) Z (l.set i e)))],?_,?_,λex nx z hz=>?_⟩
           ·simp[vk,hn,qi,aW hlen,O,aq,E,amW,aW qe,aK hi,aW hj,he]
           ·rw[<- h];exact S.Ur _ rfl
           ·exact abJ (G:=A.dA [rr] []) (λ_=>rfl) (λ_=>rfl) (UN _ _ _ _ _ _ E hz)
          ·cases h
         ·cases h
        ·cases h
       ·cases h
      ·cases h
    ·cases h
  ·cases h
 ·cases h
def abK{t:TypeId}{a b:Operand}(C:o.op = .store t a b)(D:o.dst=none)(E:yL (aL σ a) (aL σ b)=true):dS P N Φ σ o some=vk P σ t (aL σ a) (aL σ b) some:=by
 unfold dS;rw[show ga o.op=false by rw[C];rfl,av];simp[iU,C,D,E,aq]
theorem amX[Inhabited Wd](eC:fZ P Φ){K:S -> Prop}{f L i:Nat}{U:Oper}{τ:S}(hi:ops[i]?=some U)(hr:mB ops L i=true)(D:T6 ops L σ i=true)(iS:dM P N Φ ops σ U some=some τ)(H:Any P N Φ ops K f (L ||| 2 ^ i) τ):Any P N Φ ops K (f+1) L σ:=by
 unfold T6 at D;rw[hi]at D;split at D
 ·rename_i oi' j0 e1 amY;injection e1 with e1;subst e1;split at D
  ·rename_i x n d oj tX AM AN hj0;split at D
   ·rename_i ty a b Y abL abM;rw[aM,aM]at D;obtain⟨⟨c1,c2⟩,c3⟩:=D;obtain⟨z,hz⟩:=Option.isSome_iff_exists.1 c1;obtain⟨a1,a2,a3⟩:=Oper.apart_spec c3;have hpd:∀ j,j<ops.size -> j≠i -> L.testBit j=false -> j=j0:=by
     intro j E I O;have:j∈(List.range ops.size).filter (λj=>!(Nat.beq j i || L.testBit j)):=by
      rw[List.mem_filter];refine⟨fS.2 E,?_⟩;rw[O,Bool.or_false];cases hb:Nat.beq j i with
      |false=>rfl
      |true=>exact absurd (cJ hb) I
     rw[amY]at this;exact iw.1 this
    have sF:∀ σ2:S,sy (σ2.t x) n=some z -> dM P N Φ ops σ2 U some=iI N σ2 (some d) (.lf (.v z)) some:=by
     intro σ2 h2;unfold dM;simp only[gn,AN];unfold dS;rw[show ga U.op=true by rw[tX];rfl,aq,tX];simp only[nc];rw[show aL σ2 (.tmp x)=σ2.t x from rfl,amU h2,AM]
    have hN:∀ σ2:S,iI N σ2 (some d) (.lf (.v z)) some=some (σ2.set d (.lf (.v z))):=by
     intro σ2;rw[sF σ hz]at iS;obtain⟨_,g2⟩:=tV iS;exact(g2 σ2).at_ _
    have hE:τ=σ.set d (.lf (.v z)):=by
     grind
    rw[hE]at H
    refine Uw (W:=0) hi (λj oj _ E=>by rw[Nat.zero_testBit]at E;cases E) (λσ=>σ.set d (.lf (.v z)))
     (λL' C=>sy (C.t x) n=some z /\ ∀j,j<ops.size -> j≠i -> L'.testBit j=false -> j=j0/\yL (aL C a) (aL C b)=true)
     (λL' C Z=>(sF C Z.1).trans (hN C)) (λL' C j oj' tD Z T I O _ AL=>?_) f L σ (λj E=>by rw[Nat.zero_testBit]at E;cases E) hr
     ⟨hz,λj E I O=>⟨hpd j E I O,c2⟩⟩ H
    obtain⟨rfl,hg⟩:=Z.2 j (iY.1 T).1 I O;rw[hj0]at T;injection T with T;subst T;have ha:aL (C.set d (.lf (.v z))) a=aL C a:=EF (a1 d AM) _ (by rw[Y];simp[Op.operands]);have hb:aL (C.set d (.lf (.v z))) b=aL C b:=EF (a1 d AM) _ (by rw[Y];simp[Op.operands]);have kC:dM P N Φ ops (C.set d (.lf (.v z))) oj some=vk P (C.set d (.lf (.v z))) ty (aL C a) (aL C b) some:=by
     unfold dM;simp only[gn,abM];rw[abK Y abL (by rw[ha,hb];exact hg),ha,hb]
    rw[kC]at AL;obtain⟨σ2,h1,h2,h3⟩:=amV AL
    refine⟨σ2,?_,h2,h3 _ _ _ Z.1,λk hk hki hkL=>?_⟩
    ·unfold dM;simp only[gn,abM];rw[abK Y abL hg];exact h1
    ·grind
   ·cases D
  ·cases D
 ·cases D
theorem Il[Inhabited Wd](eC:fZ P Φ):∀ (f L:Nat) (σ:S) (k:S->aj X),sA P N Φ ops f L σ k=some r->Any P N Φ ops (λτ=>k τ=some r) f L σ
 | 0,L,σ,k,h=>by
  unfold sA at h;split at h
  ·rename_i hr
   refine⟨λj=>?_,h⟩
   cases Y:mB ops L j with
   |false=>rfl
   |true=>have:=CL.2 Y;rw[hr]at this;cases this
  ·cases h
 | f+1,L,σ,k,h=>by
  unfold sA at h;split at h
  ·rename_i hr
   refine⟨λ_=>h,λj Y=>?_⟩
   have:=CL.2 Y;rw[hr]at this;cases this
  ·rename_i i hr;have hi:mB ops L i=true:=CL.1 (by rw[hr];exact .head _)
   refine⟨λh=>absurd (h i) (by rw[hi];simp),λj Y=>?_⟩
   have Y:=CL.2 Y;rw[hr]at Y;obtain rfl:=iw.1 Y;split at h
   next o ho=>obtain⟨τ,h1,h2⟩:=Ul eC h;exact⟨o,τ,ho,h2,Il eC f _ τ k (Nm h1)⟩
   ·cases h
  ·rename_i rs hn hs;split at h
   ·rename_i i hf;have hc:=List.find?_some hf;have hm:=List.mem_of_find?_eq_some hf;have hi:=CL.1 hm;split at h
    ·rename_i o ho;unfold aaW at hc;rw[ho,aM,aM,aM]at hc;obtain⟨⟨⟨c1,c2⟩,c3⟩,c4⟩:=hc;have c1:ga o.op=true\/gn σ ops o=some false:=by
      rw[dY]at c1
      refine c1.imp id λc1=>?_
      split at c1
      next b hb=>rw[hb];cases b<;>first|rfl|cases c1
      ·cases c1
     obtain⟨v,h1,hF,hN⟩:=amQ c1 c4 h;have rm:=UL _ _ c3;have c2:=cJ c2;have Im:∀ j,(waits ops i ops.size 0 0).testBit j=true->(L ||| 2 ^ i).testBit j=false:=by
      intro j Y;have:((L |||2 ^ i) &&& waits ops i ops.size 0 0).testBit j=false:=by rw[c2];exact Nat.zero_testBit j
      rw[Nat.testBit_and,Y,Bool.and_true]at this;exact this
     have wN:∀ j,(waits ops i ops.size 0 0).testBit j=true->L.testBit j=false:=by
      intro j Y;have:=Im j Y;rw[AJ,nQ]at this;exact this.1
     refine ams (W:=waits ops i ops.size 0 0) (ok:=λt r=>!iK (kG t) ops i L (waits ops i ops.size 0 0) ops.size 0 && !iK (λok=>fe ok r) ops i L (waits ops i ops.size 0 0) ops.size 0 && !iK isApp ops i L (waits ops i ops.size 0 0) ops.size 0) (sE:=MZ Φ ops i L (waits ops i ops.size 0 0) σ) (nh:=nh Φ ops i L (waits ops i ops.size 0 0) σ) (ng:=ng Φ ops i L (waits ops i ops.size 0 0)) eC ho hN (λj C D Y=>?_) f L σ (λt r jK j C D O T U=>?_) (λx hx j C D O T U=>?_) (λx hx=>?_) (λt jK j C D O T U=>?_) (λt jK j C D O T U=>?_) (λj C D O T U=>?_) wN hi hF (Il eC f _ _ k (Nm h1))
     ·have dK:=(iY.1 D).1;rcases rm j (by omega) (by omega)with e | e | e | e
      ·subst e;have:=Im j Y;rw[AJ]at this;simp at this
      ·rw[wN j Y]at e;cases e
      ·exact abF D e.2
      ·rw[Y]at e;cases e.1
     ·have dK:=(iY.1 D).1;rw[aM,aM,gd,gd,gd]at jK
      refine⟨λZ=>?_,?_,?_⟩
      ·have:=qE (g:=kG t) ops.size 0 j (by omega) (by omega) O T U C D (by unfold kG;rw[Z];exact Nat.beq_refl t);rw[jK.1.1]at this;cases this
      ·cases hn:fe C r with
       |false=>rfl
       | true=>
        have:=qE (g:=λok=>fe ok r) ops.size 0 j (by omega) (by omega) O T U C D hn;rw[jK.1.2]at this;cases this
      ·cases hn:isApp C with
       |false=>rfl
       | true=>
        have:=qE (g:=isApp) ops.size 0 j (by omega) (by omega) O T U C D hn;rw[jK.2]at this;cases this
     ·have dK:=(iY.1 D).1;unfold nh at hx;rw[aM]at hx;intro Z;have:=qE (g:=kG x) ops.size 0 j (by omega) (by omega) O T U C D (by unfold kG;rw[Z];exact Nat.beq_refl x);rw[this]at hx;cases hx.1
     ·unfold nh at hx;rw[aM]at hx;have hx:=hx.2;cases hz:σ.t x with
      |aG r j=>rw[hz]at hx;exact hx
      |js cs=>trivial
      |_=>rw[hz]at hx;cases hx
     ·have dK:=(iY.1 D).1;by_cases Z:C.dst=some t
      ·refine .inr ?_;have UO:kG t C=true:=by unfold kG;rw[Z];exact Nat.beq_refl t
       cases EI:wM C with
       | false=>
        cases Io:MY Φ ops i L (waits ops i ops.size 0 0) σ C with
        | false=>
         have:=qE (g:=λok=>kG t ok && !(wM ok ||MY Φ ops i L (waits ops i ops.size 0 0) σ ok)) ops.size 0 j (by omega) (by omega) O T U C D (by rw[UO,EI,Io];rfl);unfold MZ at jK;rw[this]at jK;cases jK
        | true=>
         unfold MY at Io;split at Io
         next s x f AO=>exact .inr ⟨s,x,f,AO,Io⟩
         ·cases Io
       | true=>
        refine .inl ⟨rfl,?_⟩;refine EK ?_;unfold AF;rw[dY]
        refine .inl (qE (g:=λo=>fe o t) _ 0 j (by omega) (by omega) O T U C D ?_)
        obtain⟨ty,e,h1,_,h3,_⟩:=abj EI;unfold fe;rw[Z,h1];exact Nat.beq_refl t
      ·exact .inl Z
     ·have dK:=(iY.1 D).1;by_cases Z:C.dst=some t
      ·refine .inr ?_;have UO:kG t C=true:=by unfold kG;rw[Z];exact Nat.beq_refl t
       cases wA:oS C with
       | false=>
        cases hma:isApp C with
        |true=>exact .inr (.inl rfl)
        | false=>
         cases CJ:AH Φ C with
         |true=>exact .inr (.inr rfl)
         | false=>
          have:=qE (g:=λok=>kG t ok && !(oS ok ||isApp ok ||AH Φ ok)) ops.size 0 j (by omega) (by omega) O T U C D (by rw[UO,wA,hma,CJ];rfl);unfold ng at jK;rw[this]at jK;cases jK
       | true=>
        refine .inl ?_;have mA:fe C t=true:=by
         unfold oS at wA;rw[aM]at wA;have h1:=wA.1;unfold fe;rw[Z];split at h1
         next Cp=>simp only[Cp];exact Nat.beq_refl t
         next Cp=>simp only[Cp];exact Nat.beq_refl t
         next Cp=>simp only[Cp];exact Nat.beq_refl t
         ·cases h1
        have h9:=qE (g:=λo=>fe o t) ops.size 0 j (by omega) (by omega) O T U C D mA;refine⟨rfl,?_,?_⟩
        ·refine EK ?_;unfold AF;rw[dY];exact .inl h9
        ·unfold CH;rw[dY];exact .inl h9
      ·exact .inl Z
     ·have dK:=(iY.1 D).1;rcases rm j (by omega) (by omega)with e | e | e | e
      ·exact absurd e O
      ·rw[T]at e;cases e
      ·rw[U]at e;cases e.1
      ·obtain⟨e1,e2⟩:=e.2 C D
       refine⟨e2,?_,λn hn=>?_⟩
       ·rw[dY,dY,dY]at e1;rcases e1 with ((e1 | e1) | e1) | e1
        ·exact .inl e1
        ·obtain⟨f',args,jS,c,g1,g2,g3,g4,g5⟩:=amT e1
         refine .inr (.inl ⟨f',args,jS,c,g1,g2,g3,g4,λn hn=>?_⟩)
         refine EK ?_;unfold AF;rw[dY]
         refine .inr (qE (g:=λo=>dm n (qA Φ σ o) ||dm n (AE σ o)) _ 0 j (by omega) (by omega) O T U C D ?_)
         rw[g5,vc.2 hn];rfl
        ·obtain⟨ty,t,y,g1,g2,g3,g4,g5⟩:=amR e1;refine .inr (.inr (.inl ⟨ty,t,y,g1,g2,g3,?_⟩));cases hx:σ.t t with
         | aG r' j'=>
          show AG Φ ops i L (waits ops i ops.size 0 0) σ r'=true;refine EK ?_;unfold AF;rw[dY]
          refine .inr (qE (g:=λo=>dm r' (qA Φ σ o) ||dm r' (AE σ o)) _ 0 j (by omega) (by omega) O T U C D ?_)
          rw[g5 r' j' hx,dY];exact .inr (vc.2 (.head _))
         |ptr k=>exact absurd hx (g4 k)
         |_=>trivial
        ·obtain⟨x,y,t1,t2,g1,g2,g3⟩:=amS e1
         refine .inr (.inr (.inr ⟨x,y,t1,t2,g1,g2,g3,λr' fQ=>⟨?_,?_⟩⟩))
         ·refine EK ?_;unfold AF;rw[dY]
          refine .inr (qE (g:=λo=>dm r' (qA Φ σ o) ||dm r' (AE σ o)) _ 0 j (by omega) (by omega) O T U C D ?_)
          have:AE σ C=[r']:=by simp only[AE,g1,fQ]
          rw[this,dY];exact .inr (vc.2 (.head _))
         ·unfold CH;rw[dY]
          refine .inr (qE (g:=λo=>dm r' (MX σ o)) _ 0 j (by omega) (by omega) O T U C D ?_)
          have:MX σ C=[r']:=by simp only[MX,g1,fQ]
          rw[this];exact vc.2 (.head _)
       ·have h9:=qE (g:=λo=>fe o n) ops.size 0 j (by omega) (by omega) O T U C D hn;refine⟨?_,?_⟩
        ·refine EK ?_;unfold AF;rw[dY];exact .inl h9
        ·unfold CH;rw[dY];exact .inl h9
    ·cases h
   ·split at h
    ·rename_i i hf;have hc:=List.find?_some hf;have hm:=List.mem_of_find?_eq_some hf;have hi:=CL.1 hm;split at h
     ·rename_i o ho;unfold aaX at hc;rw[ho,aM,aM,aM,aM,aM]at hc;obtain⟨⟨⟨⟨⟨c1,c2⟩,c3⟩,c4⟩,c5⟩,c6⟩:=hc;have rm:=UL _ _ c3;have c2:=cJ c2;have Im:∀ j,(waits ops i ops.size 0 0).testBit j=true->(L ||| 2 ^ i).testBit j=false:=by
       intro j Y;have:((L |||2 ^ i) &&& waits ops i ops.size 0 0).testBit j=false:=by rw[c2];exact Nat.zero_testBit j
       rw[Nat.testBit_and,Y,Bool.and_true]at this;exact this
      have wN:∀ j,(waits ops i ops.size 0 0).testBit j=true->L.testBit j=false:=by
       intro j Y;have:=Im j Y;rw[AJ,nQ]at this;exact this.1
      obtain⟨τ,h1,h2⟩:=Ul eC h;generalize hp:(λn=>iK (λo=>EE o n) ops i L (waits ops i ops.size 0 0) ops.size 0)=p at c4 c5;have hpe:∀ j C e,ops[j]?=some C->j≠i->L.testBit j=false->(waits ops i ops.size 0 0).testBit j=false->C.dst=some e->p e=true:=by
       intro j C e D O T U Z;have dK:=(iY.1 D).1;rw[<-hp];exact qE (g:=λo=>EE o e) _ 0 j (by omega) (by omega) O T U C D (by unfold EE kG;rw[Z];exact Nat.beq_refl e)
      have CK:∀ j C,ops[j]?=some C->j≠i->L.testBit j=false->(waits ops i ops.size 0 0).testBit j=false->T5 ops i L (waits ops i ops.size 0 0) σ C=true/\o.apart ops C=true:=by
       intro j C D O T U;have dK:=(iY.1 D).1;rcases rm j (by omega) (by omega)with e|e|e|e
       ·exact absurd e O
       ·rw[T]at e;cases e
       ·rw[U]at e;cases e.1
       ·exact e.2 C D
      have wA:∀ j C,ops[j]?=some C->j≠i->L.testBit j=false->(waits ops i ops.size 0 0).testBit j=false->abI ops p σ C:=by
       intro j C D O T U;have hb:=(CK j C D O T U).1;unfold T5 at hb;rw[aM,aM,aM]at hb;obtain⟨⟨⟨b1,b2⟩,b3⟩,b4⟩:=hb;have M8:∀t,iK (kG t) ops i L (waits ops i ops.size 0 0) ops.size 0=false->p t=false:=λt ht=>by rw[<-hp];exact ht
       refine⟨b1,?_,λy I=>?_,λg c t hg ht=>?_⟩
       ·split at b2
        next b yo=>rw[yo,b2]
        ·cases b2
       ·have:=bT.1 b3 y (by simpa using I);rw[aM]at this
        refine⟨this.1,λt ht=>?_⟩
        have h2:=this.2;rw[ht]at h2;exact M8 t (by simpa using h2)
       ·rw[hg]at b4;simp only[ht]at b4;exact M8 t (by simpa using b4)
      have yS:∀ n,20000<=n->p n=false:=by
       intro n hn;cases sD:p n with
       |false=>rfl
       | true=>
        rw[<-hp]at sD;obtain⟨k',UP,AP,mC,qF,tY,yT⟩:=abG _ _ sD;have hm:=(wA k' UP AP mC qF tY).is;unfold oS at hm;rw[aM]at hm;have hm:=hm.2;unfold EE kG at yT;split at yT
        next e he=>rw[he]at hm;have h1:e=n:=cJ yT;subst h1;exact absurd (cE hm) (Nat.not_le_of_gt (Nat.lt_succ_of_le hn))
        ·cases yT
      have hE:τ=(dM P N Φ ops σ o some).getD σ:=by rw[h2];rfl
      refine Uw (W:=waits ops i ops.size 0 0) ho (λj C D Y=>?_) (λσ=>(dM P N Φ ops σ o some).getD σ)
       (λL' E=>((dM P N Φ ops E o some).isSome=true/\T3 E p o=true/\(qA Φ E o).all (yO E p)=true/\yN E o=true)/\(∀ j,L'.testBit j=false->L.testBit j=false)/\
        ∀j C,ops[j]?=some C->j≠i->L'.testBit j=false->(waits ops i ops.size 0 0).testBit j=false->abI ops p E C)
       (λL' E hI=>?_) (λL' E j C tD hI D O T U iS=>?_) f L σ wN hi ⟨⟨by rw[h2];rfl,c4,c5,c6⟩,λ_ h=>h,wA⟩ (by rw[<-hE];exact Il eC f _ τ k (Nm h1))
      ·have dK:=(iY.1 D).1;rcases rm j (by omega) (by omega)with e | e | e | e
       ·subst e;have:=Im j Y;rw[AJ]at this;simp at this
       ·rw[wN j Y]at e;cases e
       ·exact abF D e.2
       ·rw[Y]at e;cases e.1
      ·obtain⟨z,hz⟩:=Option.isSome_iff_exists.1 hI.1.1;rw[hz];rfl
      ·obtain⟨⟨i1,i2,i3,i6⟩,i4,i5⟩:=hI;have ap:=(CK j C D O (i4 j T) U).2;obtain⟨m1,m2,m3,m4⟩:=i5 j C D O T U;obtain⟨a1,a2,a3⟩:=Oper.apart_spec ap;obtain⟨z,hz⟩:=Option.isSome_iff_exists.1 i1;have hEz:(dM P N Φ ops E o some).getD E=z:=by rw[hz];rfl
       have iS:dM P N Φ ops z C some=some tD:=by rw[<-hEz];exact iS
       have abN:∀ t,(E.t t).ga=true->o.dst≠some t->z.t t=E.t t:=by
        intro t ht Z;unfold dM at hz;split at hz
        ·exact amP eC c1 i6 hz ht Z
        ·obtain⟨g1,_⟩:=tV hz;injection g1 with g1;rw[<-g1];cases AM:o.dst with
         |none=>rfl
         |some d=>exact cy _ _ _ (by rintro rfl;exact Z AM)
        ·cases hz
       have amZ:∀ g c t,C.guard=some (g,c)->(ops[g]?).bind (·.dst)=some t->(E.t t).ga=true\/E.t t = .skip:=by
        intro g c t hg ht;unfold gn at m2;rw[hg]at m2;simp only[ht]at m2;split at m2
        next b hb=>left;rw[hb];rfl
        next hb=>exact .inr hb
        ·cases m2
       have AN:∀ g c t,C.guard=some (g,c)->(ops[g]?).bind (·.dst)=some t->o.dst≠some t:=by
        intro g c t hg ht Z;refine a1 t Z (List.mem_append_right _ ?_);rw[hg];simp only[ht];simp
       have UQ:gn z ops C=some true:=by
        rw[AI (σ:=E) λg c t hg ht=>?_]
        ·exact m2
        ·rcases amZ g c t hg ht with h | h
         ·exact abN t h (AN g c t hg ht)
         ·exfalso;unfold gn at m2;rw[hg]at m2;simp only[ht,h]at m2;cases m2
       have am0:∀ y∈C.op.operands,aL z y=aL E y:=by
        intro y I;cases y with
        | tmp t=>
         refine abN t (m3 _ I).1 λZ=>?_
         exact a1 t Z (List.mem_append_left _ (List.mem_filterMap.2 ⟨.tmp t,by simpa using I,rfl⟩))
        |_=>rfl
       obtain⟨e,x,u,Z,he,hx,hu,AL,qC⟩:=M9 m1 UQ iS;have CM:=hpe j C e D O (i4 j T) U Z;have tG:=a3 e Z;have tW:∀ y∈o.op.operands,(aL E y).nr p=true/\y ≠ .tmp e:=by
        intro y I;refine⟨bT.1 i2 y (by simpa using I),?_⟩;rintro rfl;exact tG (List.mem_append_left _ (List.mem_filterMap.2 ⟨.tmp e,by simpa using I,rfl⟩))
       have AM:o.dst≠some e:=λh=>a2 e h Z
       have am1:gn (cC e x u E) ops o=gn E ops o:=by
        have hw:∃ b,gn E ops o=some b:=by
         unfold dM at hz;cases hw:gn E ops o with
         |none=>rw[hw]at hz;cases hz
         |some b=>exact⟨b,rfl⟩
        obtain⟨b,hw⟩:=hw
        refine AI λg c t' D4 ht'=>?_
        rw[sG,aX ?_]
        ·exact A.Cy (p:=p) (pb:=p) (Um hw g c t' D4 ht') CM CM
        ·rintro rfl;refine tG (List.mem_append_right _ ?_);rw[D4];simp only[ht'];simp
       have sF:dM P N Φ ops (cC e x u E) o some=some (cC e x u z):=by
        unfold dM at hz ⊢;rw[am1];split at hz
        next hw=>exact amO eC hx hu he CM yS c1 i6 AM tW (λn hn=>bT.1 i3 n hn) hz
        next hw=>obtain⟨g1,g2⟩:=tV hz;injection g1 with g1;refine((g2 (cC e x u E)).at_ _).trans ?_;rw[<-g1,amt AM rfl]
        ·cases hz
       have UR:∀y∈o.op.operands,aL (cC e x u E) y=aL E y:=λy I=>yR (tW y I).1 CM (tW y I).2
       have hL:∀ k,(L' ||| 2 ^ j).testBit k=false->L'.testBit k=false/\k≠j:=by
        intro k hk;rw[AJ,nQ]at hk;refine⟨hk.1,?_⟩;rintro rfl;simp at hk
       refine⟨cC e x u E,qC E m2 (λy I=>(am0 y I).symm),?_,⟨by rw[sF];rfl,?_,?_,?_⟩,λk hk=>i4 k (hL k hk).1,λk UP hk hki hkL hkW=>?_⟩
       ·rw[AL,sF];rfl
       ·unfold T3;rw[bT];intro y I;rw[UR y (by simpa using I)];exact(tW y (by simpa using I)).1
       ·have hrj:qA Φ (cC e x u E) o=qA Φ E o:=by
         unfold qA;split
         ·rename_i f' args jS AO;split
          ·refine Ie _ _ λy I=>UR y ?_
           rw[AO];simp only[Op.operands,Call.operands];simp only[Array.mem_append]
           first
            |exact .inr (by simpa using I)
            |exact .inl (by simpa using I)
          ·rfl
         ·rfl
        rw[hrj,bT];intro n hn;have h3:=bT.1 i3 n hn;have cA:n≠e:=by
         rintro rfl;have sD:p n=false:=by
          unfold qA at hn;split at hn
          ·rename_i f' args jS AO;split at hn
           ·refine Ik _ _ (λy I=>(tW y ?_).1) n hn
            rw[AO];simp only[Op.operands,Call.operands];simp only[Array.mem_append]
            first
             |exact .inr (by simpa using I)
             |exact .inl (by simpa using I)
           ·cases hn
          ·cases hn
         rw[CM]at sD;cases sD
        unfold yO at h3 ⊢;rw[qD,aX cA];cases hm:E.m n with
        |none=>rfl
        | some y=>
         cases y with
         |sl=>rfl
         |mp=>rfl
         |gh=>rfl
         | az cs=>
          rw[hm]at h3;simp only[Option.map_some,aS.H9,r5.AA h3 CM];exact h3
       ·unfold yN at i6 ⊢;split
        next ty t y AO=>rw[AO]at i6;have e1:(cC e x u E).t t=E.t t:=UR (.tmp t) (by rw[AO];simp[Op.operands]);rw[e1];exact i6
        ·rfl
       ·obtain⟨n1,n2,n3,n4⟩:=i5 k UP hk hki (hL k hkL).1 hkW;have am2:∀ t,p t=false->t≠e:=by rintro t ht rfl;rw[CM]at ht;cases ht
        have abO:∀ t,(E.t t).ga=true->p t=false->(cC e x u E).t t=E.t t:=by
         intro t ht htp;rw[sG,aX (am2 t htp)];exact A.Nl ht e
        refine⟨n1,?_,λy I=>?_,n4⟩
        ·rw[AI (σ:=E) λg c t hg ht=>?_]
         ·exact n2
         ·unfold gn at n2;rw[hg]at n2;simp only[ht]at n2;split at n2
          next b hb=>exact abO t (by rw[hb];rfl) (n4 g c t hg ht)
          next hb=>cases n2
          ·cases n2
        ·refine⟨?_,(n3 y I).2⟩;cases y with
         | tmp t=>
          show ((cC e x u E).t t).ga=true;rw[abO t (n3 _ I).1 ((n3 _ I).2 t rfl)];exact(n3 _ I).1
         |const v=>exact(n3 _ I).1
         |global g=>exact(n3 _ I).1
         |func f=>exact(n3 _ I).1
     ·cases h
    ·split at h
     ·rename_i i hf;have hc:=List.find?_some hf;have hm:=List.mem_of_find?_eq_some hf;have hi:=CL.1 hm;split at h
      next o ho=>obtain⟨τ,h1,h2⟩:=Ul eC h;exact amX eC ho hi hc h2 (Il eC f _ τ k (Nm h1))
      ·cases h
     ·cases h
def EL{b:Bool}(h:gn σ ops o=some b)(hR:Rl w0 N af ρ σ a w):Region.wanted o (yielded ops a.tmps)=b:=by
 unfold gn at h;split at h
 next I=>injection h with h;subst h;simp[Region.wanted,I]
 ·rename_i j want I;split at h
  ·rename_i t O;have D:=hR.tmp t;rw[iO]at D;split at h
   ·rename_i c T;rw[T]at D;have E:=D.2.zW;injection h with h;subst h;cases C:a.tmps[t]? with
    |none=>rw[C]at E;cases E
    | some v=>
     rw[C]at E;subst E;simp only[Region.wanted,I,yielded,O,Option.bind_some,C];simp_all
   ·rename_i T;rw[T]at D;injection h with h;subst h;cases C:a.tmps[t]? with
    |none=>simp[Region.wanted,I,yielded,O,C]
    | some v=>
     rw[C]at D;have E:=D;subst E;simp only[Region.wanted,I,yielded,O,Option.bind_some,C,undef];simp_all
   ·cases h
  ·cases h
structure vo (ops:Array Oper) (abP:Array Bool) (L:Nat):Prop where
 size:abP.size=ops.size
 bit:∀j,j<ops.size->abP[j]?=some (L.testBit j)
 out:∀j,ops.size<=j->L.testBit j=false
def vo.abQ{C:Array Bool}{L:Nat}(h:vo ops C L)(j:Nat):C.getD j false=L.testBit j:=by
 rw[iO];by_cases D:j<ops.size
 ·rw[h.bit j D];rfl
 ·rw[h.out j (by omega),Array.getElem?_eq_none (by rw[h.size];omega)];rfl
def vo.ready{T:Array Bool}{L:Nat}(h:vo ops T L)(j:Nat):j∈Region.ready .any ops T ↔ mB ops L j=true:=by
 rw[mem_ready,Ii];constructor
 ·rintro⟨D,o,C,E⟩;have I:=(iY.1 C).1;rw[iO,h.bit j I]at D;exact⟨D,o,C,λe O hb=>by rw[<-h.abQ];exact E e O hb⟩
 ·rintro⟨D,o,C,E⟩;have I:=(iY.1 C).1;exact⟨by rw[iO,h.bit j I];exact D,o,C,λe O hb=>by rw[h.abQ];exact E e O hb⟩
def vo.set{D:Array Bool}{L i:Nat}(h:vo ops D L)(hi:i<ops.size):vo ops (D.setIfInBounds i true) (L ||| 2 ^ i):=by
 refine⟨by simp[h.size],λj C=>?_,λj C=>?_⟩
 ·rw[AJ];by_cases E:i=j
  ·subst E;rw[Array.getElem?_setIfInBounds_self_of_lt (by rw[h.size];exact hi)];simp
  ·rw[Array.getElem?_setIfInBounds_ne E,h.bit j C];simp_all
 ·rw[AJ,h.out j C]
  grind
def vo.start:vo ops (Array.replicate ops.size false) 0:=
 ⟨by simp,λj C=>by simp[C],λj _=>Nat.zero_testBit j⟩
def am3(Y:fZ P Φ){k:S -> aj X}{i:Nat}(hi:ops[i]?=some o)(h:dM P N Φ ops σ o k=some r):∃ E,k E=some r /\ ∀ a w (K:Act -> World -> Prop) (Q:Exit -> Act -> World -> Prop),R w0 N σ a w -> (∀ T w',R w0 N E T w' -> K T w') -> wpOp P ops Q i K a w:=by
 unfold dM at h;split at h
 ·rename_i I;obtain⟨E,Z,tX⟩:=Ua Y h
  refine⟨E,Z,λa w K Q hR D=>?_⟩
  obtain⟨af,ρ,C⟩:=hR;unfold wpOp;rw[hi];simp[EL I C];exact .inl (tX a w K Q ⟨af,ρ,C⟩ D)
 ·rename_i I;unfold iI at h;split at h
  ·rename_i O
   refine⟨σ,h,λa w K Q hR D=>?_⟩
   obtain⟨af,ρ,C⟩:=hR;unfold wpOp;rw[hi];simp[EL I C,O];exact D _ _ ⟨af,ρ,C⟩
  ·rename_i d O;cases U:Nat.blt d N with
   |false=>simp_all
   | true=>
    rw[U,aq]at h
    refine⟨_,h,λa w K Q hR D=>?_⟩
    obtain⟨af,ρ,C⟩:=hR;unfold wpOp;rw[hi];simp only[EL I C,O];exact D _ _ ⟨af,ρ,C.set rfl (by have:=cE U;omega)⟩
 ·cases h
def abR(U:fZ P Φ){K:S -> Prop}{Q:Exit -> Act -> World -> Prop}(I:∀ O,K O -> ∀ a w,R w0 N O a w -> Q .normal a w):
  ∀(f L:Nat) (σ:S) (E:Array Bool),Any P N Φ ops K f L σ -> vo ops E L -> ∀a w,R w0 N σ a w -> wpAny P .any ops Q f E a w
 | 0,L,σ,E,h,D,a,w,hR=>by
  refine⟨List.eq_nil_iff_forall_not_mem.2 λj C=>?_,I σ h.2 a w hR⟩
  rw[D.ready,h.1]at C;cases C
 | f+1,L,σ,E,h,D,a,w,hR=>by
  refine⟨λhr=>I σ (h.1 λj=>?_) a w hR,λj C=>?_⟩
  ·cases C:mB ops L j with
   |false=>rfl
   | true=>
    have:=(D.ready j).2 C;simp_all
  ·have Y:=(D.ready j).1 C;obtain⟨o,O,Z,hd,hA⟩:=h.2 j Y;obtain⟨tD,T,hw⟩:=am3 U Z hd;injection T with T;subst T;exact hw a w _ Q hR λa' w' dL=>abR U I f _ _ _ hA (D.set (abH Y)) a' w' dL
def R.drawn(hR:R w0 N σ a w):R w0 N σ a { w with drawn:=w.drawn+1 }:=by
 obtain⟨af,ρ,h⟩:=hR;exact⟨af,ρ,h.grow ⟨rfl,rfl,rfl,dg _,λ_ _=>rfl⟩ (λ_ _=>rfl) (λb k hb hl=>absurd (h.dj b k hl).2.1 (Nat.not_lt.2 hb))⟩
theorem am4[Inhabited Wd](C:fZ P Φ){id:Nat}{k:S->aj X}(E:P.follows .mixedOrders=true)(h:sA P N Φ ops ops.size 0 σ k=some r){Q:Exit->Act->World->Prop}(I:∀ D,k D=some r->∀ a w,R w0 N D a w->Q .normal a w)(hR:R w0 N σ a w):
  (Code.region id ops true).wp P Q a w:=
 wp_region_any E (abR C I _ _ _ _ (Il C _ _ _ _ h) vo.start a _ hR.drawn)
/-! Values. -/
end
end Go.Proofs.YtpigmalhjkekiaaGreat
