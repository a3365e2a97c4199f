/-
  Running the program over pure contents, and that it follows (part Z). Nothing here is a claim.
-/
import Derived.Test.YtdfkhfiglknaoaaGreatV4
set_option linter.unusedSimpArgs false
namespace Go.Proofs.YtdfkhfiglknaoaaGreat
set_option linter.defProp false
open Go.RowKit
set_option linter.unusedVariables false
section
variable {P:Program} {w w':World} {w0:Wd} {B N:Nat} {aj aD:bJ} {ρ ρ':Nat->Loc} {σ:S} {a:Act} {X:Type} {d:Nat} {r:X} {o:Oper} {Φ:fl} {Λ:pR}
def arV{E:ah Tmp}{g:Bool}{k:S -> ah X}(h:tR σ E g k=some r):∃ C,k C=some r /\ ∀ a w,R w0 N σ a w -> R w0 N C a w:=by
 unfold tR at h;cases g with
 |false=>grind
 | true=>
  rw[aq]at h;split at h
  ·rename_i d;split at h
   ·rename_i b hb;have key:∀ c:Bool,b=c -> ∀ a w,R w0 N σ a w -> R w0 N (σ.set d (.lf (.v (.bool c)))) a w:=by
     rintro c rfl a w ⟨aj,ρ,hR⟩
     refine⟨aj,ρ,hR.below,hR.dI,hR.root,λk=>?_,hR.size,hR.defers,hR.fix,hR.dY⟩
     show RA w w0.heap.size aj ρ (cc σ.t d (.lf (.v (.bool b))) k) _;by_cases D:k=d
     ·subst D;rw[cm,<- hb];exact hR.tmp k
     ·rw[cN _ _ _ D];exact hR.tmp k
    grind
   ·grind
  ·grind
def P0(Y:gF P Φ)(ops:Array Oper):∀ (rest:aa Oper) (j:Nat) (σ:S) (k:S -> ah X),CW P N Φ ops j rest σ k=some r -> ∃ cW,k cW=some r /\ ∀ a w,R w0 N σ a w -> ∀ Q,(∀ E w',R w0 N cW E w' -> Q Exit.normal E w') -> wpList P ops Q rest a w
 |[],j,σ,k,h=>⟨σ,h,λa w hR Q D=>D a w hR⟩
 | o :: rest,j,σ,k,h=>by
  unfold CW at h;split at h
  ·rename_i FI;obtain⟨ve,h1,wQ⟩:=aqM Y h;obtain⟨σ2,h2,uL⟩:=arV h1;obtain⟨I,O,U⟩:=P0 Y ops rest (j+1) σ2 k h2
   refine⟨I,O,λa w hR Q D=>?_⟩
   obtain⟨aj,ρ,C⟩:=hR;simp only[wpList,FJ FI C,if_true];exact .inl (wQ a w _ Q ⟨aj,ρ,C⟩ λE w' wL=>U E w' (uL E w' wL) Q D)
  ·rename_i FI;unfold iU at h;split at h
   ·rename_i hd;obtain⟨I,O,U⟩:=P0 Y ops rest _ σ k h
    refine⟨I,O,λa w hR Q D=>?_⟩
    obtain⟨aj,ρ,C⟩:=hR;simp[wpList,FJ FI C,hd];exact U a w ⟨aj,ρ,C⟩ Q D
   ·rename_i d hd;cases hN:Nat.blt d N with
    |false=>simp_all
    | true=>
     rw[hN,aq]at h;obtain⟨I,O,U⟩:=P0 Y ops rest (j+1) _ k h
     refine⟨I,O,λa w hR Q D=>?_⟩
     obtain⟨aj,ρ,C⟩:=hR;simp only[wpList,FJ FI C,hd];exact U _ w ⟨aj,ρ,C.set rfl (by have:=dj hN;omega)⟩ Q D
  ·cases h
def JR(eE:gF P Φ):∀ (c:Code) (σ:S) (k:Exit->S->ah X),nh P N Φ Λ c σ k=some r->rH P N Λ (occs c)->AW P w0 N c σ λe D=>k e D=some r:=by
 intro c
 induction c with
 |skip=>exact λσ k h _ a w hR=>wp_skip ⟨σ,h,hR⟩
 |label l=>exact λσ k h _ a w hR=>wp_label ⟨σ,h,hR⟩
 |ret=>exact λσ k h _ a w hR=>wp_ret ⟨σ,h,hR⟩
 |exit id=>exact λσ k h _ a w hR=>wp_exit ⟨σ,h,hR⟩
 | region id ops draw=>
  intro σ k h _ a w hR;cases draw with
  | true=>
   simp only[nh]at h;cases hm:P.follows .mixedOrders with
   |false=>rw[hm]at h;cases h
   | true=>
    rw[hm,aq]at h
    haveI:Inhabited Wd:=⟨w0⟩
    exact arU eE hm h (λτ jn a w hR=>⟨τ,jn,hR⟩) hR
  | false=>
   simp only[nh]at h;obtain⟨D,h',hw⟩:=P0 (w0:=w0) eE ops _ _ _ _ h;exact wp_region_list (hw a w hR _ λU w' C=>⟨D,h',C⟩)
 | seq x y Y XB=>
  intro σ k h I a w hR;simp only[nh]at h;have h1:=Y σ _ h (λp E=>I p (List.mem_append_left _ E))
  refine wp_seq (wp_mono (h1 a w hR) λe U w' he=>?_)
  obtain⟨D,O,C⟩:=he;cases e with
  |normal=>exact XB D k O (λp E=>I p (List.mem_append_right _ E)) U w' C
  |_=>exact⟨D,O,C⟩
 | cond c x y Y XB=>
  intro σ k h I a w hR;simp only[nh]at h;split at h
  ·rename_i b hb;obtain⟨aj,ρ,C⟩:=hR;have hc:=C.aL c;rw[hb]at hc;have hcv:=hc.2.Ae;cases b with
   |true=>exact wp_cond_true hcv (Y σ k h (λp E=>I p (List.mem_append_left _ E)) a w ⟨aj,ρ,C⟩)
   |false=>exact wp_cond_false hcv (XB σ k h (λp E=>I p (List.mem_append_right _ E)) a w ⟨aj,ρ,C⟩)
  ·cases h
 | block id c ih=>
  intro σ k h I a w hR;simp only[nh]at h;split at h
  next b hb=>exact I (id,c) (.head _) b hb X σ k r w0 h a w hR
  ·have h1:=ih σ _ h (λp E=>I p (.tail _ E))
   refine wp_block (wp_mono (h1 a w hR) λe U w' he=>?_)
   obtain⟨D,O,C⟩:=he;cases e with
   | exit id'=>
    simp only[Exit.inBlock];by_cases hid:id'=id
    ·simp only[hid,if_true]at O ⊢;exact⟨D,O,C⟩
    ·simp only[hid,if_false]at O ⊢;exact⟨D,O,C⟩
   |_=>exact⟨D,O,C⟩
 |_=>exact λσ k h=>by simp[nh]at h
end
/-! What a loop carries. -/
inductive Lm where
 |int (k:IntKind)
 |bool
 |str
 |own (r:Nat)
 |aI (t:TC) (o:Nat)
def Lm.T:Lm->Type
 |.int _=>Int
 |.bool=>Bool
 |.str=>ByteArray
 |.own _=>af
 |.aI t _=>aa (Proofs.YtdfkhfiglknaoaaGreat.T t)
def Lm.mk:(m:Lm)->m.T->Lf
 |.int k,n=>.v (.int k n)
 |.bool,b=>.v (.bool b)
 |.str,s=>.v (.str s)
 |.own r,_=>.own [r]
 |.aI t o,l=>.v (.sl t o false l)
def Lm.rd:(m:Lm)->Lf->ah m.T
 |.int k,.v (.int C n)=>if C=k then some n else none
 |.bool,.v (.bool b)=>some b
 |.str,.v (.str s)=>some s
 |.own r,.own [D]=>bif Nat.beq D r then some ()else none
 |.aI t o,.v x=>bif Nat.blt o 2 then x.fW t o else none
 |_,_=>none
inductive Tm where
 |lf (m:Lm)
 |aE (r j:Nat)
 |fp (t:TC) (o:Nat)
 |fc (f:Nat) (t:TC)
 |ag (t:TC)
 |pk (r n:Nat)
def Tm.T:Tm->Type
 |.lf m=>m.T
 |.aE _ _=>af
 |.fp t _=>Proofs.YtdfkhfiglknaoaaGreat.T t
 |.fc _ t=>Proofs.YtdfkhfiglknaoaaGreat.T t
 |.ag t=>Proofs.YtdfkhfiglknaoaaGreat.T t
 |.pk _ _=>af
def Tm.mk:(m:Tm)->m.T->A
 |.lf m,x=>.lf (m.mk x)
 |.aE r j,_=>.aE r j
 |.fp t o,x=>.jW (enc t o x)
 |.fc f t,x=>.oC f (enc t 0 x)
 |.ag t,x=>.agg ((enc t 0 x).map .v)
 |.pk r n,_=>.pk r n
def Tm.rd:(m:Tm)->A->ah m.T
 |.lf m,.lf x=>m.rd x
 |.aE r j,.aE C D=>bif Nat.beq C r&&Nat.beq D j then some ()else none
 |.fp t o,.jW cs=>bif Nat.blt o 2 then dec t o cs else none
 |.fc f t,.oC f' cs=>bif Nat.beq f' f then dec t 0 cs else none
 | .ag t,.agg cs=>(match uO cs with
  |some E=>dec t 0 E
  |none=>none)
 |.pk r n,.pk C I=>bif Nat.beq C r&&Nat.beq I n then some ()else none
 |_,_=>none
def JS:aa Lm->Type
 |[]=>af
 |m::C=>m.T×JS C
def yT:(C:aa Lm)->JS C->aa Lf
 |[],_=>[]
 |m::C,x=>m.mk x.1::yT C x.2
def P1:(C:aa Lm)->aa Lf->ah (JS C)
 |[],[]=>some ()
 | m :: C,x :: xs=>match m.rd x,P1 C xs with
  |some y,some ys=>some (y,ys)
  |_,_=>none
 |_,_=>none
inductive Rm where
 |sl (t:TC) (o:Nat)
 |st (t:TC)
 |aB (ms:List Lm)
 |mp
def Rm.T:Rm->Type
 |.sl t _=>aa (Proofs.YtdfkhfiglknaoaaGreat.T t)
 |.st t=>Proofs.YtdfkhfiglknaoaaGreat.T t
 |.aB C=>JS C
 |.mp=>aa (Int×Bool)
def Rm.mk:(m:Rm)->m.T->aX
 |.sl t o,l=>.sl (.sl t o false l)
 |.st t,x=>.aB ((enc t 0 x).map .v)
 |.aB C,x=>.aB (yT C x)
 |.mp,l=>.mp l
def Rm.rd:(m:Rm)->aX->ah m.T
 |.sl t o,.sl y=>y.fW t o
 | .st t,.aB cs=>(match uO cs with
  |some C=>dec t 0 C
  |none=>none)
 |.aB D,.aB cs=>P1 D cs
 |.mp,.mp l=>some l
 |_,_=>none
def FK:aa (Nat×Tm)->Type
 |[]=>af
 |(_,m)::C=>m.T×FK C
def yU:(C:aa (Nat×Tm))->FK C->Nat->A
 |[],_,_=>.undef
 |(n,m)::C,x,k=>bif Nat.beq k n then m.mk x.1 else yU C x.2 k
def JT:(C:aa (Nat×Tm))->(Nat->A)->ah (FK C)
 |[],_=>some ()
 | (n,m) :: C,t=>match m.rd (t n),JT C t with
  |some x,some xs=>some (x,xs)
  |_,_=>none
def yV:aa (Nat×Rm)->Type
 |[]=>af
 |(_,m)::C=>m.T×yV C
def yW:(C:aa (Nat×Rm))->yV C->Nat->ah aX
 |[],_,_=>none
 |(n,m)::C,x,k=>bif Nat.beq k n then some (m.mk x.1)else yW C x.2 k
def FL:(C:aa (Nat×Rm))->(Nat->ah aX)->ah (yV C)
 |[],_=>some ()
 | (n,m) :: C,t=>match (t n).bind m.rd,FL C t with
  |some x,some xs=>some (x,xs)
  |_,_=>none
structure kC where
 ts:List (Nat×Tm)
 rs:List (Nat×Rm)
def kC.St(C:kC):Type:=FK C.ts×yV C.rs
def kC.mk'(C:kC)(x:C.St):S:=⟨yU C.ts x.1,yW C.rs x.2⟩
def kC.P2(C:kC)(σ:S):ah C.St:=match JT C.ts σ.t,FL C.rs σ.m with
 |some x,some y=>some (x,y)
 |_,_=>none
/-! Roots by other names. -/
abbrev Rn:=aa (Nat×Nat)
def Rn.inv(rs:Rn)(n:Nat):ah Nat:=(rs.find? λp=>Nat.beq p.2 n).map (·.1)
def Rn.add(rs:Rn)(r n:Nat):Rn:=bif rs.any (λp=>Nat.beq p.1 r&&Nat.beq p.2 n)then rs else (r,n)::rs
def XC(n:Nat):ah Nat->Bool
 |some m=>Nat.beq m n
 |none=>false
def Rn.ok(rs:Rn):Bool:=rs.all λp=>(Nat.beq p.1 p.2 ||Nat.ble 60000 p.2)&&XC p.2 (rs.lookup p.1)&&XC p.1 (rs.inv p.2)
def Lf.eX(rs:Rn):Lf->Lf
 |.v x=>.v x
 | .own [r]=>(match rs.lookup r with
  |some n=>.own [n]
  |none=>.dead)
 |_=>.dead
def A.eX(rs:Rn):A->A
 |.lf x=>.lf (x.eX rs)
 | .aE r j=>(match rs.lookup r with
  |some n=>.aE n j
  |none=>.undef)
 |.jW cs=>.jW cs
 |.oC f cs=>.oC f cs
 |.agg cs=>.agg (cs.map (Lf.eX rs))
 |_=>.undef
def aX.eX(rs:Rn):aX->aX
 |.aB cs=>.aB (cs.map (Lf.eX rs))
 |.sl y=>.sl y
 |.mp l=>.mp l
 |.gh _=>.gh []
def S.eX(rs:Rn)(σ:S):S:=⟨λk=>(σ.t k).eX rs,λn=>match rs.inv n with
 |some r=>(σ.m r).map (aX.eX rs)
 |none=>none⟩
def rnL:Lm->Lf->Rn->Rn
 |.own n,.own [r],rs=>rs.add r n
 |_,_,rs=>rs
def XD:aa Lm->aa Lf->Rn->Rn
 |m::C,x::xs,rs=>XD C xs (rnL m x rs)
 |_,_,rs=>rs
def rnT:Tm->A->Rn->Rn
 |.lf m,.lf x,rs=>rnL m x rs
 |.aE n j,.aE r C,rs=>rs.add r n
 |_,_,rs=>rs
def aec(t:Nat->A):aa (Nat×Tm)->Rn->Rn
 |[],rs=>rs
 |(k,m)::C,rs=>aec t C (rnT m (t k) rs)
def aed(m:Nat->ah aX):aa (Nat×Rm)->Rn->Rn
 |[],rs=>rs
 | (n,x) :: xs,rs=>aed m xs (match x,rs.inv n with
  | .aB C,some r=>(match m r with
   |some (.aB cs)=>XD C cs rs
   |_=>rs)
  | .aB C,none=>(match m n with
   |some (.aB cs)=>XD C cs (rs.add n n)
   |_=>rs)
  |_,some _=>rs
  |_,none=>rs.add n n)
def kC.rn(C:kC)(σ:S):Rn:=aed σ.m C.rs (aec σ.t C.ts [])
def XE(rs:aa (Nat×Rm))(p:Nat×Tm)(σ:S):S:=match p.2,σ.t p.1 with
 | .lf (.own n),.lf (.v .nil)=>(match rs.lookup n with
  |some (.sl t o)=>bif Nat.ble 60000 n then ⟨cc ((σ.drop n).root n (.sl (.sl t o false []))).t p.1 (.lf (.own [n])),((σ.drop n).root n (.sl (.sl t o false []))).m⟩else σ
  |_=>σ)
 |_,_=>σ
def P3(rs:aa (Nat×Rm)):aa (Nat×Tm)->S->S
 |[],σ=>σ
 |p::ps,σ=>P3 rs ps (XE rs p σ)
def XF(n j r:Nat)(σ:S):S:=match σ.m r with
 | some (.aB cs)=>(match cs[j]? with
  |some (.v .nil)=>⟨σ.t,cc σ.m r (some (.aB (cs.set j (.own [n]))))⟩
  |_=>σ)
 |_=>σ
def XG(rs:aa (Nat×Rm))(n j r:Nat)(σ:S):S:=match rs.lookup n with
 |some (.sl t o)=>bif Nat.ble 60000 n then XF n j r ((σ.drop n).root n (.sl (.sl t o false [])))else σ
 |_=>σ
def C3(rs:aa (Nat×Rm))(r:Nat):Nat->aa Lm->aa Lf->S->S
 |j,.own n::C,.v .nil::cs,σ=>C3 rs r (j+1) C cs (XG rs n j r σ)
 |j,_::C,_::cs,σ=>C3 rs r (j+1) C cs σ
 |_,_,_,σ=>σ
def P4(rs:aa (Nat×Rm)):aa (Nat×Rm)->S->S
 |[],σ=>σ
 | (r,.aB C) :: ps,σ=>P4 rs ps (match σ.m r with
  |some (.aB cs)=>C3 rs r 0 C cs σ
  |_=>σ)
 |_::ps,σ=>P4 rs ps σ
def kC.rd1(C:kC)(σ:S):ah C.St:=bif (C.rn σ).ok then C.P2 (P4 C.rs C.rs (σ.eX (C.rn σ)))else none
def kC.rd(C:kC)(σ:S):ah C.St:=match C.P2 σ with
 |some x=>some x
 |none=>C.rd1 (P3 C.rs C.ts σ)
section
variable {P:Program} {w w':World} {w0:Wd} {B N:Nat} {aj aD:bJ} {ρ ρ':Nat->Loc} {σ:S} {a:Act} {X:Type} {d:Nat} {r:X} {o:Oper} {Φ:fl} {Λ:pR}
def Lm.rI{m:Lm}{x:Lf}{y:m.T}(h:m.rd x=some y){u:Value}(C:eS w B aj ρ x u):eS w B aj ρ (m.mk y) u:=by
 unfold Lm.rd at h;split at h
 ·split at h
  next D=>subst D;injection h with h;subst h;exact C
  ·cases h
 ·injection h with h;subst h;exact C
 ·injection h with h;subst h;exact C
 ·rename_i E I;cases hb:Nat.beq I E with
  |false=>simp_all
  |true=>obtain rfl:=cL hb;exact C
 ·rename_i t o x;cases hb:Nat.blt o 2 with
  |false=>rw[hb]at h;cases h
  | true=>
   rw[hb]at h;have:=dj hb;exact⟨by simp[V.aI];omega,C.2.wk (V.Io h)⟩
 ·cases h
def Tm.rI{m:Tm}{x:A}{y:m.T}(h:m.rd x=some y){u:Value}(I:RA w B aj ρ x u):RA w B aj ρ (m.mk y) u:=by
 cases m with
 | lf m=>
  cases x with
  |lf x=>exact Lm.rI h I
  |_=>cases h
 | aE r j=>
  cases x with
  | aE U j'=>
   have h:(bif Nat.beq U r&&Nat.beq j' j then some ()else none)=some y:=h;cases hb:(Nat.beq U r&&Nat.beq j' j)with
   |false=>simp_all
   | true=>
    rw[aP]at hb;obtain rfl:=cL hb.1;obtain rfl:=cL hb.2;exact I
  |_=>cases h
 | fp t o=>
  cases x with
  | jW cs=>
   have h:(bif Nat.blt o 2 then dec t o cs else none)=some y:=h;cases hb:Nat.blt o 2 with
   |false=>simp_all
   | true=>
    rw[hb,aq]at h;have ho:=dj hb;have D:=mY t o cs y h;obtain⟨b,off,Y,h2,h3,h4⟩:=I
    refine⟨b,off,Y,h2,h3,λj z C=>?_⟩
    have hj:j<cs.length:=by rw[D.1];exact(eO.1 C).1
    have E:=bT hj;obtain⟨g1,v,g2,g3⟩:=h4 j _ E;exact⟨sy t o y (by omega) j z C,v,g2,g3.wk (D.2 j _ z E C)⟩
  |_=>cases h
 | fc f t=>
  cases x with
  | oC f' cs=>
   have h:(bif Nat.beq f' f then dec t 0 cs else none)=some y:=h;cases hb:Nat.beq f' f with
   |false=>simp_all
   | true=>
    rw[hb,aq]at h;obtain rfl:=cL hb;have D:=mY t 0 cs y h;obtain⟨pv,e0,b,off,Y,h2,h3,h4⟩:=I
    refine⟨pv,e0,b,off,Y,h2,h3,λj z C=>?_⟩
    have hj:j<cs.length:=by rw[D.1];exact(eO.1 C).1
    have E:=bT hj;obtain⟨g1,v,g2,g3⟩:=h4 j _ E;exact⟨sy t 0 y (by omega) j z C,v,g2,g3.wk (D.2 j _ z E C)⟩
  |_=>cases h
 | ag t=>
  cases x with
  | agg cs=>
   have h:(match uO cs with|some O=>dec t 0 O|none=>none)=some y:=h;cases jz:uO cs with
   |none=>simp_all
   | some O=>
    rw[jz]at h;have h:dec t 0 O=some y:=h;have gA:=IP _ _ jz;have D:=mY t 0 O y h;obtain⟨us,Y,h2,h3⟩:=I
    refine⟨us,Y,?_,λj x hx=>?_⟩
    ·rw[h2,gA,fN,fN,D.1]
    ·rw[fh]at hx;cases C:(enc t 0 y)[j]? with
     |none=>simp_all
     | some z=>
      rw[C]at hx;injection hx with hx;subst hx;have hj:j<O.length:=by rw[D.1];exact(eO.1 C).1
      have E:=bT hj;obtain⟨v,g1,g2⟩:=h3 j (.v O[j]) (by rw[gA,fh,E];rfl);exact⟨v,g1,sy t 0 y (by omega) j z C,g2.2.wk (D.2 j _ z E C)⟩
  |_=>cases h
 | pk r n=>
  cases x with
  | pk U n'=>
   have h:(bif Nat.beq U r&&Nat.beq n' n then some ()else none)=some y:=h;cases hb:(Nat.beq U r&&Nat.beq n' n)with
   |false=>simp_all
   | true=>
    rw[aP]at hb;obtain rfl:=cL hb.1;obtain rfl:=cL hb.2;exact I
  |_=>cases h
def aee:∀ (C:aa Lm) (cs:aa Lf) (y:JS C),P1 C cs=some y -> (yT C y).length=cs.length /\ ∀ (j:Nat) x,(yT C y)[j]?=some x -> ∃ z,cs[j]?=some z/\(∀ (w:World) (B:Nat) (aj:bJ) (ρ:Nat -> Loc) (u:Value),eS w B aj ρ z u -> eS w B aj ρ x u)
 |[],[],y,h=>⟨rfl,λj x D=>by simp[yT]at D⟩
 | m :: C,c :: cs,y,h=>by
  unfold P1 at h;split at h
  ·rename_i y1 ys E I;injection h with h;subst h;obtain⟨O,U⟩:=aee C cs ys I
   refine⟨by simp[yT,O],λj x D=>?_⟩
   cases j with
   |zero=>simp[yT]at D;subst D;exact⟨c,rfl,λw B aj ρ u Y=>Lm.rI E Y⟩
   |succ j=>exact U j x (by simpa [yT]using D)
  ·cases h
def Rm.rI{m:Rm}{x:aX}{y:m.T}(h:m.rd x=some y){n:Nat}(C:eV w B aj ρ n x):eV w B aj ρ n (m.mk y):=by
 cases m with
 | sl t o=>
  cases C with
  |sl v y' D hr=>exact .sl v _ D (hr.wk (V.Io h))
  |aB=>cases h
  |mp=>cases h
  |gh=>cases h
 | mp=>
  cases C with
  |gh=>cases h
  |sl=>cases h
  |aB=>cases h
  |mp b c es l D hl I he=>injection h with h;subst h;exact .mp b c es _ D hl I he
 | st t=>
  cases C with
  |sl=>cases h
  |mp=>cases h
  |gh=>cases h
  | aB b off cells e cs us D hl I O hc=>
   have h:(match uO cs with|some E=>dec t 0 E|none=>none)=some y:=h;cases jz:uO cs with
   |none=>simp_all
   | some E=>
    rw[jz]at h;have h:dec t 0 E=some y:=h;have gA:=IP _ _ jz;have Y:=mY t 0 E y h
    refine .aB b off cells e _ us D hl I (by rw[fN,<- Y.1];rw[gA,fN]at O;exact O) λj x C=>?_
    rw[fh]at C;cases U:(enc t 0 y)[j]? with
    |none=>simp_all
    | some z=>
     rw[U]at C;injection C with C;subst C;have hj:j<E.length:=by rw[Y.1];exact(eO.1 U).1
     have hv:=bT hj;obtain⟨h1,h2⟩:=hc j (.v E[j]) (by rw[gA,fh,hv];rfl);exact⟨h1,sy t 0 y (by omega) j z U,h2.2.wk (Y.2 j _ z hv U)⟩
 | aB ms=>
  cases C with
  |sl=>cases h
  |mp=>cases h
  |gh=>cases h
  | aB b off cells e cs us D hl I O hc=>
   obtain⟨k1,k2⟩:=aee ms cs y h
   refine .aB b off cells e _ us D hl I (by show off+(yT ms y).length <= _;rw[k1];exact O) λj x C=>?_
   grind
def XH:∀ (C:aa (Nat×Tm)) (t:Nat -> A) (y:FK C),JT C t=some y -> ∀ k,yU C y k = .undef \/ ∃ m z,(Tm.rd m (t k)=some z/\yU C y k=m.mk z)
 |[],t,y,h,k=>.inl rfl
 | (n,m) :: C,t,y,h,k=>by
  unfold JT at h;split at h
  ·rename_i x xs D E;injection h with h;subst h;by_cases I:k=n
   ·subst I;exact .inr ⟨m,x,D,by simp[yU]⟩
   ·have hb:Nat.beq k n=false:=by
     cases hb:Nat.beq k n with
     |false=>rfl
     |true=>simp_all
    simp only[yU,hb,av];exact XH C t xs E k
  ·cases h
def XI:∀ (C:aa (Nat×Rm)) (t:Nat -> ah aX) (y:yV C),FL C t=some y -> ∀ k,yW C y k=none \/ ∃ m x z,t k=some x/\Rm.rd m x=some z/\yW C y k=some (m.mk z)
 |[],t,y,h,k=>.inl rfl
 | (n,m) :: C,t,y,h,k=>by
  unfold FL at h;split at h
  ·rename_i x xs D E;injection h with h;subst h;by_cases I:k=n
   ·subst I;cases O:t k with
    |none=>simp_all
    |some z=>rw[O]at D;exact .inr ⟨m,z,x,rfl,D,by simp[yW]⟩
   ·have hb:Nat.beq k n=false:=by
     cases hb:Nat.beq k n with
     |false=>rfl
     |true=>simp_all
    simp only[yW,hb,av];exact XI C t xs E k
  ·cases h
def kC.aef{C:kC}{x:C.St}(h:C.P2 σ=some x)(hR:R w0 N σ a w):R w0 N (C.mk' x) a w:=by
 unfold kC.P2 at h;split at h
 ·rename_i u v O U;injection h with h;subst h;obtain⟨aj,ρ,hR⟩:=hR
  refine⟨aj,ρ,hR.below,hR.dI,λn y D=>?_,λk=>?_,hR.size,hR.defers,hR.fix,hR.dY⟩
  ·have D:yW C.rs v n=some y:=D;rcases XI C.rs σ.m v U n with e | ⟨m,x,z,E,I,Y⟩
   ·simp_all
   ·rw[Y]at D;injection D with D;subst D;exact Rm.rI I (hR.root n x E)
  ·show RA _ _ _ _ (yU C.ts u k) _;rcases XH C.ts σ.t u O k with e | ⟨m,z,E,I⟩
   ·rw[e];trivial
   ·rw[I];exact Tm.rI E (hR.tmp k)
 ·cases h
def aeg{n:Nat}{o:ah Nat}(h:XC n o=true):o=some n:=by
 cases o with
 |none=>cases h
 |some m=>rw[cL h]
def aeh{rs:Rn}{r n:Nat}(h:rs.lookup r=some n):(r,n)∈rs:=by
 induction rs with
 |nil=>cases h
 |cons p rs C =>grind
def aei{rs:Rn}{r n:Nat}(h:rs.inv n=some r):(r,n)∈rs:=by
 unfold Rn.inv at h;cases C:rs.find? _ with
 |none=>rw[C]at h;cases h
 | some p=>
  rw[C]at h;injection h with h;subst h;have D:=List.find?_some C;have E:=List.mem_of_find?_eq_some C;rw[<- cL D];exact E
def Rn.gf(rs:Rn)(ρ:Nat->Loc):Nat->Loc:=λn=>match rs.inv n with
 |some r=>ρ r
 |none=>ρ n
def Rn.P5{rs:Rn}(h:rs.ok=true){r n:Nat}(C:(r,n)∈rs):(r=n \/ 60000 <= n)/\rs.lookup r=some n/\rs.inv n=some r:=by
 have:=ck.1 h _ C;rw[aP,aP,eN]at this;refine⟨?_,aeg this.1.2,aeg this.2⟩;simp_all
def eS.eX{rs:Rn}(C:rs.ok=true){x:Lf}{u:Value}(h:eS w B aj ρ x u):eS w B (fj aj rs id) (rs.gf ρ) (x.eX rs) u:=by
 unfold Lf.eX;split
 ·exact⟨h.1,h.2.Oq h.1 λb=>Az⟩
 ·rename_i r;split
  next n D=>have hi:=(Rn.P5 C (aeh D)).2.2;refine⟨h.1,?_⟩;have E:=h.2;simp[dn]at E ⊢;unfold Rn.gf;simp_all
  ·trivial
 ·trivial
def Rl.eX{rs:Rn}(O:rs.ok=true)(h:Rl w0 N aj ρ σ a w):Rl w0 N (fj aj rs id) (rs.gf ρ) (σ.eX rs) a w:=by
 have hl:∀ b r n,aj b=some [r] -> rs.lookup r=some n -> fj aj rs id b=some [n]:=by
  intro b r n E I;simp[fj,E,I]
 refine⟨h.below,λb k D=>?_,λn x C=>?_,λk=>?_,h.size,h.defers,λr l Y=>?_,h.dY⟩
 ·unfold fj at D;split at D
  ·cases D
  ·rename_i k0 yX;split at D
   ·cases D
   ·rename_i r Y;cases hn:rs.lookup r with
    |none=>grind
    | some n=>
     rw[hn]at D;injection D with D;subst D;obtain⟨E,I,_⟩:=h.dI b k0 yX;simp_all
 ·have C:(match rs.inv n with | some r=>(σ.m r).map (aX.eX rs) | none=>none)=some x:=C;cases hi:rs.inv n with
  |none=>grind
  | some r=>
   rw[hi]at C;have C:(σ.m r).map (aX.eX rs)=some x:=C;have uW:=(Rn.P5 O (aei hi)).2.1;have cu:rs.gf ρ n=ρ r:=by unfold Rn.gf;rw[hi]
   cases hm:σ.m r with
   |none=>grind
   | some y=>
    rw[hm]at C;injection C with C;subst C;cases h.root r y hm with
    | aB b off cells e cs us E I hh hs hc=>
     refine .aB b off cells e _ us (cu.trans E) (hl b r n I uW) hh (by rw[fN];exact hs) λj x C=>?_
     rw[fh]at C;cases U:cs[j]? with
     |none=>grind
     | some z=>
      rw[U]at C;injection C with C;subst C;exact⟨(hc j z U).1,(hc j z U).2.eX O⟩
    | sl v y E I=>
     exact .sl v y (cu.trans E) (RV.fj (p:=[]) (nm:=id) I uW)
    |mp b c es l E I hh he=>exact .mp b c es l (cu.trans E) (hl b r n I uW) hh he
    |gh us xs E C=>exact .gh us _ (cu.trans E) λj x hj=>by simp at hj
 ·show RA _ _ _ _ ((σ.t k).eX rs) _;have D:=h.tmp k;generalize σ.t k=x at D;unfold A.eX;split
  ·exact D.eX O
  ·rename_i r j;split
   next n hn=>have hi:=(Rn.P5 O (aeh hn)).2.2;obtain⟨b,off,E,I⟩:=D;exact⟨b,off,by unfold Rn.gf;rw[hi];exact E,I⟩
   ·trivial
  ·obtain⟨b,off,g1,g2,g3,g4⟩:=D
   refine⟨b,off,g1,g2,Az g3,λj x C=>?_⟩
   obtain⟨f1,v,f2,f3⟩:=g4 j x C;exact⟨f1,v,f2,f3.Oq f1 λb=>Az⟩
  ·obtain⟨pv,e0,b,off,g1,g2,g3,g4⟩:=D
   refine⟨pv,e0,b,off,g1,g2,Az g3,λj x C=>?_⟩
   obtain⟨f1,v,f2,f3⟩:=g4 j x C;exact⟨f1,v,f2,f3.Oq f1 λb=>Az⟩
  ·obtain⟨us,g1,g2,g3⟩:=D
   refine⟨us,g1,by rw[fN];exact g2,λj x C=>?_⟩
   rw[fh]at C;rename_i cs;cases U:cs[j]? with
   |none=>grind
   | some z=>
    rw[U]at C;injection C with C;subst C;obtain⟨v,f1,f2⟩:=g3 j z U;exact⟨v,f1,f2.eX O⟩
  ·trivial
 ·show rs.gf ρ r=l;unfold Rn.gf;split
  ·rename_i r0 hi;rcases(Rn.P5 O (aei hi)).1 with e | e
   ·rw[e];exact h.fix r l Y
   ·rw[h.dY r (.inr e)]at Y;cases Y
  ·exact h.fix r l Y
def arW{rs:aa (Nat×Rm)}{p:Nat×Tm}(hR:R w0 N σ a w):R w0 N (XE rs p σ) a w:=by
 unfold XE;split
 ·rename_i n hp O;split
  ·rename_i t o hl;cases hb:Nat.ble 60000 n with
   |false=>exact hR
   | true=>
    have U:=dj hb;obtain⟨aj,ρ,hR⟩:=hR;have D:=hR.tmp p.1;rw[O]at D;have Y:a.tmps.getD p.1 undef = .slice none 0 0:=by
     have E:=D.2;generalize a.tmps.getD p.1 undef=u at E;cases E;rfl
    have C:=hR.new (d:=n) (x:=.sl (.sl t o false [])) (.eU (.slice none 0 0)) (.sl _ _ (cm _ _ _) (.fq _ _ _)) (hR.dY n (.inr U))
    refine⟨aj,_,C.below,C.dI,C.root,λk=>?_,C.size,C.defers,C.fix,C.dY⟩
    show RA _ _ _ _ (cc ((σ.drop n).root n (.sl (.sl t o false []))).t p.1 (.lf (.own [n])) k) _;by_cases I:k=p.1
    ·subst I;rw[cm,Y];exact⟨rfl,by simp[dn,cm]⟩
    ·rw[cN _ _ _ I];exact C.tmp k
  ·exact hR
 ·exact hR
def arX{n j r:Nat}{y:V}(hR:Rl w0 N aj ρ σ a w)(Y:ρ n = .eU (.slice none 0 0)):Rl w0 N aj ρ (XF n j r σ) a w:=by
 unfold XF;split
 ·rename_i cs hm;split
  ·rename_i O
   refine⟨hR.below,hR.dI,λE x C=>?_,hR.tmp,hR.size,hR.defers,hR.fix,hR.dY⟩
   have C:cc σ.m r (some (.aB (cs.set j (.own [n])))) E=some x:=C;by_cases U:E=r
   ·subst U;rw[cm]at C;injection C with C;subst C;cases hR.root E _ hm with
    | aB b off cells e cs us h1 I hh hs hc=>
     refine .aB b off cells e _ us h1 I hh (by rw[ki];exact hs) λi z D=>?_
     rw[List.getElem?_set]at D;by_cases hi:j=i
     ·subst hi;have dQ:j<cs.length:=(eO.1 O).1;rw[bg rfl,bg dQ]at D;injection D with D;subst D;obtain⟨k1,k2⟩:=hc j _ O;refine⟨k1,?_⟩;have hu:us j = .slice none 0 0:=by
       have I:=k2.2;generalize us j=u at I;cases I;rfl
      rw[hu];exact⟨rfl,by simp only[dn,Y]⟩
     ·grind
   ·rw[cN _ _ _ U]at C;exact hR.root E x C
  ·exact hR
 ·exact hR
def arY{rs:aa (Nat×Rm)}{n j r:Nat}(hR:R w0 N σ a w):R w0 N (XG rs n j r σ) a w:=by
 unfold XG;split
 ·rename_i t o hl;cases hb:Nat.ble 60000 n with
  |false=>exact hR
  | true=>
   have C:=dj hb;obtain⟨aj,ρ,hR⟩:=hR;exact⟨aj,_,arX (y:=.nil) (hR.new _ (.sl _ _ (cm _ _ _) (.fq _ _ _)) (hR.dY n (.inr C))) (cm _ _ _)⟩
 ·exact hR
def XJ{rs:aa (Nat×Rm)}{r:Nat}:∀ (C:aa Lm) (cs:aa Lf) (j:Nat) (σ:S),R w0 N σ a w -> R w0 N (C3 rs r j C cs σ) a w
 |[],cs,j,σ,h=>by unfold C3;exact h
 | m :: C,[],j,σ,h=>by
  unfold C3;simp_all
 | m :: C,c :: cs,j,σ,h=>by
  unfold C3;split
  next D E=>cases D;cases E;exact XJ C cs _ _ (arY h)
  next D E=>cases D;cases E;exact XJ C cs _ _ h
  ·exact h
def JU{rs:aa (Nat×Rm)}:∀ (ps:aa (Nat×Rm)) (σ:S),R w0 N σ a w -> R w0 N (P4 rs ps σ) a w
 |[],σ,h=>h
 |(r,.sl t o)::ps,σ,h=>JU ps σ h
 |(r,.st t)::ps,σ,h=>JU ps σ h
 |(r,.mp)::ps,σ,h=>JU ps σ h
 | (r,.aB C) :: ps,σ,h=>by
  refine JU ps _ ?_;split
  ·exact XJ C _ 0 σ h
  ·exact h
def aej{rs:aa (Nat×Rm)}:∀ (ps:aa (Nat×Tm)) (σ:S),R w0 N σ a w->R w0 N (P3 rs ps σ) a w
 |[],σ,h=>h
 |p::ps,σ,h=>aej ps _ (arW h)
def kC.rI{C:kC}{x:C.St}(h:C.rd σ=some x)(hR:R w0 N σ a w):R w0 N (C.mk' x) a w:=by
 unfold kC.rd at h;split at h
 next y D=>injection h with h;subst h;exact kC.aef D hR
 ·have hR:=aej (rs:=C.rs) C.ts σ hR;revert h hR;generalize P3 C.rs C.ts σ=E;intro h hR;unfold kC.rd1 at h;cases hb:(C.rn E).ok with
  |false=>simp_all
  | true=>
   rw[hb,aq]at h;obtain⟨aj,ρ,hR⟩:=hR;exact kC.aef h (JU C.rs _ ⟨_,_,hR.eX hb⟩)
end
def yY:aa V->aa Nat->aa Lf
 |[],_=>[]
 | x :: xs,ns=>bif x.plain then .v x :: yY xs ns else (match ns with
  |n::ns=>.own [n]::yY xs ns
  |[]=>.dead::yY xs [])
def C4:aa V->aa Nat->(Nat->ah aX)->Nat->ah aX
 |[],_,m,k=>m k
 | x :: xs,ns,m,k=>bif x.plain then C4 xs ns m k else (match ns with
  |n::ns=>bif Nat.beq k n then some (.sl x)else C4 xs ns m k
  |[]=>C4 xs [] m k)
def l7(m:Nat->ah aX):aa Lf->aa Nat->ah (aa V)
 |[],[]=>some []
 | .v x :: cs,ns=>bif x.plain then (match l7 m cs ns with
  |some C=>some (x::C)
  |none=>none)else none
 | .own [r] :: cs,n :: ns=>bif Nat.beq r n then (match m n with
  | some (.sl y)=>bif y.plain then none else (match l7 m cs ns with
   |some C=>some (y::C)
   |none=>none)
  |_=>none)else none
 |_,_=>none
abbrev Gp:=Nat×TC×Nat×aa Nat
def JV:aa Gp->Type->Type
 |[],X=>X
 |g::gs,X=>T g.2.1×JV gs X
def P6:(gs:aa Gp)->(rs:aa (Nat×Rm))->JV gs (yV rs)->Nat->ah aX
 |[],rs,x,k=>yW rs x k
 |(n,t,o,ns)::gs,rs,x,k=>bif Nat.beq k n then some (.aB (yY (enc t o x.1) ns))else C4 (enc t o x.1) ns (P6 gs rs x.2) k
def P7:(gs:aa Gp)->(rs:aa (Nat×Rm))->(Nat->ah aX)->ah (JV gs (yV rs))
 |[],rs,m=>FL rs m
 | (n,t,o,ns) :: gs,rs,m=>match m n with
  | some (.aB cs)=>(match l7 m cs ns with
   | some C=>(match dec t o C,P7 gs rs m with
    |some x,some y=>some (x,y)
    |_,_=>none)
   |none=>none)
  |_=>none
def FM:aa V->aa Nat->aa Lm
 |[],_=>[]
 |.int k _::xs,ns=>.int k::FM xs ns
 |.bool _::xs,ns=>.bool::FM xs ns
 |.str _::xs,ns=>.str::FM xs ns
 |_::xs,n::ns=>.own n::FM xs ns
 |_::xs,[]=>.bool::FM xs []
def XK:aa V->aa Nat->aa (Nat×Rm)
 |.sl t o _ _::xs,n::ns=>(n,.sl t o)::XK xs ns
 |_::xs,ns=>XK xs ns
 |[],_=>[]
def XL:aa Gp->aa (Nat×Rm)->aa (Nat×Rm)
 |[],rs=>rs
 |(n,t,o,ns)::gs,rs=>(n,.aB (FM (shp t o) ns))::(XK (shp t o) ns++XL gs rs)
structure bF where
 ts:List (Nat×Tm)
 rs:List (Nat×Rm)
 gs:List Gp
def bF.St(C:bF):Type:=FK C.ts×JV C.gs (yV C.rs)
def bF.mk'(C:bF)(x:C.St):S:=⟨yU C.ts x.1,P6 C.gs C.rs x.2⟩
def bF.P8(C:bF)(σ:S):ah C.St:=match JT C.ts σ.t,P7 C.gs C.rs σ.m with
 |some x,some y=>some (x,y)
 |_,_=>none
def bF.rd(C:bF)(σ:S):ah C.St:=match C.P8 σ with
 |some x=>some x
 | none=>match kC.rd ⟨C.ts,XL C.gs C.rs⟩ σ with
  |some z=>C.P8 (kC.mk' ⟨C.ts,XL C.gs C.rs⟩ z)
  |none=>none
section
variable {P:Program} {w w':World} {w0:Wd} {B N:Nat} {aj aD:bJ} {ρ ρ':Nat->Loc} {σ:S} {a:Act} {m:Nat->ah aX}
def mA.inv{x:V}{xs ys:aa V}(k:mA (x :: xs) ys):∃ y C,ys=y :: C/\Wk x y/\mA xs C:=by
 obtain⟨D,E⟩:=k;cases ys with
 |nil=>simp at D
 |cons y C=>exact⟨y,C,rfl,E 0 x y rfl rfl,by simpa using D,λj a b I hb=>E (j+1) a b (by simpa using I) (by simpa using hb)⟩
def Wk.aek{x y:V}(h:Wk x y)(C:x.plain=true):y=x:=by
 cases h<;>first|rfl|cases C
def Wk.ael{x y:V}(h:Wk x y)(C:x.plain=false):y.plain=false:=by
 cases h<;>first|exact C|rfl
def XM:∀ (cs:aa Lf) (ns:aa Nat) (C ys:aa V),l7 m cs ns=some C -> mA C ys -> (yY ys ns).length=cs.length /\ ∀ (j:Nat) z,(yY ys ns)[j]?=some z -> cs[j]?=some z
 | [],[],C,ys,h,E=>by
  simp only[l7,kI]at h;subst h;have:ys=[]:=List.eq_nil_of_length_eq_zero E.1.symm;subst this;exact⟨rfl,λj z I=>by simp[yY]at I⟩
 | .v x :: cs,ns,C,ys,h,E=>by
  unfold l7 at h;cases D:x.plain with
  |false=>simp_all
  | true=>
   rw[D,aq]at h;split at h
   ·rename_i us O;injection h with h;subst h;obtain⟨y,U,rfl,Y,k2⟩:=E.inv;obtain rfl:=Y.aek D;obtain⟨e1,e2⟩:=XM cs ns us U O k2;simp only[yY,D,aq]
    refine⟨by simp[e1],λj z I=>?_⟩
    cases j with
    |zero=>simp_all
    |succ j=>simp_all
   ·cases h
 | .own [r] :: cs,n :: ns,C,ys,h,E=>by
  unfold l7 at h;cases hb:Nat.beq r n with
  |false=>simp_all
  | true=>
   rw[hb,aq]at h;obtain rfl:=cL hb;split at h
   ·rename_i y hy;cases D:y.plain with
    |true=>simp_all
    | false=>
     rw[D,av]at h;split at h
     ·rename_i us O;injection h with h;subst h;obtain⟨y',U,rfl,Y,k2⟩:=E.inv;have hq:=Y.ael D;obtain⟨e1,e2⟩:=XM cs ns us U O k2;simp only[yY,hq,av]
      refine⟨by simp[e1],λj z I=>?_⟩
      cases j with
      |zero=>simp_all
      |succ j=>simp_all
     ·cases h
   ·cases h
 |[],_::_,C,ys,h,_=>by simp[l7]at h
 |.dead::_,_,C,ys,h,_=>by simp[l7]at h
 |.own []::_,_,C,ys,h,_=>by simp[l7]at h
 |.own (_::_::_)::_,_,C,ys,h,_=>by simp[l7]at h
 |.own [_]::_,[],C,ys,h,_=>by simp[l7]at h
def XN{f:Nat -> ah aX}{k:Nat}{x:aX}:∀ (cs:aa Lf) (ns:aa Nat) (D ys:aa V),l7 m cs ns=some D -> mA D ys -> C4 ys ns f k=some x -> f k=some x \/ ∃ v y,m k=some (.sl v)/\x = .sl y/\Wk v y
 | [],[],D,ys,h,I,C=>by
  simp only[l7,kI]at h;subst h;have:ys=[]:=List.eq_nil_of_length_eq_zero I.1.symm;subst this;exact .inl C
 | .v x' :: cs,ns,D,ys,h,I,C=>by
  unfold l7 at h;cases E:x'.plain with
  |false=>simp_all
  | true=>
   rw[E,aq]at h;split at h
   next us O=>injection h with h;subst h;obtain⟨y,U,rfl,Y,k2⟩:=I.inv;obtain rfl:=Y.aek E;simp[C4,E]at C;exact XN cs ns us U O k2 C
   ·cases h
 | .own [r] :: cs,n :: ns,D,ys,h,I,C=>by
  unfold l7 at h;cases hb:Nat.beq r n with
  |false=>simp_all
  | true=>
   rw[hb,aq]at h;obtain rfl:=cL hb;split at h
   ·rename_i y hy;cases E:y.plain with
    |true=>simp_all
    | false=>
     rw[E,av]at h;split at h
     ·rename_i us O;injection h with h;subst h;obtain⟨y',U,rfl,Y,k2⟩:=I.inv;have hq:=Y.ael E;simp only[C4,hq,av]at C;cases hk:Nat.beq k r with
      | true=>
       rw[hk]at C;injection C with C;obtain rfl:=cL hk
       grind
      | false=>
       rw[hk]at C;exact XN cs ns us U O k2 C
     ·cases h
   ·cases h
 |[],_::_,D,ys,h,_,_=>by simp[l7]at h
 |.dead::_,_,D,ys,h,_,_=>by simp[l7]at h
 |.own []::_,_,D,ys,h,_,_=>by simp[l7]at h
 |.own (_::_::_)::_,_,D,ys,h,_,_=>by simp[l7]at h
 |.own [_]::_,[],D,ys,h,_,_=>by simp[l7]at h
def aem:∀ (gs:aa Gp) (rs:aa (Nat×Rm)) (y:JV gs (yV rs)),P7 gs rs m=some y -> ∀ k x,P6 gs rs y k=some x -> ∃ O,m k=some O /\ ∀ (w:World) (B:Nat) (aj:bJ) (ρ:Nat -> Loc),eV w B aj ρ k O -> eV w B aj ρ k x
 | [],rs,y,h,k,x,C=>by
  have h:FL rs m=some y:=h;have C:yW rs y k=some x:=C;rcases XI rs m y h k with e|⟨m',O,z,E,I,e3⟩
  ·simp_all
  ·rw[e3]at C;injection C with C;subst C;exact⟨O,E,λw B aj ρ D=>Rm.rI I D⟩
 | (n,t,o,ns) :: gs,rs,y,h,k,x,C=>by
  unfold P7 at h;split at h
  ·rename_i cs hm;split at h
   ·rename_i U jz;split at h
    ·rename_i x1 y1 h1 h2;injection h with h;subst h;have hw:=mY t o U x1 h1;simp only[P6]at C;cases Y:Nat.beq k n with
     | true=>
      rw[Y,aq]at C;injection C with C;subst C;obtain rfl:=cL Y;obtain⟨E,I⟩:=XM cs ns U _ jz hw
      refine⟨_,hm,λw B aj ρ D=>?_⟩
      cases D with
      |aB b off cells e _ us cu hl hh hs hc=>exact .aB b off cells e _ us cu hl hh (by rw[E];exact hs) λj z hz=>hc j z (I j z hz)
     | false=>
      rw[Y,av]at C;rcases XN cs ns U _ jz hw C with e|⟨v,y',E,rfl,I⟩
      ·exact aem gs rs y1 h2 k x e
      ·refine⟨_,E,λw B aj ρ D=>?_⟩
       cases D with
       |sl u _ cu D=>exact .sl u _ cu (D.wk I)
    ·cases h
   ·cases h
  ·cases h
def bF.aen{C:bF}{x:C.St}(h:C.P8 σ=some x)(hR:R w0 N σ a w):R w0 N (C.mk' x) a w:=by
 unfold bF.P8 at h;split at h
 ·rename_i u v I O;injection h with h;subst h;obtain⟨aj,ρ,hR⟩:=hR
  refine⟨aj,ρ,hR.below,hR.dI,λn y U=>?_,λk=>?_,hR.size,hR.defers,hR.fix,hR.dY⟩
  ·obtain⟨Y,D,E⟩:=aem C.gs C.rs v O n y U;exact E _ _ _ _ (hR.root n Y D)
  ·show RA _ _ _ _ (yU C.ts u k) _;rcases XH C.ts σ.t u I k with e | ⟨m,z,D,E⟩
   ·rw[e];trivial
   ·rw[E];exact Tm.rI D (hR.tmp k)
 ·cases h
def bF.rI{C:bF}{x:C.St}(h:C.rd σ=some x)(hR:R w0 N σ a w):R w0 N (C.mk' x) a w:=by
 unfold bF.rd at h;split at h
 next y D=>injection h with h;subst h;exact bF.aen D hR
 ·split at h
  next z E=>exact bF.aen h (kC.rI E hR)
  ·cases h
end
def C5:Exit->ah Nat
 |.normal=>some 0
 |.ret=>some 1
 |.exit n=>some (n+2)
 |_=>none
def XO:Nat->Exit
 |0=>.normal
 |1=>.ret
 |n+2=>.exit n
def wS{e:Exit}{n:Nat}(h:C5 e=some n):e=XO n:=by
 cases e<;>simp[C5]at h<;>subst h<;>rfl
def vh:aa (Nat×bF)->Type
 |[]=>Empty
 |(_,C)::r=>C.St⊕vh r
def P9:(l:aa (Nat×bF))->Nat->S->ah (vh l)
 |[],_,_=>none
 | (n,C) :: r,e,σ=>bif Nat.beq n e then (match C.rd σ with
  |some x=>some (.inl x)
  |none=>none)else (match P9 r e σ with
  |some x=>some (.inr x)
  |none=>none)
def XP{X:Type}:(l:aa (Nat×bF))->vh l->(Exit->S->ah X)->ah X
 |[],z,_=>nomatch z
 | (n,C) :: r,z,k=>match z with
  |.inl x=>k (XO n) (C.mk' x)
  |.inr z=>XP r z k
def iter{α β:Type}(step:α->ah (α⊕β)):Nat->α->ah β
 |0,_=>none
 | n+1,x=>match step x with
  |some (.inl y)=>iter step n y
  |some (.inr z)=>some z
  |none=>none
def FN(P:Program)(N:Nat)(Φ:fl)(Λ:pR)(body:Code)(C:bF)(D:aa (Nat×bF))(x:C.St):ah (C.St⊕vh D):=
 nh P N Φ Λ body (C.mk' x) λe σ=>match C5 e with
  | some 0=>(match C.rd σ with
   |some x=>some (.inl x)
   |none=>none)
  | some n=>(match P9 D n σ with
   |some x=>some (.inr x)
   |none=>none)
  |none=>none
def XQ{X:Type}(id:Nat)(k:Exit->S->ah X)(e:Exit)(σ:S):ah X:=
 match e with
 |.exit C=>if C=id then k .normal σ else k (.exit C) σ
 |e=>k e σ
def Qa(id:Nat)(C:bF)(D:aa (Nat×bF))(F:C.St->ah (C.St⊕vh D))(fuel:C.St->Nat):tU:=
 ⟨λX σ k=>match C.rd σ with
  | some x=>(match iter F (fuel x) x with
   |some z=>XP D z (XQ id k)
   |none=>none)
  |none=>none⟩
def oL:aa (Bool×TC)->Type
 |[]=>af
 |(_,t)::r=>T t×oL r
def l8:(l:aa (Bool×TC))->oL l->aa Pt
 |[],_=>[]
 |(b,t)::r,x=>(b,enc t 0 x.1)::l8 r x.2
def AY:(l:aa (Bool×TC))->aa Pt->ah (oL l)
 |[],[]=>some ()
 | (b,t) :: r,(C,D) :: ps=>bif b==C then (match dec t 0 D,AY r ps with
  |some x,some xs=>some (x,xs)
  |_,_=>none)else none
 |_,_=>none
def ir(ai:aa (Bool×TC))(ro:aa (Bool×TC×Nat))(F:oL ai->ah (jB ro)):jQ:=
 ⟨λX args k=>match AY ai args with
  | some x=>(match F x with
   |some y=>k (fL ro y)
   |none=>none)
  |none=>none⟩
def XR:Pt->A
 |(false,[x])=>.lf (.v x)
 |(true,xs)=>.agg (xs.map .v)
 |(false,.bool true::c::cs)=>.jW (c::cs)
 |(false,.bool false::.int .i64 (.ofNat g)::c::cs)=>.oC g (c::cs)
 |_=>.undef
def aeo(args:aa Pt):S:=⟨λk=>match args[k]? with
 |some p=>XR p
 |none=>.undef,λ_=>none⟩
def rJ{X:Type}(P:Program)(N:Nat)(Φ:fl)(Λ:pR)(code:Code)(C:Array ResultVar)(args:aa Pt)(k:gM->ah X):ah X:=
 nh P N Φ Λ code (aeo args) λe σ=>match C5 e with
  |some 0=>I0 P σ C k
  |some 1=>I0 P σ C k
  |_=>none
section
variable {P:Program} {w w':World} {w0:Wd} {B N:Nat} {aj aD:bJ} {ρ ρ':Nat->Loc} {σ:S} {a:Act} {X:Type} {d:Nat} {r:X} {o:Oper} {Φ:fl} {Λ:pR}
def aep:∀ (l:aa (Nat×bF)) (e:Nat) (z:vh l),P9 l e σ=some z->∀ (X:Type) (k:Exit->S->ah X),∃ D,XP l z k=k (XO e) D/\∀ a w,R w0 N σ a w->R w0 N D a w
 |[],e,z,h=>by cases h
 | (n,E) :: l,e,z,h=>by
  intro X k;unfold P9 at h;cases hb:Nat.beq n e with
  | true=>
   obtain rfl:=cL hb;rw[hb,aq]at h;split at h
   next x C=>injection h with h;subst h;exact⟨E.mk' x,rfl,λa w hR=>bF.rI C hR⟩
   ·cases h
  | false=>
   rw[hb,av]at h;split at h
   next x C=>injection h with h;subst h;exact aep l e x C X k
   ·cases h
def arZ{id:Nat}{body:Code}{E:bF}{Y:aa (Nat×bF)}{F:E.St -> ah (E.St⊕vh Y)}{fuel:E.St -> Nat}(eE:gF P Φ)(rK:rH P N Λ (occs body))(hF:∀ x,FN P N Φ Λ body E Y x=F x):CY P N (.block id (.loop body)) (Qa id E Y F fuel):=by
 intro X σ k r w0 h a w hR;simp only[Qa]at h;split at h
 ·rename_i x I;split at h
  ·rename_i z hz;refine wp_block ?_;have key:∀ (n:Nat) (x:E.St),iter F n x=some z -> ∀ (a:Act) (w:World),R w0 N (E.mk' x) a w -> ∀ (b:Frame) (O:aa Item) (cs:aa Frame),
     ∃e U w',Exit.inBlock id (λe U w'=>∃cW,k e cW=some r/\R w0 N cW U w') e U w'/\Arrives P (lone (b.at a (.code body::.inLoop body::O)) cs w) b O cs e U w':=by
    intro n
    induction n with
    |zero=>intro x I;simp[iter]at I
    | succ n ih=>
     intro x I a w hR b O cs;simp only[iter]at I;have lC:∃ y,FN P N Φ Λ body E Y x=some y/\(match y with | .inl y=>iter F n y=some z | .inr z'=>z'=z):=by
      rw[hF];split at I
      ·grind
      ·grind
      ·cases I
     obtain⟨y,hy,Qb⟩:=lC;unfold FN at hy;have hwp:=JR (w0:=w0) eE body _ _ hy rK a w hR;obtain⟨e,a1,w1,⟨ve,D,wL⟩,Qc⟩:=hwp b (.inLoop body::O) cs;split at D
     ·rename_i C;have C:=wS C;subst C;split at D
      next x1 AH=>injection D with D;subst D;obtain⟨e2,a2,w2,OO,ar0⟩:=ih x1 Qb a1 w1 (bF.rI AH wL) b O cs;exact⟨e2,a2,w2,OO,.of_steps (Steps.trans Qc (.one step_inLoop)) ar0⟩
      ·cases D
     ·rename_i n' cx C;have C:=wS C;split at D
      ·rename_i z1 JW;injection D with D;subst D;have Qb:z1=z:=Qb;subst Qb;obtain⟨σ2,pG,mF⟩:=aep (w0:=w0) (N:=N) Y n' z1 JW X (XQ id k);rw[pG]at h;rw[<- C]at h;refine⟨e,a1,w1,?_,?_⟩
       ·cases e with
        | exit id'=>
         simp only[XQ]at h;simp only[Exit.inBlock];split at h
         ·grind
         ·grind
        |_=>exact⟨σ2,h,mF a1 w1 wL⟩
       ·refine .pass (x:=.inLoop body) rfl (λ_ _=>.inl ?_) Qc
        intro e';rw[e']at C
        match n',cx,C with
        |0,cx,_=>exact cx rfl
        |1,_,C=>cases C
        |n+2,_,C=>cases C
      ·cases D
     ·cases D
   intro b O cs;obtain⟨e,U,w',hq,Qc⟩:=key (fuel x) x hz a w (bF.rI I hR) b O cs;exact⟨e,U,w',hq,.of_steps (.one step_loop) Qc⟩
  ·cases h
 ·cases h
def PV.wG{key:Nat->aa Nat}{b:Bool}{xs ys:aa V}{u:Value}(h:PV w B aj key (b,xs) u)(k:mA xs ys):PV w B aj key (b,ys) u:=by
 obtain⟨us,E,I,O⟩:=h
 refine⟨us,E,I.trans k.1,λj y C=>?_⟩
 have D:j<xs.length:=by rw[k.1];exact(eO.1 C).1
 obtain⟨v,U,Y⟩:=O j _ (bT D);exact⟨v,U,Y.wk (k.2 j _ y (bT D) C)⟩
def Aw.wG{cs C:aa V}{u:Value}(h:Aw w cs u)(k:mA cs C):Aw w C u:=by
 obtain⟨b,off,I,hb,O⟩:=h
 refine⟨b,off,I,hb,λj y D=>?_⟩
 have E:j<cs.length:=by rw[k.1];exact(eO.1 D).1
 obtain⟨v,U,Y⟩:=O j _ (bT E);exact⟨v,U,Y.wk (k.2 j _ y (bT E) D)⟩
def PA.wG{b:Bool}{xs ys:aa V}{u:Value}(h:PA w (b,xs) u)(k:mA xs ys):PA w (b,ys) u:=by
 cases h with
 |v _ _ h=>exact .v _ _ (h.wG k)
 | p c cs _ h=>
  obtain⟨y,E,rfl,C,D⟩:=k.inv;cases C;have h:=h.wG D;obtain⟨O,fM,rfl,_,_⟩:=D.inv;exact .p _ _ _ h
 | f g c cs u h=>
  obtain⟨y,E,rfl,C,D⟩:=k.inv;cases C;obtain⟨y,E,rfl,C,I⟩:=D.inv;cases C;have h:=h.wG I;obtain⟨O,fM,rfl,_,_⟩:=I.inv;exact .f _ _ _ _ h
def PA.ra{p:Pt}{u:Value}(h:PA w p u)(D:∀ y∈p.2,y.aI=true):RA w w.heap.size (λ_=>none) ρ (XR p) u:=by
 have Y:∀ {cs:aa V} {u:Value},Aw w cs u -> (∀ y∈cs,y.aI=true) -> RF w w.heap.size (λ_=>none) cs u:=by
  rintro cs u ⟨b,off,rfl,hb,E⟩ D
  refine⟨b,off,rfl,hb,rfl,λj x hx=>⟨D x (iB hx),E j x hx⟩⟩
 cases h with
 | v _ _ h=>
  obtain⟨us,hu,hs,E⟩:=h;obtain⟨b,xs⟩:=p;cases b with
  | true=>
   refine⟨us,hu,by rw[fN];exact hs,λi y C=>?_⟩
   rw[fh]at C;cases I:xs[i]? with
   |none=>simp_all
   | some z=>
    rw[I]at C;injection C with C;subst C;obtain⟨v,O,U⟩:=E i z I;exact⟨v,O,D z (iB I),U⟩
  | false=>
   subst hu;have h1:=hs.symm;obtain⟨x,rfl⟩:=List.length_eq_one_iff.1 h1;obtain⟨v,O,U⟩:=E 0 x rfl;have:u=v:=by simpa using O
   subst this;exact⟨D x (by simp),U⟩
 |p c cs _ h=>exact Y h λy C=>D y (.tail _ C)
 |f g c cs u h=>exact⟨u,rfl,Y h λy C=>D y (.tail _ (.tail _ C))⟩
def aeq:∀ (l:aa (Bool×TC)) (ps:aa Pt) (x:oL l),AY l ps=some x -> (l8 l x).length=ps.length /\ ∀ (i:Nat) p,(l8 l x)[i]?=some p -> ∃ q,ps[i]?=some q/\q.1=p.1/\mA q.2 p.2
 |[],[],x,h=>⟨rfl,λi p C=>by simp[l8]at C⟩
 | (b,t) :: r,(D,E) :: ps,x,h=>by
  unfold AY at h;cases hb:b==D with
  |false=>simp_all
  | true=>
   rw[hb,aq]at h;have hb:b=D:=by simpa using hb
   subst hb;split at h
   ·rename_i y ys I O;injection h with h;subst h;obtain⟨U,Y⟩:=aeq r ps ys O
    refine⟨by simp[l8,U],λi p C=>?_⟩
    cases i with
    |zero=>simp[l8]at C;subst C;exact⟨(b,E),rfl,rfl,mY t 0 E y I⟩
    |succ i=>exact Y i p (by simpa [l8]using C)
   ·cases h
 |[],_::_,x,h=>by simp[AY]at h
 |_::_,[],x,h=>by simp[AY]at h
def nj(l:aa (Bool×TC×Nat)):Bool:=l.all λp=>Nat.ble (full p.2.1) p.2.2
def aer(t:TC)(g:Nat)(x:T t)(h:full t <= g):(enc t g x).all V.loc=true:=by
 rw[ck];intro y D;have E:=zZ t g x y D;have hl:=Oo t g x y D;cases y with
 | sl I C q l=>
  have O:C=g:=by simpa [V.gr]using E
  subst O;have hl:=dj hl;show Ax I C=true
  match C,h with
  |0,h=>omega
  |1,h=>omega
  | n+2,h=>
   simp only[Ax,eN];left;exact mT (by omega)
 |_=>rfl
def XS:∀ (l:aa (Bool×TC×Nat)) (ps:aa Pt) (x:jB l),nj l=true -> rD l ps=some x -> (uX l x).length=ps.length /\ ∀ (nm:Nat -> Nat) (off:Nat) (C:aa Value),kN w B aj nm off ps C -> kN w B aj nm off (uX l x) C
 |[],[],x,_,h=>⟨rfl,λnm off C D=>D⟩
 | [(b,t,g)],[(E,C)],x,O,h=>by
  unfold rD at h;cases hb:b==E with
  |false=>rw[hb]at h;cases h
  | true=>
   rw[hb]at h;have h:dec t g C=some x:=h;have hb:b=E:=by simpa using hb
   subst hb;have Y:full t <= g:=by simpa [nj]using O
   refine⟨rfl,λnm off us D=>?_⟩
   match us,D with
   |[u],⟨⟨_,I⟩,_⟩=>exact⟨⟨aer t g x Y,I.wG (mY t g C x h)⟩,trivial⟩
 | (b,t,g) :: q :: r,(E,C) :: ps,x,O,h=>by
  unfold rD at h;cases hb:b==E with
  |false=>grind
  | true=>
   rw[hb,aq]at h;have hb:b=E:=by simpa using hb
   subst hb;have U:full t <= g/\nj (q :: r)=true:=by
    simp only[nj,List.all_cons,aP]at O ⊢;simp_all
   split at h
   ·rename_i y ys I h2;injection h with h;subst h;obtain⟨k1,k2⟩:=XS (q :: r) ps ys U.2 h2
    refine⟨by simp[uX,k1],λnm off us D=>?_⟩
    match us,D with
    | u :: us,⟨⟨_,hp⟩,tJ⟩=>
     have hlen:=(mY t g C y I).1;refine⟨⟨aer t g y U.1,hp.wG (mY t g C y I)⟩,?_⟩;simp_all
   ·cases h
 |[],_::_,x,_,h=>by simp[rD]at h
 |[_],[],x,_,h=>by simp[rD]at h
 |[_],_::_::_,x,_,h=>by simp[rD]at h
 |_::_::_,[],x,_,h=>by simp[rD]at h
def aes{l:aa (Bool×TC×Nat)}{E:gM}{x:jB l}(O:nj l=true)(h:m8 l E=some x){nm:Nat -> Nat}{v:Value}(D:rC w B aj nm E v):rC w B aj nm (fL l x) v:=by
 cases E with
 | one p=>
  obtain⟨C,I⟩:=XS (w:=w) (B:=B) (aj:=aj) l [p] x O h;have D:kN w B aj nm 0 [p] [v]:=D;have:=I nm 0 [v] D;unfold fL
  match hm:uX l x,C,this with
  |[q],_,this=>exact this
  |[],C,_=>cases C
  |_::_::_,C,_=>simp at C
 | fO ps=>
  simp only[m8]at h;cases hb:Nat.beq ps.length 1 with
  |true=>simp_all
  | false=>
   rw[hb,av]at h;obtain⟨C,I⟩:=XS (w:=w) (B:=B) (aj:=aj) l ps x O h;obtain⟨U,e,D⟩:=D;have:=I nm 0 _ D;unfold fL
   match hm:uX l x,C,this with
   |[q],C,this=>simp_all
   |[],_,this=>exact⟨U,e,this⟩
   |_::_::_,_,this=>exact⟨U,e,this⟩
def aet:∀ (l:aa (Bool×TC)) (x:oL l),(l8 l x).length=l.length
 |[],x=>rfl
 |(b,t)::l,x=>by simp[l8,aet l]
def aeu:∀ (l:aa (Bool×TC)) (x:oL l) (j:Nat) (p:Pt),(l8 l x)[j]?=some p->∀ y∈p.2,y.aI=true
 |[],x,j,p,C,_,_=>by simp[l8]at C
 | (b,t) :: l,x,0,p,C,y,D=>by
  simp[l8]at C;subst C;obtain⟨i,hi⟩:=List.mem_iff_getElem?.1 D;exact sy t 0 x.1 (by omega) i y hi
 |(b,t)::l,x,j+1,p,C,y,D=>aeu l x.2 j p (by simpa [l8]using C) y D
def JX{f:Nat}{fn:Func}{code:Code}{vi:aa Pt}{ro:aa (Bool×TC×Nat)}{y:jB ro}(hf:P.funcs[f]?=some fn)(hb:fn.body=some code)(hN:fn.ntmps=N)(U:vi.length <= N)(fG:nj ro=true)
  (eE:gF P Φ) (rK:rH P N Λ (occs code)) (ar1:∀(j:Nat) p,vi[j]?=some p -> ∀y∈p.2,y.aI=true) (I:rJ P N Φ Λ code fn.results vi (m8 ro)=some y) (nm:Nat -> Nat) (w:World) (cE:Array Value) (Y:rB w vi cE) (hQ:Hd w (λ_=>none)):
  Calls P f cE w λe w'=>∃v aD,e = .returned v/\Below w.heap.size w w'/\(∀b k,aD b=some k -> w.heap.size <= b/\b<w'.heap.size/\k≠[])/\rC w' w.heap.size aD nm (fL ro y) v:=by
 have U:cE.size <= N:=by rw[Y.1];exact U
 refine calls_of_wp hf hb ?_;unfold rJ at I;have hR:R (.of w hQ) N (aeo vi) { tmps:=cE++Array.replicate (fn.ntmps-cE.size) undef,defers:=[] } w:=by
  refine⟨λ_=>none,λ_=>.aB 0 0,.of (Below.refl w.heap.size w) (dc _),(λb k D=>by cases D),(λn y I=>by cases I),λj=>?_,by simp[hN];omega,rfl,(λr l h=>by cases h),(λ_ _=>rfl)⟩
  show RA w w.heap.size _ _ (match vi[j]? with|some p=>XR p|none=>.undef) _;cases hp:vi[j]? with
  |none=>trivial
  | some p=>
   obtain⟨u,hu,wH⟩:=Y.2 j p hp;have hj:=(jU.1 hu).1;have e:(cE++Array.replicate (fn.ntmps-cE.size) undef).getD j undef=u:=by rw[jv,Array.getElem?_append_left hj,hu];rfl
   rw[e];exact wH.ra (ar1 j p hp)
 refine wp_mono (JR (w0:=.of w hQ) eE code _ _ I rK _ w hR) λe O w' C=>?_
 obtain⟨cW,D,aj,ρ,E⟩:=C;have fin:I0 P cW fn.results (m8 ro)=some y -> O.defers=[] /\ ∃ v,(results fn O.tmps).run P w' = .ok v w' /\ ∃ AZ aD,Ending.returned v=Ending.returned AZ/\Below w.heap.size w w'/\(∀ b k,aD b=some k -> w.heap.size <= b/\b<w'.heap.size/\k≠[])/\rC w' w.heap.size aD nm (fL ro y) AZ:=by
  intro XT;obtain⟨res,mG,cH⟩:=aps XT;obtain⟨v,aD,h1,h2,h3⟩:=cH aj ρ O w' E nm;exact⟨E.defers,v,h1,v,aD,rfl,⟨E.below.os,E.below.tape,E.below.output,E.below.size,λk D=>E.below.block k D rfl⟩,λb k hb=>⟨(h2 b k hb).1.resolve_right (λh=>h rfl),(h2 b k hb).2⟩,aes fG mG h3⟩
 split at D
 next C=>have C:=wS C;subst C;exact fin D
 next C=>have C:=wS C;subst C;exact fin D
 ·cases D
def ar2{ai:aa (Bool×TC)}{args:aa Pt}{x:oL ai}{cE:Array Value}(E:AY ai args=some x)(C:rB w args cE):rB w (l8 ai x) cE:=by
 obtain⟨I,O⟩:=aeq ai args x E
 refine⟨C.1.trans I.symm,λj p U=>?_⟩
 obtain⟨q,Y,D,OO⟩:=O j p U;obtain⟨u,hu,wH⟩:=C.2 j q Y;refine⟨u,hu,?_⟩;obtain⟨b,ys⟩:=p;obtain⟨b',xs⟩:=q;simp only at D;subst D;exact wH.wG OO
def XU{f:Nat}{ai:aa (Bool×TC)}{ro:aa (Bool×TC×Nat)}{F:oL ai->ah (jB ro)}(h:∀ x y,F x=some y->∀ (nm:Nat->Nat) (w:World) (cE:Array Value),rB w (l8 ai x) cE->Hd w (λ_=>none)->
  Calls P f cE w λe w'=>∃v aD,e = .returned v/\Below w.heap.size w w'/\(∀b k,aD b=some k->w.heap.size<=b/\b<w'.heap.size/\k≠[])/\rC w' w.heap.size aD nm (fL ro y) v):jl P f (ir ai ro F):=by
 refine⟨λargs X Y k g=>?_,λargs U C nm w cE D E=>?_⟩
 ·unfold ir;dsimp only;split
  ·split<;>rfl
  ·rfl
 ·simp only[ir]at C;split at C
  ·rename_i x I;split at C
   next y O=>injection C with C;subst C;exact h x y O nm w cE (ar2 I D) E
   ·cases C
  ·cases C
def ar3{f:Nat}{fn:Func}{code:Code}{ai:aa (Bool×TC)}{ro:aa (Bool×TC×Nat)}{F:oL ai->ah (jB ro)}(C:P.funcs[f]?=some fn)(hb:fn.body=some code)(D:fn.ntmps=N)(E:(fn.name == "runtime.NumGoroutine")=false)(I:Nat.ble ai.length N=true)(O:nj ro=true)
  (U:gF P Φ) (Y:rH P N Λ (occs code)) (hF:∀x,rJ P N Φ Λ code fn.results (l8 ai x) (m8 ro)=F x):enters P f/\jl P f (ir ai ro F):=
 ⟨⟨fn,C,E,by rw[hb];rfl⟩,XU λx y hy nm w cE sJ hQ=>JX C hb D (by rw[aet];exact dj I) O U Y (aeu ai x) ((hF x).trans hy) nm w cE sJ hQ⟩
def ar4{f:Nat}{fn:Func}{code:Code}{t:TC}{g:Nat}{F:aa (T t)->ah (aa (T t))}(E:P.funcs[f]?=some fn)(hb:fn.body=some code)(O:fn.ntmps=N)(JY:(fn.name == "runtime.NumGoroutine")=false)(JZ:Nat.ble 1 N=true)(U:nj [(false,.sl t,g)]=true)
  (Y:gF P Φ) (rK:rH P N Λ (occs code)) (hF:∀x:aa (T t),rJ P N Φ Λ code fn.results [(false,[.sl t 0 false x])] (m8 [(false,.sl t,g)])=F x)
  (h0:rJ P N Φ Λ code fn.results [(false,[.nil])] (m8 [(false,.sl t,g)])=some ([]:aa (T t))) (h1:rJ P N Φ Λ code fn.results [(false,[.sl t 0 true []])] (m8 [(false,.sl t,g)])=some ([]:aa (T t))):
  enters P f/\jl P f (ir [(false,.sl t)] [(false,.sl t,g)] λx=>bif kM x.1 then some ([]:aa (T t))else F x.1):=by
 refine⟨⟨fn,E,JY,by rw[hb];rfl⟩,XU λx y D nm w cE I hQ=>?_⟩
 obtain⟨l,_⟩:=x;have I:rB w [(false,[.sl t 0 false l])] cE:=I;have hle:1<=N:=dj JZ;have Qd:∀ (v:V),v.aI=true->∀ (j:Nat) p,([(false,[v])]:aa Pt)[j]?=some p->∀ y∈p.2,y.aI=true:=by
  intro v hv j p C y D;rcases j with _|j
  ·injection C with C;subst C;rw[jH.1 D];exact hv
  ·cases C
 obtain⟨u,hu,C⟩:=I.2 0 _ rfl;obtain⟨us,e,_,hv⟩:=C.pv;have e:us = #[u]:=e;subst e;obtain⟨v,g1,hr⟩:=hv 0 _ rfl;have g1:u=v:=by simpa using g1
 subst g1;have one:∀ v:V,RV w w.heap.size (λ_=>none) [] v u->rB w [(false,[v])] cE:=λv hr=>⟨I.1,λj p C=>by
  rcases j with _|j
  ·injection C with C;subst C;exact⟨u,hu,.v _ _ ⟨#[u],rfl,rfl,λi x hx=>by
    rcases i with _|i
    ·injection hx with hx;subst hx;exact⟨u,rfl,hr⟩
    ·cases hx⟩⟩
  ·cases C⟩
 cases l with
 |cons a l=>exact JX (vi:=[(false,[.sl t 0 false (a::l)])]) E hb O hle U Y rK (Qd _ rfl) ((hF _).trans D) nm w cE I hQ
 | nil=>
  have D:some ([]:aa (T t))=some y:=D;injection D with D;subst D;cases hr with
  |fq=>exact JX (vi:=[(false,[.nil])]) E hb O hle U Y rK (Qd _ rfl) h0 nm w cE (one _ (.nil _)) hQ
  |gy _ _ _ A c ho=>exact JX (vi:=[(false,[.sl t 0 true []])]) E hb O hle U Y rK (Qd _ rfl) h1 nm w cE (one _ (.gL _ _ _ _ _ ho)) hQ
  |aI _ _ _ qn l b off cap us ho hl E8 hB jM hc qv=>exact JX (vi:=[(false,[.sl t 0 true []])]) E hb O hle U Y rK (Qd _ rfl) h1 nm w cE (one _ (.gL _ _ _ _ _ ho)) hQ
end
def J0(N:Nat)(σ:S)(t:Nat):S:=match σ.t t with
 | .view [q] s 0 j=>bif Nat.blt t N then (match σ.m q with
  |some (.sl (.sl tc (o+2) C l))=>bif Nat.beq (full tc) 0 then (((σ.drop q).drop t).root t (.sl (.sl tc 2 false (l.take j)))).set t (.lf (.own [t]))else σ
  |_=>σ)else σ
 |_=>σ
def wT(N:Nat)(σ:S):aa ResultVar->S
 |[]=>σ
 |.tmp t::r=>wT N (J0 N σ t) r
 |_::r=>wT N σ r
def C6{X:Type}(P:Program)(N:Nat)(Φ:fl)(Λ:pR)(code:Code)(C:Array ResultVar)(D:aa In)(args:aa Ar)(k:aa In->gM->ah X):ah X:=
 nh P N Φ Λ code (yB D args) λe σ=>match C5 e with
  |some 0=>I5 P (wT N σ C.toList) C D k
  |some 1=>I5 P (wT N σ C.toList) C D k
  |_=>none
section
variable {P:Program} {w w':World} {w0:Wd} {B N:Nat} {aj aD:bJ} {ρ ρ':Nat->Loc} {σ:S} {a:Act} {X:Type} {d:Nat} {r:X} {o:Oper} {Φ:fl} {Λ:pR}
def Rl.J0{t:Nat}(h:Rl w0 N aj ρ σ a w):∃ aD ρ',Rl w0 N aD ρ' (Proofs.YtdfkhfiglknaoaaGreat.J0 N σ t) a w:=by
 unfold Proofs.YtdfkhfiglknaoaaGreat.J0;split
 ·rename_i q s j ht;cases hN:Nat.blt t N with
  |false=>exact⟨aj,ρ,h⟩
  | true=>
   have hN:t<N:=by have:=dj hN;omega
   rw[aq];split
   ·rename_i tc g qn l hm;cases Y:Nat.beq (full tc) 0 with
    |false=>exact⟨aj,ρ,h⟩
    | true=>
     have Y:=cL Y;rw[aq];have hv:=h.tmp t;rw[ht]at hv;obtain⟨A,n,c,mB,_,hj,hu⟩:=hv;have ia:sliced A 0 j c s = .slice A j c:=by cases A<;>simp[sliced,Addr.add]
     rw[ia]at hu;let D:bJ:=λb=>match aj b with
      |some k=>bif dZ q k then (bif Nat.beq k.length 1 then some [t]else none)else some k
      |none=>none
     have hrel:Rel q aj D:=⟨h.Cr,λb hb=>by simp[D,hb],λb k hb C=>by simp[D,hb,C]⟩
     have h1:=h.rel hrel (λb k C=>by
      simp only[D]at C;cases hl:aj b with
      |none=>rw[hl]at C;cases C
      | some k'=>
       rw[hl]at C;simp only at C;refine⟨⟨_,rfl⟩,?_⟩;cases hq:dZ q k' with
       | true=>
        rw[hq,aq]at C;cases hlen:Nat.beq k'.length 1 with
        |true=>rw[hlen,aq]at C;injection C with C;rw[<- C];simp
        |false=>rw[hlen,av]at C;cases C
       | false=>
        rw[hq,av]at C;injection C with C;subst C;exact(h.dI b k' hl).2.2)
     have fG:=h.root q _ hm;generalize I:aX.sl (.sl tc (g+2) qn l)=z at fG;cases fG with
     |aB=>cases I
     |mp=>cases I
     |gh=>cases I
     | sl v y cu O=>
      injection I with I;subst I;simp only[dn,cu]at mB;injection mB with mB;subst mB;have hn:n=l.length:=by cases O<;>rfl
      have Wq:RV w w0.heap.size D [t] (.sl tc 2 false (l.take j)) (.slice A j c):=by
       cases O with
       | fq=>
        have:j=0:=by simpa using hj
        subst this;exact .fq _ _ _
       |gy _ _ _ _ _ ho=>omega
       |gL _ _ _ _ _ ho=>omega
       |aI _ _ _ _ _ _ _ _ _ ho=>omega
       | own _ _ _ _ _ b cap cs us qz hh hs Cq wg hc O=>
        have hl:(l.take j).length=j:=by rw[jf];omega
        have hle:∀i (hi:i<(l.take j).length),∃CQ:i<l.length,(l.take j)[i]=l[i]:=λi hi=>⟨by omega,List.getElem_take⟩
        have:=RV.own (w:=w) (B:=w0.heap.size) (aj:=D) [t] tc 0 false (l.take j) b c cs us (by simp[D,qz,dZ]) hh hs (by omega) ⟨wg.1,λh=>by cases h⟩ (λi hi k x U=>by
         obtain⟨CQ,e⟩:=hle i hi;rw[e,Fb tc Y 0]at U;exact hc i CQ k x U) (λi hi k x U=>by
         obtain⟨CQ,e⟩:=hle i hi;rw[e,Fb tc Y 0]at U;exact(O i CQ k x U).uI (zY tc g _ Y x (iB U)))
        rw[hl]at this;exact this
      have hrm:E9 w w D D t:=⟨dc _,λ_ _ _=>rfl,λ_ _=>rfl,h1.Cr⟩
      have E:=h1.Ai (d:=t) (ρ':=cc ρ t (.eU (.slice A j c))) (x:=.sl (.sl tc 2 false (l.take j))) (h.dY t (.inl hN)) ⟨rfl,rfl,rfl,dc _,λ_ _ _=>rfl⟩ hrm (λb k hb C=>by
       have:=(h1.dI b k C).2.1;omega) (λr O=>cN _ _ _ O) (.sl _ _ (cm _ _ _) Wq)
      refine⟨_,_,E.below,E.dI,E.root,λk=>?_,E.size,E.defers,E.fix,E.dY⟩
      show RA w w0.heap.size D _ (cc _ t _ k) _;by_cases C:k=t
      ·subst C;rw[cm,hu];exact⟨rfl,by simp only[dn,cm]⟩
      ·rw[cN _ _ _ C];exact E.tmp k
   ·exact⟨aj,ρ,h⟩
 ·exact⟨aj,ρ,h⟩
def Rl.wT:∀ (l:aa ResultVar) (σ:S) (aj:bJ) (ρ:Nat -> Loc),Rl w0 N aj ρ σ a w -> ∃ aD ρ',Rl w0 N aD ρ' (Proofs.YtdfkhfiglknaoaaGreat.wT N σ l) a w
 |[],_,aj,ρ,h=>⟨aj,ρ,h⟩
 | .tmp t :: r,_,_,_,h=>by
  obtain⟨C,D,E⟩:=h.J0;exact Rl.wT r _ C D E
 |.cell _ _::r,_,aj,ρ,h=>Rl.wT r _ aj ρ h
def fnM_core{f:Nat}{fn:Func}{code:Code}{C:aa In}{args:aa Ar}{k:aa In -> gM -> ah X}(hf:P.funcs[f]?=some fn)(hb:fn.body=some code)(hN:fn.ntmps=N)(J1:N <= 20000)(hlen:args.length <= N)
  (eE:gF P Φ) (rK:rH P N Λ (occs code)) (h:C6 P N Φ Λ code fn.results C args k=some r) (nm:Nat -> Nat) (w:World) (aj:bJ) (ρ:Nat -> Loc) (cE:Array Value)
  (hE:qF w w.heap.size aj ρ 0 C) (mE:∀b k,aj b=some k -> b<w.heap.size/\k≠[]) (gx:cE.size=args.length) (hv:∀i,RA w w.heap.size aj ρ ((yB C args).t i) (cE.getD i undef)) (U:Hd w aj):
  Calls P f cE w λe w'=>∃v aD outs D,k outs D=some r/\e = .returned v/\lz ⟨w,aj,λ_=>none,U,λ_ _=>rfl⟩ w w'/\(∀b k,aD b=some k -> (w.heap.size <= b \/ aj b≠none)/\b<w'.heap.size/\k≠[])/\rC w' w.heap.size aD nm D v/\sL w w' aD ρ nm 0 D.len C outs:=by
 let W:Wd:=⟨w,aj,λr=>if 20000 <= r/\r<60000 then some (ρ r)else none,U,λr hr=>bk⟩
 refine calls_of_wp hf hb ?_;unfold C6 at h;have hR:R W N (yB C args) { tmps:=cE++Array.replicate (fn.ntmps-cE.size) undef,defers:=[] } w:=by
  refine⟨aj,ρ,.of (Below.refl w.heap.size w) (dc _),λb k hb=>⟨.inr (by rw[show W.L b=aj b from rfl,hb];simp),mE b k hb⟩,qF.roots C 0 _ hE (λr x hx=>by cases hx),λj=>?_,by simp[hN];omega,rfl,λr l hr=>?_,λr hr=>?_⟩
  ·by_cases hj:j<cE.size
   ·have e:(cE++Array.replicate (fn.ntmps-cE.size) undef).getD j undef=cE.getD j undef:=by
     rw[jv,Array.getElem?_append_left hj,jv]
    rw[e];exact hv j
   ·have e:(yB C args).t j = .undef:=by
     simp only[yB,qg (by omega:args.length <= j)]
    rw[e];trivial
  ·grind
  ·grind
 refine wp_mono (JR (w0:=W) eE code _ _ h rK _ w hR) λe Y w' E=>?_
 obtain⟨cW,O,I2,wC,I⟩:=E;have fin:I5 P (Proofs.YtdfkhfiglknaoaaGreat.wT N cW fn.results.toList) fn.results C k=some r -> Y.defers=[] /\ ∃ v,(results fn Y.tmps).run P w' = .ok v w' /\ ∃ AZ aD outs D,k outs D=some r/\Ending.returned v=Ending.returned AZ/\lz ⟨w,aj,λ_=>none,U,λ_ _=>rfl⟩ w w'/\(∀ b k,aD b=some k -> (w.heap.size <= b \/ aj b≠none)/\b<w'.heap.size/\k≠[])/\rC w' w.heap.size aD nm D AZ/\sL w w' aD ρ nm 0 D.len C outs:=by
  intro XT;obtain⟨outs,D,hko,cH⟩:=apu (w0:=W) rfl (λr h1 h2=>bg ⟨h1,h2⟩) (qF.V0 C 0 hE) XT;obtain⟨fe,gi,mF⟩:=Rl.wT _ cW I2 wC I;obtain⟨v,aD,h1,h2,h3,h4⟩:=cH fe gi Y w' mF nm;exact⟨I.defers,v,h1,v,aD,outs,D,hko,rfl,⟨I.below.os,I.below.tape,I.below.output,I.below.size,λk O=>I.below.block k O⟩,h2,h3,h4⟩
 split at O
 next E=>have E:=wS E;subst E;exact fin O
 next E=>have E:=wS E;subst E;exact fin O
 ·cases O
end
def sY:(l:aa (Bool×TC×Nat))->aa In->ah (sM l)
 |[],[]=>some ()
 | (true,t,g) :: r,.aB cs :: is=>match dec t g cs,sY r is with
  |some x,some xs=>some (x,xs)
  |_,_=>none
 | (false,t,g) :: r,.sl y :: is=>match (bif Nat.ble 1000000 g then (bif y.lu then none else y.fW t (g+2))else bif y.lu then y.fW t (g+2)else none),sY r is with
  |some x,some xs=>some (x,xs)
  |_,_=>none
 |_,_=>none
def Qe:aa In->aa In->aa In->Prop
 |[],[],[]=>True
 |.aB I::C,.aB cs::r,.aB fM::D=>(mA cs fM/\I.map (λv=>(v.plain,v.aI))=fM.map (λv=>(v.plain,v.aI))/\∀x∈fM,x.lu=true)/\Qe C r D
 |.sl _::C,.sl y::r,.sl E::D=>(Wk y E/\(y = .nil->E = .nil))/\Qe C r D
 |_,_,_=>False
def Qf:∀ (ps:aa PK) (C:mH ps) (is:aa In) (x:sM (fk ps)),sY (fk ps) is=some x -> Qe (oI ps C) is (jR (fk ps) x)
 |[],_,[],x,_=>trivial
 |[],_,_::_,x,h=>by simp[sY,fk]at h
 |.v b t::ps,C,is,x,h=>Qf ps C.2 is x h
 |.p t g off::ps,C,[],x,h=>by simp[sY,fk]at h
 |.s t g::ps,C,[],x,h=>by simp[sY,fk]at h
 |.p t g off::ps,C,.sl _::_,x,h=>by simp[sY,fk]at h
 |.s t g::ps,C,.aB _::_,x,h=>by simp[sY,fk]at h
 | .p t g off :: ps,C,.aB cs :: is,x,h=>by
  have h:sY ((true,t,g)::fk ps) (.aB cs::is)=some x:=h;unfold sY at h;split at h
  next y ys D I=>injection h with h;subst h;exact⟨⟨mY t g cs y D,aou t g C.1 y,λz O=>US t g y z O⟩,Qf ps C.2 is ys I⟩
  ·cases h
 | .s t g :: ps,C,.sl y :: is,x,h=>by
  have h:sY ((false,t,g)::fk ps) (.sl y::is)=some x:=h;unfold sY at h;split at h
  ·rename_i z U D I;injection h with h;subst h;refine⟨?_,Qf ps C.2 is U I⟩;cases hb:Nat.ble 1000000 g with
   | true=>
    cases E:y.lu with
    |true=>simp_all
    | false=>
     have:y = .nil:=by cases y<;>first|rfl|cases E
     subst this;exact⟨.same _,λ_=>rfl⟩
   | false=>
    cases E:y.lu with
    |false=>simp_all
    | true=>
     rw[hb,E]at D;exact⟨V.Io D,λe=>by subst e;cases E⟩
  ·cases h
def sL.typed{w w':World}{aD:bJ}{ρ:Nat -> Loc}{nm:Nat -> Nat}:∀ (E:aa In) (i pos:Nat) (outs U:aa In),sL w w' aD ρ nm i pos E outs -> Qe E outs U -> I4 w w' aD ρ nm i pos E U
 |[],i,pos,[],[],h,C=>trivial
 | .aB cs0 :: E,i,pos,.aB cs1 :: outs,.aB cs2 :: U,h,C=>by
  obtain⟨⟨b,off,cells,yD,e,e',h1,h2,h3,h4,h5,h6,h7⟩,hr⟩:=h;obtain⟨⟨Y,XV,hnn⟩,qC⟩:=C
  refine⟨⟨b,off,cells,yD,e,e',h1,h2,h3,h4,by rw[<- Y.1];exact h5,by rw[<- Y.1];exact h6,λj x hx=>?_⟩,sL.typed E _ _ outs U hr qC⟩
  have hj:j<cs1.length:=by rw[Y.1];exact(eO.1 hx).1
  obtain⟨u,hu,hc⟩:=h7 j _ (bT hj);have C:=Y.2 j _ x (bT hj) hx;have J2:∀ I,cs0[j]?=some I -> I.plain=x.plain/\I.aI=x.aI:=by
   intro I h0;have e1:(cs0.map (λv=>(v.plain,v.aI)))[j]?=(cs2.map (λv=>(v.plain,v.aI)))[j]?:=by rw[XV]
   grind
  have hxn:=hnn x (iB hx);generalize cs1[j]=y at hc C;refine⟨u,hu,?_⟩;rcases hc with ⟨D,O⟩|⟨D,O,I,c3,c4⟩|⟨D,O,c6,⟨I,c3,c4⟩,c5⟩|⟨D,O⟩
  ·cases C with
   |same=>grind
   |nil t o=>cases D
   |q t o l=>cases D
   |gr=>cases D
  ·subst D O;have hf:x.aI=false:=by rw[<- (J2 I c3).2];exact c4
   cases C with
   |same=>cases hxn
   |nil t o=>exact .inr (.inr ⟨hf,.fq _ _ _⟩)
  ·cases C with
   |same=>grind
   |nil t o=>cases c6
   |q t o l=>exact .inr (.inl ⟨rfl,O,c5⟩)
   |gr t o o' qn l h1 h2=>simp[V.aI]at O;omega
  ·have hf:=C.V6 D;exact .inr (.inr ⟨hf,O.wk C⟩)
 | .sl y0 :: E,i,pos,.sl y1 :: outs,.sl y2 :: U,h,C=>by
  obtain⟨h,hr⟩:=h;obtain⟨⟨Y,hn⟩,qC⟩:=C;exact⟨h.imp hn (λ⟨v,h1,h2⟩=>⟨v,h1,h2.wk Y⟩),sL.typed E _ _ outs U hr qC⟩
 |[],_,_,_::_,_,h,_=>h.elim
 |[],_,_,[],_::_,_,h=>h.elim
 |.aB _::_,_,_,[],_,h,_=>h.elim
 |.sl _::_,_,_,[],_,h,_=>h.elim
 |.aB _::_,_,_,.sl _::_,_,h,_=>h.elim
 |.sl _::_,_,_,.aB _::_,_,h,_=>h.elim
 |.aB _::_,_,_,.aB _::_,[],_,h=>h.elim
 |.aB _::_,_,_,.aB _::_,.sl _::_,_,h=>h.elim
 |.sl _::_,_,_,.sl _::_,[],_,h=>h.elim
 |.sl _::_,_,_,.sl _::_,.aB _::_,_,h=>h.elim
def aev:∀ (l:aa (Bool×TC×Nat)) (ps:aa Pt) (x:jB l),rD l ps=some x -> (ps.map λp=>p.2.length)=((uX l x).map λp=>p.2.length)
 |[],[],x,h=>rfl
 | [(b,t,g)],[(C,D)],x,h=>by
  unfold rD at h;cases hb:b==C with
  |false=>rw[hb]at h;cases h
  | true=>
   rw[hb]at h;simp[uX,(mY t g D x h).1]
 | (b,t,g) :: q :: r,(C,D) :: ps,x,h=>by
  unfold rD at h;cases hb:b==C with
  |false=>simp_all
  | true=>
   rw[hb]at h;split at h
   next y ys E I=>injection h with h;subst h;simp only[uX,List.map_cons];rw[aev _ ps ys I,(mY t g D y E).1]
   ·cases h
def ar5{l:aa (Bool×TC×Nat)}{C:gM}{x:jB l}(h:m8 l C=some x):C.len=(fL l x).len:=by
 have key:∀ ps,rD l ps=some x -> (ps.map λp=>p.2.length).sum=(fL l x).len:=by
  intro ps h;rw[aev l ps x h];unfold fL
  match hm:uX l x with
  |[q]=>simp[gM.len]
  |[]=>rfl
  |_::_::_=>rfl
 cases C with
 |one p=>have:=key [p] h;simpa [gM.len]using this
 | fO ps=>
  simp only[m8]at h;cases hb:Nat.beq ps.length 1 with
  |true=>simp_all
  |false=>rw[hb]at h;exact key ps h
section
variable {P:Program} {w w':World} {w0:Wd} {B N:Nat} {aj aD:bJ} {ρ ρ':Nat->Loc} {σ:S} {a:Act} {X:Type} {d:Nat} {r:X} {o:Oper} {Φ:fl} {Λ:pR}
def FO(l ro:aa (Bool×TC×Nat))(outs:aa In)(C:gM):ah (jB ro×sM l):=
 match m8 ro C,sY l outs with
 |some x,some y=>some (x,y)
 |_,_=>none
def Qg{f:Nat}{fn:Func}{code:Code}{ps:aa PK}{ro:aa (Bool×TC×Nat)}{F:mH ps->ah (jB ro×sM (fk ps))}(I:P.funcs[f]?=some fn)(hb:fn.body=some code)(U:fn.ntmps=N)(Y:(fn.name == "runtime.NumGoroutine")=false)(JZ:Nat.ble ps.length N=true)(J1:Nat.ble N 20000=true)(fG:nj ro=true)
  (eE:gF P Φ) (rK:rH P N Λ (occs code)) (hF:∀x,C6 P N Φ Λ code fn.results (oI ps x) (lD ps 0 x) (FO (fk ps) ro)=F x):enters P f/\yC P f ⟨ps,ro,F⟩:=by
 refine⟨⟨fn,I,Y,by rw[hb];rfl⟩,λx y h nm w aj ρ cE hE mE D hv hQ=>?_⟩
 have h:F x=some y:=h;rw[<-hF x]at h;have hlen:∀ (ps:aa PK) (i:Nat) (x:mH ps),(lD ps i x).length=ps.length:=by
  intro ps
  induction ps with
  |nil=>intro i x;rfl
  | cons p ps E=>
   intro i x;cases p with
   |v=>exact bC (· + 1) (E _ _)
   |p=>exact bC (· + 1) (E _ _)
   |s=>exact bC (· + 1) (E _ _)
 have D:cE.size=(lD ps 0 x).length:=by rw[hlen];exact D
 refine(fnM_core I hb U (dj J1) (by rw[hlen];exact dj JZ) eE rK h nm w aj ρ cE hE mE D hv hQ).mono λe w' uU=>?_
 obtain⟨v,aD,outs,res,C,he,mD,hl,mG,Wg⟩:=uU;unfold FO at C;split at C
 next y1 y2 O h2=>injection C with C;subst C;refine⟨v,aD,he,mD,hl,aes fG O mG,?_⟩;rw[<-ar5 O];exact sL.typed _ _ _ _ _ Wg (Qf ps x outs y2 h2)
 ·cases C
end
set_option maxRecDepth 100000
def Qh(σ:S)(C:Array ResultVar):ah Int:=
 match C.toList with
 | [.tmp t]=>(match σ.t t with
  | .aE r 0=>(match σ.m r with
   |some (.aB [.own [n],.v (.int .i64 z),.v (.int .i64 h)])=>bif Nat.beq n 20000&&z==0 then some h else none
   |_=>none)
  |_=>none)
 |_=>none
def aew(P:Program)(N:Nat)(Φ:fl)(Λ:pR)(code:Code)(C:Array ResultVar)(l:aa (T .u8)):ah Int:=
 nh P N Φ Λ code (yB [.sl (.sl .u8 0 false l)] [.mut 0 0]) λe σ=>match C5 e with
  |some 0=>Qh σ C
  |some 1=>Qh σ C
  |_=>none
section
variable {P:Program} {w w':World} {w0:Wd} {B N:Nat} {aj aD:bJ} {ρ ρ':Nat->Loc} {σ:S} {a:Act} {X:Type} {d:Nat} {r:X} {o:Oper} {Φ:fl} {Λ:pR}
def ar6{f:Nat}{fn:Func}{code:Code}{F:aa Int->ah Int}(hf:P.funcs[f]?=some fn)(hb:fn.body=some code)(hN:fn.ntmps=N)(JY:(fn.name == "runtime.NumGoroutine")=false)(hN1:Nat.ble 1 N=true)(J1:Nat.ble N 20000=true)
  (eE:gF P Φ) (rK:rH P N Λ (occs code)) (hF:∀l,aew P N Φ Λ code fn.results l=F l):enters P f/\Pe P f F:=by
 refine⟨⟨fn,hf,JY,by rw[hb];rfl⟩,λw l h v hh hv hQ=>?_⟩
 rw[<-hF l]at hh;unfold aew at hh;have hN1:=dj hN1;have J1:=dj J1;let W:Wd:=⟨w,λ_=>none,λr=>if 20000<=r/\r<60000 then some (.eU v)else none,hQ,λr E=>bk⟩
 refine calls_of_wp hf hb ?_;have hR:R W N (yB [.sl (.sl .u8 0 false l)] [.mut 0 0]) { tmps:=#[v]++Array.replicate (fn.ntmps-(#[v]:Array Value).size) undef,defers:=[] } w:=by
  refine⟨λ_=>none,λ_=>.eU v,.of (Below.refl w.heap.size w) (dc _),(λb k hb=>by cases hb),λn y O=>?_,λj=>?_,by simp[hN];omega,rfl,λr l E=>?_,λr E=>?_⟩
  ·have O:cc (λ_=>none) (nF 0) (some (.sl (.sl .u8 0 false l))) n=some y:=O;by_cases hn:n=nF 0
   ·subst hn;rw[cm]at O;injection O with O;subst O;exact .sl v _ rfl (hv.key rfl)
   ·rw[cN _ _ _ hn]at O;cases O
  ·cases j with
   | zero=>
    have e:(#[v]++Array.replicate (fn.ntmps-(#[v]:Array Value).size) undef).getD 0 undef=v:=by
     rw[jv,Array.getElem?_append_left (by simp)];rfl
    show RA w w.heap.size _ _ (.lf (.own [nF 0])) ((#[v]++Array.replicate (fn.ntmps-(#[v]:Array Value).size) undef).getD 0 undef);rw[e];exact⟨hv.pF rfl rfl,rfl⟩
   |succ j=>exact trivial
  ·have E:(if 20000<=r/\r<60000 then some (Loc.eU v)else none)=some l:=E;split at E
   ·injection E
   ·cases E
  ·show (if 20000<=r/\r<60000 then some (Loc.eU v)else none)=none;rw[bk]
 refine wp_mono (JR (w0:=W) eE code _ _ hh rK _ w hR) λe a' w' I=>?_
 obtain⟨cW,U,I2,wC,D⟩:=I;have fin:Qh cW fn.results=some h->a'.defers=[]/\∃ u,(results fn a'.tmps).run P w' = .ok u w'/\∃ b off cells t,Ending.returned u = .returned (.pointer (some ⟨b,off,none⟩))/\Below w.heap.size w w'/\w.heap.size<=b/\w'.heap[b]?=some (.cells cells t (0,0))/\cells[off]?=some v/\cells[off+1]?=some (.int .i64 0)/\cells[off+2]?=some (.int .i64 h):=by
  intro C;unfold Qh at C;split at C
  ·rename_i t ht;split at C
   ·rename_i r E;split at C
    ·rename_i n z h' hm;cases hb:(Nat.beq n 20000&&z==0)with
     |false=>rw[hb]at C;cases C
     | true=>
      rw[hb,aq]at C;injection C with C;subst C;rw[aP]at hb;have hn:=cL hb.1;have hz:z=0:=by simpa using hb.2
      subst hn hz;have h1:=D.tmp t;rw[E]at h1;obtain⟨b,off,e1,e2⟩:=h1;have h2:=D.root r _ hm;generalize Y:aX.aB _=x at h2;cases h2 with
      |sl=>cases Y
      |mp=>cases Y
      |gh=>cases Y
      | aB b' Cn cells e cs us cu hl wu hs hc=>
       injection Y with Y;subst Y;rw[cu]at e1;injection e1 with e3 e4;subst e3 e4;obtain⟨c0,d0⟩:=hc 0 _ rfl;obtain⟨c1,d1⟩:=hc 1 _ rfl;obtain⟨c2,d2⟩:=hc 2 _ rfl;have d0:=d0.2;have ar7:=D.fix 20000 (.eU v) rfl;simp only[dn,ar7]at d0;injection d0 with d0;rw[<-d0]at c0;rw[d1.2.iE]at c1;rw[d2.2.iE]at c2
       refine⟨D.defers,_,?_,b',Cn,cells,e,rfl,⟨D.below.os,D.below.tape,D.below.output,D.below.size,λk U=>D.below.block k U rfl⟩,?_,wu,c0,c1,c2⟩
       ·have mG:results fn a'.tmps=(do let vs <-fn.results.mapM (uV a'.tmps);pure (if h:vs.size=1 then vs[0]else .tuple vs)):=by
         unfold results;congr 1
        have wN:fn.results = #[.tmp t]:=by apply Array.ext';exact ht
        rw[mG,wN,Array.mapM_eq_mapM_toList];simp[uV,e2]
       ·have:=(D.dI b' _ hl).1;exact this.resolve_right (λh=>h rfl)
    ·cases C
   ·cases C
  ·cases C
 split at U
 next I=>have I:=wS I;subst I;exact fin U
 next I=>have I:=wS I;subst I;exact fin U
 ·cases U
end
def Wd.pin(d:Wd)(g:Nat)(l:ah Loc)(D:20000<=g):Wd:=⟨d.w,d.L,λr=>if r=g then l else d.F r,d.held,λr C=>by
 show (if r=g then l else d.F r)=none;rw[bk];exact d.low r C⟩
def C7(g:Nat):aa (Bool×aa Lf)->A
 |[(false,[x])]=>.lf (x.drop g)
 |[(true,cs)]=>.agg (cs.map (Lf.drop g))
 |[(false,_)]=>.undef
 |ps=>.fO (ps.map λp=>(p.1,p.2.map (Lf.drop g)))
def C8{X:Type}(P:Program)(g:Nat)(D:Array ResultVar)(C:S)(k:S->A->ah X):ah X:=
 tM P C D.toList λps=>match C.m g with
  |some (.gh ys)=>k ⟨λj=>((ys.map (A.drop g))[j]?).getD .undef,(C.drop g).m⟩ (C7 g ps)
  |_=>none
def aex(g N:Nat)(σ:S)(xs:aa A):S:=⟨λj=>((xs.map (A.drop g))[j]?).getD .undef,cc (σ.drop g).m g (some (.gh ((List.range N).map λj=>(σ.t j).drop g)))⟩
def noB:pR:=λ_=>none
def J3{X:Type}(P:Program)(M g:Nat)(Φ:fl)(code:Code)(C:Array ResultVar)(N:Nat)(σ:S)(xs:aa A)(k:S->A->ah X):ah X:=
 bif Nat.ble xs.length M then nh P M Φ noB code (aex g N σ xs) λe D=>match C5 e with
  |some 0=>C8 P g C D k
  |some 1=>C8 P g C D k
  |_=>none
 else none
def aey(P:Program)(M g:Nat)(Φ:fl)(code:Code)(C:Array ResultVar):vc:=⟨λX N σ xs k=>J3 P M g Φ code C N σ xs k⟩
section
variable {P:Program} {w w':World} {w0:Wd} {B M N g:Nat} {aj aD:bJ} {ρ ρ':Nat->Loc} {σ:S} {a:Act} {X:Type} {d:Nat} {r:X} {o:Oper} {Φ:fl} {Λ:pR}
def XW{C:ah Tmp}{D:Bool}:cU λX k=>tR (X:=X) σ C D k:=λX Y k g=>by
 unfold tR
 repeat' first|rfl|refine dN ?_ ?_|split
def ar8{ops:Array Oper}{L i:Nat}:cU λX k=>Jx (X:=X) P N Φ ops L i σ o k:=λX Y k g=>by
 unfold Jx;split
 ·refine(WN _ _ _ _).trans (bC _ (funext λv=>?_))
  exact dN (yJ _ _ _ _) rfl
 ·exact yJ _ _ _ _
 ·rfl
def XX(D:gF P Φ){ops:Array Oper}:∀ (f L:Nat) (σ:S),cU λX k=>sQ (X:=X) P N Φ ops f L σ k
 | 0,L,σ=>λX Y k g=>by
  unfold sQ;split<;>rfl
 | f+1,L,σ=>λX Y k g=>by
  have st:∀E o O,cU λX k=>ek (X:=X) P N Φ ops σ o λI=>tR I o.dst O λC=>sQ P N Φ ops f E C k:=λE o O=>(adx D).comp λI=>XW.comp λC=>XX D f E C
  unfold sQ
  repeat' first
   |rfl
   |exact st _ _ _ _ _ _ _
   |exact(ar8.comp λI=>XW.comp λC=>XX D f _ C) X Y k g
   |split
def ar9{t:TypeId}{x lo hi C:A}{X Y:Type}(k:ah X)(g:X->ah Y):(Fz P σ t x lo hi C k).bind g=Fz P σ t x lo hi C (k.bind g):=by
 unfold Fz
 repeat' first
  |rfl
  |refine(yI _ _ _ _ _).trans (bC _ (funext λy=>?_))
  |split
def asa(C:gF P Φ):cU λX k=>Jt (X:=X) P N Φ σ o k:=λX Y k g=>by
 unfold Jt
 repeat' first
  |exact adu C _ _ _ _
  |exact aqv _ _ _ _
  |exact(ar9 _ _).trans (bC _ (dN rfl rfl))
  |split
def XY(C:gF P Φ){ops:Array Oper}:∀ (rest:aa Oper) (j:Nat) (σ:S),cU λX k=>CW (X:=X) P N Φ ops j rest σ k
 |[],j,σ=>λ_ _ _ _=>rfl
 | o :: rest,j,σ=>λX Y k g=>by
  unfold CW;split
  ·exact((asa C).comp λD=>XW.comp λE=>XY C rest _ E) X Y k g
  ·exact(yJ.comp λD=>XY C rest _ D) X Y k g
  ·rfl
def aez(E:gF P Φ):∀ (c:Code) (σ:S),Fy λX k=>nh (X:=X) P N Φ noB c σ k:=by
 intro c
 induction c with
 | region id ops draw=>
  intro σ X Y k g;cases draw with
  |true=>exact dN (XX E _ _ _ _ _ _ _) rfl
  |false=>exact XY E _ _ _ _ _ _ _
 | seq x y C D=>
  intro σ X Y k g
  refine(C σ _ _ _ _).trans (bC _ (funext λe=>funext λI=>?_))
  cases e with
  |normal=>exact D I _ _ _ _
  |_=>rfl
 | cond c x y C D=>
  intro σ X Y k g;simp only[nh];split
  ·exact dN (C σ _ _ _ _) (D σ _ _ _ _)
  ·rfl
 | block id c O=>
  intro σ X Y k g
  refine(O σ _ _ _ _).trans (bC _ (funext λe=>funext λI=>?_))
  cases e with
  | exit U=>
   simp only;split<;>rfl
  |_=>rfl
 |_=>intro σ X Y k g;rfl
def Qi:∀ (l:aa ResultVar),cU λX k=>tM (X:=X) P σ l k
 |[]=>λ_ _ _ _=>rfl
 | .tmp t :: rest=>λX Y k g=>by
  simp only[tM];split
  ·exact Qi rest _ _ _ _
  ·rfl
 | .cell c ty :: rest=>λX Y k g=>by
  simp only[tM]
  refine(acQ _ _ _ _).trans (bC _ (funext λy=>?_))
  split
  ·exact Qi rest _ _ _ _
  ·rfl
def aeA{C:Array ResultVar}:Fy λX k=>C8 (X:=X) P g C σ k:=λX Y k f=>by
 unfold C8
 refine(Qi _ _ _ _ _).trans (bC _ (funext λps=>?_))
 split<;>rfl
def asb(C:gF P Φ){code:Code}{D:Array ResultVar}{xs:aa A}:Fy λX k=>J3 (X:=X) P M g Φ code D N σ xs k:=λX Y k f=>by
 unfold J3
 refine dN ((aez C _ _ _ _ _ _).trans (bC _ (funext λe=>funext λE=>?_))) rfl
 split
 ·exact aeA _ _ _ _
 ·exact aeA _ _ _ _
 ·rfl
def asc{D:Array ResultVar}{E:S}{y:A}(h:C8 P g D σ (λσ y=>some (σ,y))=some (E,y)):∃ ys ps,σ.m g=some (.gh ys)/\tM P σ D.toList some=some ps/\⟨λj=>((ys.map (A.drop g))[j]?).getD .undef,(σ.drop g).m⟩=E/\C7 g ps=y:=by
 unfold C8 at h;obtain⟨ps,C,I⟩:=(Qi _).m6 h;split at C
 next ys O=>injection C with C;injection C with U Y;exact⟨ys,ps,O,I.at_ _,U,Y⟩
 ·cases C
def List.aeB(xs:aa A)(g j:Nat):((xs.map (A.drop g))[j]?).getD .undef=A.drop g ((xs[j]?).getD .undef):=by
 rw[fh];cases xs[j]?<;>rfl
def RP.C7{ps:aa (Bool×aa Lf)}{C:aa Value}(I:∀ r,r≠g->ρ' r=ρ r)(hl:C.length=ps.length)(h:∀ (i:Nat) p v,ps[i]?=some p->C[i]?=some v->RP w B aj ρ p v):
  RA w B aj ρ' (C7 g ps) (if h:C.toArray.size=1 then C.toArray[0]else .tuple C.toArray):=by
 have fO:ps.length≠1->RA w B aj ρ' (.fO (ps.map λp=>(p.1,p.2.map (Lf.drop g)))) (if h:C.toArray.size=1 then C.toArray[0]else .tuple C.toArray):=by
  intro U;rw[dif_neg (by simpa [hl]using U)]
  refine⟨C.toArray,rfl,by simpa using hl,λj p D=>?_⟩
  rw[fh]at D;cases E:ps[j]? with
  |none=>rw[E]at D;cases D
  | some q=>
   rw[E]at D;injection D with D;subst D;have O:j<C.length:=by rw[hl];exact(eO.1 E).1
   exact⟨C[j],by simp[O],(h j q C[j] E (bT O)).gf I⟩
 unfold Proofs.YtdfkhfiglknaoaaGreat.C7;split
 ·rename_i x
  match C,hl,h with
  | [v],_,h=>
   have:=h 0 _ v rfl rfl;obtain⟨u,Y,hr⟩:=this.2 0 x rfl;have:v=u:=by simpa using Y
   subst this;exact hr.gf I
 ·rename_i cs
  match C,hl,h with
  |[v],_,h=>exact RP.gf I (p:=(true,cs)) (h 0 _ v rfl rfl)
 ·trivial
 ·rename_i h1 h2 h3
  refine fO λe=>?_
  obtain⟨⟨b,cs⟩,rfl⟩:=List.length_eq_one_iff.1 e;cases b with
  |true=>exact h2 cs rfl
  |false=>exact h3 cs rfl
def asd{f:Nat}{fn:Func}{code:Code}(hf:P.funcs[f]?=some fn)(hb:fn.body=some code)(hN:fn.ntmps=M)(hM:M<=20000)(JY:(fn.name == "runtime.NumGoroutine")=false)(hg:20000<=g/\g<60000)(eE:gF P Φ):
  enters P f/\pN P f (aey P M g Φ code fn.results):=by
 refine⟨⟨fn,hf,JY,by rw[hb];rfl⟩,λN σ xs=>asb eE,λN σ xs τ0 y0 h w0 aj ρ a w cE hR gx hv=>?_⟩
 have h:J3 P M g Φ code fn.results N σ xs _=_:=h;unfold J3 at h;cases hl:Nat.ble xs.length M with
 |false=>rw[hl]at h;cases h
 | true=>
  rw[hl,aq]at h;have yu:=dj hl;obtain⟨e,τ,h1,h2⟩:=(aez eE _ _).m6 h;have h3:(e = .normal\/e = .ret)/\C8 P g fn.results τ (λσ y=>some (σ,y))=some (τ0,y0):=by
   split at h1
   next Y=>exact⟨.inl (wS Y),h1⟩
   next Y=>exact⟨.inr (wS Y),h1⟩
   ·cases h1
  obtain⟨hex,h3⟩:=h3;obtain⟨ys,ps,hy,jY,rfl,rfl⟩:=asc h3;let us:=a.tmps.toList
  let W:Wd:=w0.pin g (some (.cE us)) hg.1
  let wC:=cc ρ g (.cE us)
  have cu:∀r,r≠g->wC r=ρ r:=λr hr=>cN _ _ _ hr
  have m0:∀ j,us.getD j undef=a.tmps.getD j undef:=λj=>by
   show a.tmps.toList.getD j undef=_;rw[cV,Array.getElem?_toList,jv]
  have hle:cE.size<=M:=by rw[gx];exact yu
  have wL:Rl W M aj wC (aex g N σ xs) { tmps:=cE++Array.replicate (fn.ntmps-cE.size) undef,defers:=[] } w:=by
   refine⟨⟨hR.below.os,hR.below.tape,hR.below.output,hR.below.size,hR.below.block⟩,hR.dI,λr x C=>?_,λj=>?_,by simp[hN];omega,rfl,λr l hr=>?_,λr hr=>?_⟩
   ·have C:cc (σ.drop g).m g (some (.gh ((List.range N).map λj=>(σ.t j).drop g))) r=some x:=C;by_cases D:r=g
    ·subst D;rw[cm]at C;injection C with C;subst C
     refine .gh us _ (cm _ _ _) λj x I=>?_
     rw[fh]at I;cases hr:(List.range N)[j]? with
     |none=>rw[hr]at I;cases I
     | some j'=>
      rw[hr]at I;injection I with I;obtain⟨dQ,qw⟩:=eO.1 hr;rw[lW]at qw;subst qw I;rw[m0];exact(hR.tmp j).gf cu
    ·rw[cN _ _ _ D]at C;have C:(bif Nat.beq r g then none else (σ.m r).map (aX.drop g))=some x:=C;cases hb:Nat.beq r g with
     |true=>rw[hb]at C;cases C
     | false=>
      rw[hb,av]at C;cases hm:σ.m r with
      |none=>rw[hm]at C;cases C
      | some y=>
       rw[hm]at C;injection C with C;subst C;exact(hR.root r y hm).gf cu D
   ·show RA w w0.heap.size aj wC (((xs.map (A.drop g))[j]?).getD .undef) _;rw[List.aeB];by_cases I:j<cE.size
    ·have e1:(cE++Array.replicate (fn.ntmps-cE.size) undef).getD j undef=cE.getD j undef:=by
      rw[jv,Array.getElem?_append_left I,jv]
     show RA w w0.heap.size aj wC _ ((cE++Array.replicate (fn.ntmps-cE.size) undef).getD j undef);rw[e1];exact(hv j).gf cu
    ·rw[qg (by omega:xs.length<=j)];trivial
   ·have hr:(if r=g then some (Loc.cE us)else w0.F r)=some l:=hr;by_cases D:r=g
    ·rw[bg D]at hr;injection hr with hr;rw[D,<-hr];exact cm _ _ _
    ·rw[bk D]at hr;rw[cu r D];exact hR.fix r l hr
   ·show (if r=g then some (Loc.cE us)else w0.F r)=none;rw[bk];rcases hr with hr | hr
    ·exact w0.low r (by omega)
    ·exact hR.dY r (.inr hr)
  refine calls_of_wp hf hb ?_
  refine wp_mono (JR (w0:=W) eE code _ (λe τ=>some (e,τ)) (h2 _ _) (λp hp b hb=>by cases hb) _ w ⟨aj,wC,wL⟩) λe' O w' Y=>?_
  obtain⟨cW,qC,aD,ρ',E⟩:=Y;injection qC with qC;injection qC with k1 k2;subst k1 k2;have Jc:ρ' g = .cE us:=E.fix g _ (bg rfl);let gi:=cc ρ' g ((w0.F g).getD (.aB 0 0))
  have Ft:∀r,r≠g->gi r=ρ' r:=λr hr=>cN _ _ _ hr
  obtain⟨yA,XZ,mC⟩:=I3 (w0:=W) (N:=M) _ _ jY;injection XZ with XZ;subst XZ;obtain⟨vs,cH,hlen,jz⟩:=mC aD ρ' O w' E;have ase:(fn.results.mapM (uV O.tmps)).run P w' = .ok vs.toArray w':=by
   rw[Array.mapM_eq_mapM_toList];simp[cH]
  have mG:results fn O.tmps=(do let vs <-fn.results.mapM (uV O.tmps);pure (if h:vs.size=1 then vs[0]else .tuple vs)):=by
   unfold results;congr 1
  have hRf:Rl w0 N aD gi ⟨λj=>((ys.map (A.drop g))[j]?).getD .undef,(cW.drop g).m⟩ a w':=by
   refine⟨⟨E.below.os,E.below.tape,E.below.output,E.below.size,E.below.block⟩,E.dI,λr x C=>?_,λj=>?_,hR.size,hR.defers,λr l hr=>?_,hR.dY⟩
   ·have C:(bif Nat.beq r g then none else (cW.m r).map (aX.drop g))=some x:=C;cases hb:Nat.beq r g with
    |true=>rw[hb]at C;cases C
    | false=>
     have D:r≠g:=by rintro rfl;simp at hb
     rw[hb,av]at C;cases hm:cW.m r with
     |none=>rw[hm]at C;cases C
     | some y=>
      rw[hm]at C;injection C with C;subst C;exact(E.root r y hm).gf Ft D
   ·show RA w' w0.heap.size aD gi (((ys.map (A.drop g))[j]?).getD .undef) _;rw[List.aeB];cases hyj:ys[j]? with
    |none=>trivial
    | some y=>
     have fG:=E.root g _ hy;generalize U:aX.gh ys=z at fG;cases fG with
     |aB=>cases U
     |sl=>cases U
     |mp=>cases U
     | gh OD xs' Fv hx3=>
      injection U with U;subst U;rw[Jc]at Fv;injection Fv with Fv;subst Fv;have:=hx3 j y hyj;rw[m0]at this;exact this.gf Ft
   ·by_cases D:r=g
    ·subst D;show cc ρ' r ((w0.F r).getD (.aB 0 0)) r=l;rw[cm,hr];rfl
    ·rw[Ft r D];exact E.fix r l ((bk D).trans hr)
  have fin:O.defers=[]/\∃ v,(results fn O.tmps).run P w' = .ok v w'/\∃ AZ aD ρ',Ending.returned v=Ending.returned AZ/\Rl w0 N aD ρ' ⟨λj=>((ys.map (A.drop g))[j]?).getD .undef,(cW.drop g).m⟩ a w'/\RA w' w0.heap.size aD ρ' (C7 g yA) AZ:=
   ⟨E.defers,_,by rw[mG,gN,ase,mS,Sem.run_pure],_,aD,gi,rfl,hRf,RP.C7 Ft hlen jz⟩
  rcases hex with rfl|rfl
  ·exact fin
  ·exact fin
end
def vj:Nat:=1000000000
def stays(n:Nat):Bool:=Nat.ble 20000 (n % vj)
def asf:60000<=vj:=dj rfl
def rL(n:Nat):Nat:=bif stays n then n else n+vj
def A0(n:Nat):ah Nat:=bif stays n then some n else bif Nat.ble vj n && !stays (n-vj)then some (n-vj)else none
def mK:aa Nat->aa Nat
 |[]=>[]
 |[r]=>[rL r]
 |x::y::k=>x::mK (y::k)
def Lf.up:Lf->Lf
 |.v x=>.v x
 |.own k=>.own (mK k)
 |.dead=>.dead
def A.up:A->A
 |.undef=>.undef
 |.skip=>.skip
 |.lf x=>.lf x.up
 |.agg cs=>.agg (cs.map Lf.up)
 |.fO xs=>.fO (xs.map λp=>(p.1,p.2.map Lf.up))
 |.ptr k=>.ptr (mK k)
 |.aE r j=>.aE (rL r) j
 |.jW cs=>.jW cs
 |.oC f cs=>.oC f cs
 |.pk r n=>.pk (rL r) n
 |.view k s i j=>.view (mK k) s i j
 |.fn f cap=>.fn f (cap.map λp=>(rL p.1,p.2))
def aX.up:aX->aX
 |.aB cs=>.aB (cs.map Lf.up)
 |.sl y=>.sl y
 |.mp l=>.mp l
 |.gh xs=>.gh (xs.map A.up)
def S.up(σ:S):S:=⟨λk=>(σ.t k).up,λn=>match A0 n with
 |some r=>(σ.m r).map aX.up
 |none=>none⟩
def upI(c:vc):vc:=⟨λX N σ xs k=>c.run X N σ.up (xs.map A.up) λC y=>k C.up y.up⟩
section
variable {P:Program} {w w':World} {w0:Wd} {B N:Nat} {aj aD:bJ} {ρ ρ':Nat->Loc} {σ:S} {a:Act} {X:Type}
def asg(r:Nat):A0 (rL r)=some r:=by
 unfold A0 rL;cases h:stays r with
 |true=>simp_all
 | false=>
  have C:stays (r+vj)=false:=by
   unfold stays at h ⊢;simp_all
  have D:Nat.ble vj (r+vj)=true:=mT (Nat.le_add_left _ _);simp[*]
def ash{n r:Nat}(h:A0 n=some r):n=rL r:=by
 unfold A0 at h;cases D:stays n with
 | true=>
  rw[D]at h;injection h with h;subst h;simp[rL,D]
 | false=>
  rw[D,av]at h;cases C:(Nat.ble vj n && !stays (n-vj))with
  |false=>simp_all
  | true=>
   rw[C]at h;have h:=Option.some.inj h;rw[aP]at C;have I:=dj C.1;have E:stays r=false:=by rw[<- h];simpa using C.2
   simp[rL,E,av];omega
def n7(aj:bJ):bJ:=λb=>(aj b).map mK
def wU(ρ:Nat->Loc):Nat->Loc:=λn=>match A0 n with
 |some r=>ρ r
 |none=>ρ n
def C9(r:Nat):wU ρ (rL r)=ρ r:=by unfold wU;rw[asg]
def asi{k:aa Nat}(h:k≠[]):mK k≠[]:=by
 match k with
 |[r]=>simp[mK]
 |x::y::k=>simp[mK]
def FP{x:Nat}{k:aa Nat}(h:k≠[]):mK (x :: k)=x :: mK k:=by
 match k with
 |[]=>exact absurd rfl h
 |y::k=>rfl
def aeC(x y:Nat)(k:aa Nat):∃ C D,mK (x :: y :: k)=x :: C :: D:=by
 match k with
 |[]=>exact⟨_,_,rfl⟩
 |z::k=>exact⟨y,_,rfl⟩
def X0:∀ (k:aa Nat) (ad:Addr),addrAt w aj ρ k=some ad -> addrAt w (n7 aj) (wU ρ) (mK k)=some ad
 |[],_,h=>by simp[addrAt]at h
 | [j,i,s,r],ad,h=>by
  simp only[addrAt]at h;simp only[mK,addrAt,C9];split at h
  ·rename_i b n c C;split at h
   next hl=>rw[bg (by simp[n7,hl,mK])];exact h
   ·cases h
  ·cases h
 | j :: i :: s :: x :: y :: q,ad,h=>by
  simp only[addrAt]at h;split at h
  ·rename_i b n c C;split at h
   ·rename_i hl;cases D:addrAt w aj ρ (x :: y :: q)with
    |none=>simp_all
    | some I=>
     have E:=X0 (x::y::q) I D;have e:n7 aj b=some (mK (x::y::q)):=by simp[n7,hl]
     rw[FP (by simp),FP (by simp),FP (by simp)];rw[D]at C;obtain⟨U,Y,O⟩:=aeC x y q;rw[O]at E e ⊢;simp only[addrAt,E,C,e,if_true];exact h
   ·cases h
  ·cases h
def aeD{k:aa Nat}{u:Value}(h:dn w aj ρ k=some u):dn w (n7 aj) (wU ρ) (mK k)=some u:=by
 match k with
 | [r]=>
  simp[mK,dn,C9];exact h
 | x :: y :: k=>
  simp[dn]at h;cases C:addrAt w aj ρ _ with
  |none=>rw[C]at h;cases h
  | some ad=>
   have:=X0 _ _ C;obtain⟨E,I,D⟩:=aeC x y k;rw[D]at this ⊢;simp[dn,this];simp_all
def X3{b:Nat}(h:aj b=none):n7 aj b=none:=by simp[n7,h]
def RV.up(D:∀ b k,aj b=some k->k≠[]){k:aa Nat}{x:V}{v:Value}(h:RV w B aj k x v):RV w B (n7 aj) (mK k) x v:=
 h.map (Q:=λk C=>C=mK k) (dc _) (λb _ h=>⟨rfl,X3 h⟩) (λb k C _ hl e=>by
  subst e;exact⟨rfl,by simp[n7,hl],λj i s=>by rw[FP (by simp),FP (by simp),FP (D b k hl)]⟩) (.inr rfl)
def eS.up(C:∀ b k,aj b=some k->k≠[]){x:Lf}{u:Value}(h:eS w B aj ρ x u):eS w B (n7 aj) (wU ρ) x.up u:=by
 cases x with
 |v x=>exact⟨h.1,RV.up C h.2⟩
 |own k=>exact⟨h.1,aeD h.2⟩
 |dead=>trivial
def fy.up(E:∀ b k,aj b=some k -> k≠[]){cs:aa Lf}{us:Array Value}(h:fy w B aj ρ cs us):fy w B (n7 aj) (wU ρ) (cs.map Lf.up) us:=by
 refine⟨by rw[fN];exact h.1,λj x C=>?_⟩
 rw[fh]at C;cases D:cs[j]? with
 |none=>simp_all
 | some z=>
  rw[D]at C;injection C with C;subst C;obtain⟨u,I,O⟩:=h.2 j z D;exact⟨u,I,O.up E⟩
def RP.up(C:∀ b k,aj b=some k->k≠[]){p:Bool×aa Lf}{u:Value}(h:RP w B aj ρ p u):RP w B (n7 aj) (wU ρ) (p.1,p.2.map Lf.up) u:=by
 obtain⟨b,cs⟩:=p;cases b with
 | true=>
  obtain⟨us,rfl,h⟩:=h;exact⟨us,rfl,fy.up C h⟩
 |false=>exact fy.up C h
def RA.up(I:∀ b k,aj b=some k -> k≠[]){x:A}{u:Value}(h:RA w B aj ρ x u):RA w B (n7 aj) (wU ρ) x.up u:=by
 cases x with
 |undef=>trivial
 |skip=>exact h
 |lf x=>exact eS.up I h
 |agg cs=>exact RP.up I (p:=(true,cs)) h
 | fO xs=>
  obtain⟨us,rfl,D,E⟩:=h
  refine⟨us,rfl,by rw[fN];exact D,λj p C=>?_⟩
  rw[fh]at C;cases O:xs[j]? with
  |none=>simp_all
  | some z=>
   rw[O]at C;injection C with C;subst C;obtain⟨v,U,Y⟩:=E j z O;exact⟨v,U,Y.up I⟩
 | ptr k=>
  obtain⟨ad,rfl,h⟩:=h;exact⟨ad,rfl,X0 _ _ h⟩
 | aE r j=>
  obtain⟨b,off,D,E⟩:=h;exact⟨b,off,(C9 r).trans D,E⟩
 | jW cs=>
  obtain⟨b,off,g1,g2,g3,g4⟩:=h
  refine⟨b,off,g1,g2,X3 g3,λj x hx=>?_⟩
  obtain⟨f1,v,f2,f3⟩:=g4 j x hx;exact⟨f1,v,f2,RV.up I f3⟩
 | oC f cs=>
  obtain⟨pv,e0,h⟩:=h;refine⟨pv,e0,?_⟩;obtain⟨b,off,g1,g2,g3,g4⟩:=h
  refine⟨b,off,g1,g2,X3 g3,λj x hx=>?_⟩
  obtain⟨f1,v,f2,f3⟩:=g4 j x hx;exact⟨f1,v,f2,RV.up I f3⟩
 | pk r n=>
  obtain⟨b,D,E⟩:=h;exact⟨b,(C9 r).trans D,E⟩
 | view k s i j=>
  obtain⟨A,n,c,D,E⟩:=h;exact⟨A,n,c,aeD D,E⟩
 | fn f cap=>
  obtain⟨vs,rfl,D,E⟩:=h
  refine⟨vs,rfl,by rw[fN];exact D,λj p C=>?_⟩
  rw[fh]at C;cases O:cap[j]? with
  |none=>simp_all
  | some z=>
   rw[O]at C;injection C with C;subst C;obtain⟨b,off,U,Y⟩:=E j z O;exact⟨b,off,(C9 _).trans U,Y⟩
def eV.up(Y:∀ b k,aj b=some k -> k≠[]){r:Nat}{x:aX}(h:eV w B aj ρ r x):eV w B (n7 aj) (wU ρ) (rL r) x.up:=by
 have U:=C9 (ρ:=ρ) r;have hl:∀{b},aj b=some [r] -> n7 aj b=some [rL r]:=λh=>by simp[n7,h,mK]
 cases h with
 | aB b off cells e cs us C I hh hs hc=>
  refine .aB b off cells e _ us (U.trans C) (hl I) hh (by rw[fN];exact hs) λj x D=>?_
  rw[fh]at D;cases E:cs[j]? with
  |none=>simp_all
  | some z=>
   rw[E]at D;injection D with D;subst D;exact⟨(hc j z E).1,(hc j z E).2.up Y⟩
 |sl v y C I=>exact .sl v y (U.trans C) (RV.up Y I)
 |mp b c es l C I hh he=>exact .mp b c es l (U.trans C) (hl I) hh he
 | gh us xs C D=>
  refine .gh us _ (U.trans C) λj x O=>?_
  rw[fh]at O;cases E:xs[j]? with
  |none=>simp_all
  | some z=>
   rw[E]at O;injection O with O;subst O;exact RA.up Y (D j z E)
def Rl.up(h:Rl w0 N aj ρ σ a w):Rl w0 N (n7 aj) (wU ρ) σ.up a w:=by
 have U:=λb k D=>(h.dI b k D).2.2
 refine⟨h.below,λb k D=>?_,λn x C=>?_,λk=>RA.up U (h.tmp k),h.size,h.defers,λr l E=>?_,h.dY⟩
 ·unfold n7 at D;cases hl:aj b with
  |none=>simp_all
  | some q=>
   rw[hl]at D;injection D with D;obtain⟨I,O,h3⟩:=h.dI b q hl;exact⟨I,O,by rw[<- D];exact asi h3⟩
 ·have C:(match A0 n with | some r=>(σ.m r).map _ | none=>none)=some x:=C;cases Y:A0 n with
  |none=>simp_all
  | some r=>
   rw[Y]at C;have C:(σ.m r).map _=some x:=C;cases hm:σ.m r with
   |none=>simp_all
   | some y=>
    rw[hm]at C;injection C with C;subst C;rw[ash Y];exact(h.root r y hm).up U
 ·have hs:stays r=true:=by
   have I:20000 <= r:=Nat.le_of_not_lt λdQ=>by rw[w0.low r dQ]at E;cases E
   have O:r<60000:=Nat.lt_of_not_le λhle=>by rw[h.dY r (.inr hle)]at E;cases E
   unfold stays;rw[Nat.mod_eq_of_lt (Nat.lt_of_lt_of_le O asf)];exact mT I
  have hu:rL r=r:=by simp[rL,hs]
  have:=C9 (ρ:=ρ) r;rw[hu]at this;rw[this];exact h.fix r l E
def asj{f:Nat}{c:vc}(h:pN P f c):pN P f (upI c):=by
 refine⟨λN σ xs X Y k g=>h.1 N σ.up (xs.map A.up) X Y _ g,λN σ xs τ z I w0 aj ρ a w cE hR O U=>?_⟩
 obtain⟨cW,y,C,h2⟩:=(h.1 N σ.up (xs.map A.up)).m6 I;injection C with C;injection C with h4 h5;subst h4 h5;have h3:=h.2 N σ.up (xs.map A.up) cW y (h2 _ _);have cx:∀b k,aj b=some k->k≠[]:=λb k D=>(hR.dI b k D).2.2
 refine(h3 w0 _ _ a w cE hR.up (by rw[fN];exact O) λi=>?_).mono λe w' hp=>?_
 ·rw[fh];have:=U i;cases hx:xs[i]? with
  |none=>trivial
  | some x=>
   rw[hx]at this;exact RA.up cx this
 ·obtain⟨v,aD,ρ',he,E,hy⟩:=hp;exact⟨v,_,_,he,E.up,RA.up (λb k D=>(E.dI b k D).2.2) hy⟩
end
def aV:Nat:=4611686018427387904
def sZ(c:Code)(id:Nat):Code:=match (occs c).lookup id with
 |some (.loop b)=>b
 |_=>.skip
def bf(fn:Func):Code:=fn.body.getD .skip
def n8(l:aa (Nat×rG)):fl:=λf=>l.lookup f
def Da(P:Program):aa (Nat×rG)->Prop
 |[]=>True
 |(f,c)::l=>(enters P f/\Wz P f c)/\Da P l
def wV{P:Program}:∀ (l:aa (Nat×rG)),Da P l -> gF P (n8 l)
 |[],_=>λf c h=>by cases h
 | (f',E) :: l,⟨I,D⟩=>λf c h=>by
  have C:List.lookup f _=some c:=h;rw[List.lookup_cons]at C;split at C
  ·simp_all
  ·exact wV l D f c C
def lI(l:aa (Nat×tU)):pR:=λid=>l.lookup id
def X4(P:Program)(N:Nat)(code:Code):aa (Nat×tU)->Prop
 |[]=>True
 |(id,b)::l=>(∃c,(occs code).lookup id=some c/\CY P N (.block id c) b)/\X4 P N code l
def ids(l:aa (Nat×Code)):Bool:=(l.map (·.1)).all λi=>Nat.beq ((l.filter λp=>Nat.beq p.1 i).length) 1
def aeE:∀ (l:aa (Nat×Code)) (p:Nat×Code),(∀ q∈l,q.1=p.1 -> q=p) -> p∈l -> l.lookup p.1=some p.2
 |[],p,_,h=>by cases h
 | q :: l,p,C,h=>by
  rw[List.lookup_cons];by_cases D:p.1=q.1
  ·simp_all
  ·have hb:(p.1==q.1)=false:=by simpa using D
   rw[hb];rcases gZ.1 h with rfl|h
   ·simp_all
   ·exact aeE l p (λq E=>C q (.tail _ E)) h
def asl{l:aa (Nat×Code)}(h:ids l=true){p q:Nat×Code}(D:p∈l)(E:q∈l)(I:q.1=p.1):q=p:=by
 have C:=ck.1 h p.1 (List.mem_map_of_mem D);have C:=cL C;have O:p∈l.filter λr=>Nat.beq r.1 p.1:=List.mem_filter.2 ⟨D,by simp⟩
 have U:q∈l.filter λr=>Nat.beq r.1 p.1:=List.mem_filter.2 ⟨E,by simp[I]⟩
 obtain⟨z,Y⟩:=List.length_eq_one_iff.1 C
 grind
def X5{P:Program}{N:Nat}{code:Code}(hi:ids (occs code)=true):∀ (l:aa (Nat×tU)),X4 P N code l -> rH P N (lI l) (occs code)
 |[],_=>λp D b h=>by cases h
 | (id,U) :: l,⟨⟨c,Y,h1⟩,I⟩=>λp D b h=>by
  have C:List.lookup p.1 _=some b:=h;rw[List.lookup_cons]at C;split at C
  ·rename_i E;have E:p.1=id:=by simpa using E
   injection C with C;subst C;have:=aeE _ p (λq O e=>asl hi D O e) D;simp_all
  ·exact X5 hi l I p D b C
def tW{P:Program}{N:Nat}{l:aa (Nat×Code)}:rH P N (lI []) l:=λp C b h=>by cases h
def ci(P:Program)(fn:Func)(C:Nat)(l:aa (Nat×rG)):vc:=aey P fn.ntmps (59000+C) (n8 l) (bf fn) fn.results
def A1{P:Program}{f:Nat}{fn:Func}(C:Nat)(l:aa (Nat×rG))(D:P.funcs[f]?=some fn)(hl:Da P l)(hb:fn.body=some (bf fn):=by kernel_rfl)(E:Nat.ble fn.ntmps 20000=true:=by kernel_rfl)(I:Nat.ble C 900=true:=by kernel_rfl)(O:(fn.name == "runtime.NumGoroutine")=false:=by kernel_rfl):enters P f/\pN P f (ci P fn C l):=
 asd D hb rfl (dj E) O ⟨by omega,by have:=dj I;omega⟩ (wV l hl)
def cj(P:Program)(fn:Func)(C:Nat)(l:aa (Nat×rG)):vc:=upI (ci P fn C l)
def Db{P:Program}{f:Nat}{fn:Func}{C:Nat}{l:aa (Nat×rG)}(h:enters P f/\pN P f (ci P fn C l)):enters P f/\pN P f (cj P fn C l):=⟨h.1,asj h.2⟩
def Qj{P:Program}{f:Nat}{fn:Func}{ai:aa (Bool×TC)}{ro:aa (Bool×TC×Nat)}{F:oL ai->ah (jB ro)}(N:Nat)(l:aa (Nat×rG))(b:aa (Nat×tU))(C:P.funcs[f]?=some fn)(hl:Da P l)(D:rH P N (lI b) (occs (bf fn)))(E:∀x,rJ P N (n8 l) (lI b) (bf fn) fn.results (l8 ai x) (m8 ro)=F x)(hb:fn.body=some (bf fn):=by kernel_rfl)(I:fn.ntmps=N:=by kernel_rfl)(O:(fn.name == "runtime.NumGoroutine")=false:=by kernel_rfl)(U:Nat.ble ai.length N=true:=by kernel_rfl)(Y:nj ro=true:=by kernel_rfl):enters P f/\jl P f (ir ai ro F):=ar3 C hb I O U Y (wV l hl) D E
def Dc{P:Program}{f:Nat}{fn:Func}{t:TC}{g:Nat}{F:aa (T t)->ah (aa (T t))}(N:Nat)(l:aa (Nat×rG))(b:aa (Nat×tU))(C:P.funcs[f]?=some fn)(hl:Da P l)(D:rH P N (lI b) (occs (bf fn)))(E:∀ x:aa (T t),rJ P N (n8 l) (lI b) (bf fn) fn.results [(false,[.sl t 0 false x])] (m8 [(false,.sl t,g)])=F x)
  (I:rJ P N (n8 l) (lI b) (bf fn) fn.results [(false,[.nil])] (m8 [(false,.sl t,g)])=some ([]:aa (T t)):=by kernel_rfl) (O:rJ P N (n8 l) (lI b) (bf fn) fn.results [(false,[.sl t 0 true []])] (m8 [(false,.sl t,g)])=some ([]:aa (T t)):=by kernel_rfl)
  (hb:fn.body=some (bf fn):=by kernel_rfl) (U:fn.ntmps=N:=by kernel_rfl) (Y:(fn.name == "runtime.NumGoroutine")=false:=by kernel_rfl) (JZ:Nat.ble 1 N=true:=by kernel_rfl) (fG:nj [(false,.sl t,g)]=true:=by kernel_rfl):enters P f/\jl P f (ir [(false,.sl t)] [(false,.sl t,g)] λx=>bif kM x.1 then some ([]:aa (T t))else F x.1):=ar4 C hb U Y JZ fG (wV l hl) D E I O
def asm{α β:Type}(a:α)(f:α->β):β:=f a
def aeF{P:Program}{id:Nat}{body:Code}{C:bF}{D:aa (Nat×bF)}{F:C.St->ah (C.St⊕vh D)}{fuel:C.St->Nat}(N:Nat)(l:aa (Nat×rG))(b:aa (Nat×tU))(hl:Da P l)(E:rH P N (lI b) (occs body))(I:∀x,FN P N (n8 l) (lI b) body C D x=F x):CY P N (.block id (.loop body)) (Qa id C D F fuel):=arZ (wV l hl) E I
abbrev W6 (x:Int):Int:=IntKind.i64.wrap x
/-! Words for what printed functions say often. -/
def xI{α β:Type}(l:aa α)(i:Int)(k:α->ah β):ah β:=if h:0<=i/\i.toNat<l.length then (let e:=l[i.toNat]'h.2;k e)else none
def xC{α β:Type}(l:aa α)(i:Int)(k:ah β):ah β:=if h:0<=i/\i.toNat<l.length then k else none
def xM{α β:Type}(l:aa α)(i:Int)(k:α->ah β):ah β:=if h:i.toNat<l.length then (let e:=l[i.toNat]'h;k e)else none
def xL{α β:Type}(l:aa α)(i:Int)(k:α->ah β):ah β:=if h:0<=i/\i.toNat<l.length then (if h:i.toNat<l.length then (let e:=l[i.toNat]'h;k e)else none)else none
def xZ{α:Type}(l:aa α):Bool:=bE (([]:aa α).length+l.length)
def xA{α:Type}(l:aa α):aa α:=([]:aa α)++l
def bw{S A C:Type}(L:S->ah (S⊕(A⊕Empty)))(s:S)(f:A->ah C):ah C:=(iter L aV s).bind (Sum.elim f (λz=>nomatch z))
def bU{S A B C:Type}(L:S->ah (S⊕(A⊕(B⊕Empty))))(s:S)(f:A->ah C)(g:B->ah C):ah C:=(iter L aV s).bind (Sum.elim f (Sum.elim g (λz=>nomatch z)))
def xG{S E:Type}(s:S):ah (S⊕E):=some (.inl s)
def az{S A E:Type}(v:A):ah (S⊕(A⊕E)):=some (.inr (.inl v))
def bx{S A B E:Type}(v:B):ah (S⊕(A⊕(B⊕E))):=some (.inr (.inr (.inl v)))
abbrev tI:Tm:=.lf (.int .i64)
abbrev tB:Tm:=.lf (.bool)
structure KC (P:Program) where
 f:Nat
 c:rG
 ok:enters P f/\Wz P f c
def KL{P:Program}(l:aa (KC P)):aa (Nat×rG):=l.map λk=>(k.f,k.c)
def vk{P:Program}:∀ l:aa (KC P),Da P (KL l)
 |[]=>trivial
 |k::l=>⟨k.ok,vk l⟩
structure BK (P:Program) (N:Nat) (code:Code) where
 id:Nat
 b:tU
 ok:CY P N (.block id (.loop (sZ code id))) b
section
variable {P:Program} {f N:Nat} {fn:Func} {code:Code}
def BL(l:aa (BK P N code)):aa (Nat×tU):=l.map λk=>(k.id,k.b)
def BC(l:aa (BK P N code)):aa (ah Code):=l.map λk=>(occs code).lookup k.id
def BD(l:aa (BK P N code)):aa (ah Code):=l.map λk=>some (.loop (sZ code k.id))
def aeG:∀ l:aa (BK P N code),BC l=BD l -> X4 P N code (BL l)
 |[],_=>trivial
 | k :: l,h=>by
  unfold BC BD at h;injection h with C D;exact⟨⟨_,C,k.ok⟩,aeG l D⟩
def BT(l:aa (BK P N code))(C:BC l=BD l)(hi:ids (occs code)=true):rH P N (lI (BL l)) (occs code):=X5 hi _ (aeG l C)
def lB(id:Nat)(C:bF)(D:aa (Nat×bF))(F:C.St->ah (C.St⊕vh D)):tU:=Qa id C D F λ_=>aV
def lp{body:Code}{id:Nat}{C:bF}{D:aa (Nat×bF)}{F:C.St->ah (C.St⊕vh D)}(l:aa (KC P))(E:∀x,FN P N (n8 (KL l)) (lI []) body C D x=F x:=by intro x;kernel_rfl):CY P N (.block id (.loop body)) (lB id C D F):=aeF N (KL l) [] (vk l) tW E
def lq{id:Nat}{C:bF}{D:aa (Nat×bF)}{F:C.St->ah (C.St⊕vh D)}(l:aa (KC P))(b:aa (BK P N code))(E:BC b=BD b:=by kernel_rfl)(hi:ids (occs code)=true:=by kernel_rfl)(I:∀x,FN P N (n8 (KL l)) (lI (BL b)) code C D x=F x:=by intro x;kernel_rfl):CY P N (.block id (.loop code)) (lB id C D F):=aeF N (KL l) (BL b) (vk l) (BT b E hi) I
def kp{ai:aa (Bool×TC)}{ro:aa (Bool×TC×Nat)}{F:oL ai->ah (jB ro)}(N:Nat)(l:aa (KC P))(C:P.funcs[f]?=some fn)(D:∀x,rJ P N (n8 (KL l)) (lI []) (bf fn) fn.results (l8 ai x) (m8 ro)=F x:=by intro x;kernel_rfl)(hb:fn.body=some (bf fn):=by kernel_rfl)(E:fn.ntmps=N:=by kernel_rfl)(I:(fn.name == "runtime.NumGoroutine")=false:=by kernel_rfl)(O:Nat.ble ai.length N=true:=by kernel_rfl)(U:nj ro=true:=by kernel_rfl):enters P f/\jl P f (ir ai ro F):=Qj N (KL l) [] C (vk l) tW D hb E I O U
def kq{ai:aa (Bool×TC)}{ro:aa (Bool×TC×Nat)}{F:oL ai->ah (jB ro)}(N:Nat)(l:aa (KC P))(b:aa (BK P N (bf fn)))(C:P.funcs[f]?=some fn)(D:BC b=BD b:=by kernel_rfl)(hi:ids (occs (bf fn))=true:=by kernel_rfl)(E:∀x,rJ P N (n8 (KL l)) (lI (BL b)) (bf fn) fn.results (l8 ai x) (m8 ro)=F x:=by intro x;kernel_rfl)(hb:fn.body=some (bf fn):=by kernel_rfl)(I:fn.ntmps=N:=by kernel_rfl)(O:(fn.name == "runtime.NumGoroutine")=false:=by kernel_rfl)(U:Nat.ble ai.length N=true:=by kernel_rfl)(Y:nj ro=true:=by kernel_rfl):enters P f/\jl P f (ir ai ro F):=Qj N (KL l) (BL b) C (vk l) (BT b D hi) E hb I O U Y
def km{ps:aa PK}{ro:aa (Bool×TC×Nat)}{F:mH ps->ah (jB ro×sM (fk ps))}(N:Nat)(l:aa (KC P))(C:P.funcs[f]?=some fn)(D:∀x,C6 P N (n8 (KL l)) (lI []) (bf fn) fn.results (oI ps x) (lD ps 0 x) (FO (fk ps) ro)=F x:=by intro x;kernel_rfl)(hb:fn.body=some (bf fn):=by kernel_rfl)(E:fn.ntmps=N:=by kernel_rfl)(I:(fn.name == "runtime.NumGoroutine")=false:=by kernel_rfl)(O:Nat.ble ps.length N=true:=by kernel_rfl)(U:Nat.ble N 20000=true:=by kernel_rfl)(Y:nj ro=true:=by kernel_rfl):enters P f/\yC P f ⟨ps,ro,F⟩:=Qg C hb E I O U Y (wV _ (vk l)) tW D
def kn{ps:aa PK}{ro:aa (Bool×TC×Nat)}{F:mH ps->ah (jB ro×sM (fk ps))}(N:Nat)(l:aa (KC P))(b:aa (BK P N (bf fn)))(C:P.funcs[f]?=some fn)(D:BC b=BD b:=by kernel_rfl)(hi:ids (occs (bf fn))=true:=by kernel_rfl)(E:∀x,C6 P N (n8 (KL l)) (lI (BL b)) (bf fn) fn.results (oI ps x) (lD ps 0 x) (FO (fk ps) ro)=F x:=by intro x;kernel_rfl)(hb:fn.body=some (bf fn):=by kernel_rfl)(I:fn.ntmps=N:=by kernel_rfl)(O:(fn.name == "runtime.NumGoroutine")=false:=by kernel_rfl)(U:Nat.ble ps.length N=true:=by kernel_rfl)(Y:Nat.ble N 20000=true:=by kernel_rfl)(fG:nj ro=true:=by kernel_rfl):enters P f/\yC P f ⟨ps,ro,F⟩:=Qg C hb I O U Y fG (wV _ (vk l)) (BT b D hi) E
def bB(ai:aa (Bool×TC))(ro:aa (Bool×TC×Nat))(F:oL ai->ah (jB ro))(N:Nat)(l:aa (KC P))(C:P.funcs[f]?=some fn)(D:∀x,rJ P N (n8 (KL l)) (lI []) (bf fn) fn.results (l8 ai x) (m8 ro)=F x:=by intro x;kernel_rfl)(hb:fn.body=some (bf fn):=by kernel_rfl)(E:fn.ntmps=N:=by kernel_rfl)(I:(fn.name == "runtime.NumGoroutine")=false:=by kernel_rfl)(O:Nat.ble ai.length N=true:=by kernel_rfl)(U:nj ro=true:=by kernel_rfl):KC P:=⟨f,.p (ir ai ro F),Qj N (KL l) [] C (vk l) tW D hb E I O U⟩
def bZ(ai:aa (Bool×TC))(ro:aa (Bool×TC×Nat))(F:oL ai->ah (jB ro))(N:Nat)(l:aa (KC P))(b:aa (BK P N (bf fn)))(C:P.funcs[f]?=some fn)(D:BC b=BD b:=by kernel_rfl)(hi:ids (occs (bf fn))=true:=by kernel_rfl)(E:∀x,rJ P N (n8 (KL l)) (lI (BL b)) (bf fn) fn.results (l8 ai x) (m8 ro)=F x:=by intro x;kernel_rfl)(hb:fn.body=some (bf fn):=by kernel_rfl)(I:fn.ntmps=N:=by kernel_rfl)(O:(fn.name == "runtime.NumGoroutine")=false:=by kernel_rfl)(U:Nat.ble ai.length N=true:=by kernel_rfl)(Y:nj ro=true:=by kernel_rfl):KC P:=⟨f,.p (ir ai ro F),Qj N (KL l) (BL b) C (vk l) (BT b D hi) E hb I O U Y⟩
def kQ(ps:aa PK)(ro:aa (Bool×TC×Nat))(F:mH ps->ah (jB ro×sM (fk ps)))(N:Nat)(l:aa (KC P))(C:P.funcs[f]?=some fn)(D:∀x,C6 P N (n8 (KL l)) (lI []) (bf fn) fn.results (oI ps x) (lD ps 0 x) (FO (fk ps) ro)=F x:=by intro x;kernel_rfl)(hb:fn.body=some (bf fn):=by kernel_rfl)(E:fn.ntmps=N:=by kernel_rfl)(I:(fn.name == "runtime.NumGoroutine")=false:=by kernel_rfl)(O:Nat.ble ps.length N=true:=by kernel_rfl)(U:Nat.ble N 20000=true:=by kernel_rfl)(Y:nj ro=true:=by kernel_rfl):KC P:=⟨f,.m ⟨ps,ro,F⟩,Qg C hb E I O U Y (wV _ (vk l)) tW D⟩
def oM(ps:aa PK)(ro:aa (Bool×TC×Nat))(F:mH ps->ah (jB ro×sM (fk ps)))(N:Nat)(l:aa (KC P))(b:aa (BK P N (bf fn)))(C:P.funcs[f]?=some fn)(D:BC b=BD b:=by kernel_rfl)(hi:ids (occs (bf fn))=true:=by kernel_rfl)(E:∀x,C6 P N (n8 (KL l)) (lI (BL b)) (bf fn) fn.results (oI ps x) (lD ps 0 x) (FO (fk ps) ro)=F x:=by intro x;kernel_rfl)(hb:fn.body=some (bf fn):=by kernel_rfl)(I:fn.ntmps=N:=by kernel_rfl)(O:(fn.name == "runtime.NumGoroutine")=false:=by kernel_rfl)(U:Nat.ble ps.length N=true:=by kernel_rfl)(Y:Nat.ble N 20000=true:=by kernel_rfl)(fG:nj ro=true:=by kernel_rfl):KC P:=⟨f,.m ⟨ps,ro,F⟩,Qg C hb I O U Y fG (wV _ (vk l)) (BT b D hi) E⟩
def xU0{A R:Type}(F:R)(_:A):R:=F
def bN{A Z R:Type}(F:A->R)(x:A×Z):R:=F x.1
def bR{A B Z R:Type}(F:A->B->R)(x:A×B×Z):R:=F x.1 x.2.1
def fP{A B C Z R:Type}(F:A->B->C->R)(x:A×B×C×Z):R:=F x.1 x.2.1 x.2.2.1
def nq{A B C D Z R:Type}(F:A->B->C->D->R)(x:A×B×C×D×Z):R:=F x.1 x.2.1 x.2.2.1 x.2.2.2.1
def Dd{A B C D E Z R:Type}(F:A->B->C->D->E->R)(x:A×B×C×D×E×Z):R:=F x.1 x.2.1 x.2.2.1 x.2.2.2.1 x.2.2.2.2.1
end
end Go.Proofs.YtdfkhfiglknaoaaGreat
