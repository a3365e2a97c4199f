/-
  Running the program over pure contents, and that it follows (part Z). Nothing here is a claim.
-/
import Derived.Test.YtgjfmljpdnnihaaGreatV4
set_option linter.unusedSimpArgs false
namespace Go.Proofs.YtgjfmljpdnnihaaGreat
set_option linter.defProp false
open Go.RowKit
set_option linter.unusedVariables false
section
variable {P:Program} {w w':World} {w0:Wd} {B N:Nat} {af az:bk} {ρ ρ':Nat->Loc} {σ:S} {a:Act} {X:Type} {d:Nat} {r:X} {o:Oper} {Φ:dR} {Λ:mg}
def ajD{E:aj Tmp}{g:Bool}{k:S -> aj X}(h:r3 σ E g k=some r):∃ C,k C=some r /\ ∀ a w,R w0 N σ a w -> R w0 N C a w:=by
 unfold r3 at h;cases g with
 |false=>grind
 | true=>
  rw[aq]at h;split at h
  ·rename_i d;split at h
   ·rename_i b hb;have key:∀ c:Bool,b=c -> ∀ a w,R w0 N σ a w -> R w0 N (σ.set d (.lf (.v (.bool c)))) a w:=by
     rintro c rfl a w ⟨af,ρ,hR⟩
     refine⟨af,ρ,hR.below,hR.cL,hR.root,λk=>?_,hR.size,hR.defers,hR.fix,hR.cD⟩
     show RA w w0.heap.size af ρ (bG σ.t d (.lf (.v (.bool b))) k) _;by_cases D:k=d
     ·subst D;rw[bJ,<- hb];exact hR.tmp k
     ·rw[cc _ _ _ D];exact hR.tmp k
    grind
   ·grind
  ·grind
def KU(U:fC P Φ)(ops:Array Oper):∀ (rest:aa Oper) (j:Nat) (σ:S) (k:S -> aj X),Bd P N Φ ops j rest σ k=some r -> ∃ cG,k cG=some r /\ ∀ a w,R w0 N σ a w -> ∀ Q,(∀ E w',R w0 N cG E w' -> Q Exit.normal E w') -> wpList P ops Q rest a w
 |[],j,σ,k,h=>⟨σ,h,λa w hR Q D=>D a w hR⟩
 | o :: rest,j,σ,k,h=>by
  unfold Bd at h;split at h
  ·rename_i Y;obtain⟨o6,h1,r9⟩:=aiy U h;obtain⟨σ2,h2,uK⟩:=ajD h1;obtain⟨I,O,T⟩:=KU U ops rest (j+1) σ2 k h2
   refine⟨I,O,λa w hR Q D=>?_⟩
   obtain⟨af,ρ,C⟩:=hR;simp only[wpList,Dm Y C,if_true];exact .inl (r9 a w _ Q ⟨af,ρ,C⟩ λE w' rZ=>T E w' (uK E w' rZ) Q D)
  ·rename_i Y;unfold gG at h;split at h
   ·rename_i Z;obtain⟨I,O,T⟩:=KU U ops rest _ σ k h
    refine⟨I,O,λa w hR Q D=>?_⟩
    obtain⟨af,ρ,C⟩:=hR;simp[wpList,Dm Y C,Z];exact T a w ⟨af,ρ,C⟩ Q D
   ·rename_i d Z;cases hN:Nat.blt d N with
    |false=>simp_all
    | true=>
     rw[hN,aq]at h;obtain⟨I,O,T⟩:=KU U ops rest (j+1) _ k h
     refine⟨I,O,λa w hR Q D=>?_⟩
     obtain⟨af,ρ,C⟩:=hR;simp only[wpList,Dm Y C,Z];exact T _ w ⟨af,ρ,C.set rfl (by have:=cr hN;omega)⟩ Q D
  ·cases h
def Dn(dI:fC P Φ):∀ (c:Code) (σ:S) (k:Exit->S->aj X),kQ P N Φ Λ c σ k=some r->ox P N Λ (occs c)->AW P w0 N c σ λe D=>k e D=some r:=by
 intro c
 induction c with
 |skip=>exact λσ k h _ a w hR=>wp_skip ⟨σ,h,hR⟩
 |label l=>exact λσ k h _ a w hR=>wp_label ⟨σ,h,hR⟩
 |ret=>exact λσ k h _ a w hR=>wp_ret ⟨σ,h,hR⟩
 |exit id=>exact λσ k h _ a w hR=>wp_exit ⟨σ,h,hR⟩
 | region id ops draw=>
  intro σ k h _ a w hR;cases draw with
  | true=>
   simp only[kQ]at h;cases hm:P.follows .mixedOrders with
   |false=>rw[hm]at h;cases h
   | true=>
    rw[hm,aq]at h
    haveI:Inhabited Wd:=⟨w0⟩
    exact ajC dI hm h (λτ gQ a w hR=>⟨τ,gQ,hR⟩) hR
  | false=>
   simp only[kQ]at h;obtain⟨D,h',hw⟩:=KU (w0:=w0) dI ops _ _ _ _ h;exact wp_region_list (hw a w hR _ λT w' C=>⟨D,h',C⟩)
 | seq x y U Y=>
  intro σ k h I a w hR;simp only[kQ]at h;have Z:=U σ _ h (λp E=>I p (List.mem_append_left _ E))
  refine wp_seq (wp_mono (Z a w hR) λe T w' he=>?_)
  obtain⟨D,O,C⟩:=he;cases e with
  |normal=>exact Y D k O (λp E=>I p (List.mem_append_right _ E)) T w' C
  |_=>exact⟨D,O,C⟩
 | cond c x y U Y=>
  intro σ k h I a w hR;simp only[kQ]at h;split at h
  ·rename_i b hb;obtain⟨af,ρ,C⟩:=hR;have hc:=C.aI c;rw[hb]at hc;have YP:=hc.2.yA;cases b with
   |true=>exact wp_cond_true YP (U σ k h (λp E=>I p (List.mem_append_left _ E)) a w ⟨af,ρ,C⟩)
   |false=>exact wp_cond_false YP (Y σ k h (λp E=>I p (List.mem_append_right _ E)) a w ⟨af,ρ,C⟩)
  ·cases h
 | block id c ih=>
  intro σ k h I a w hR;simp only[kQ]at h;split at h
  next b hb=>exact I (id,c) (.head _) b hb X σ k r w0 h a w hR
  ·have Z:=ih σ _ h (λp E=>I p (.tail _ E))
   refine wp_block (wp_mono (Z a w hR) λe T w' he=>?_)
   obtain⟨D,O,C⟩:=he;cases e with
   | exit YQ=>
    simp only[Exit.inBlock];by_cases hid:YQ=id
    ·simp only[hid,if_true]at O ⊢;exact⟨D,O,C⟩
    ·simp only[hid,if_false]at O ⊢;exact⟨D,O,C⟩
   |_=>exact⟨D,O,C⟩
 |_=>exact λσ k h=>by simp[kQ]at h
end
/-! What a loop carries. -/
inductive Lm where
 |int (k:IntKind)
 |bool
 |str
 |own (r:Nat)
 |aG (t:TC) (o:Nat)
def Lm.T:Lm->Type
 |.int _=>Int
 |.bool=>Bool
 |.str=>ByteArray
 |.own _=>ah
 |.aG t _=>aa (Proofs.YtgjfmljpdnnihaaGreat.T t)
def Lm.mk:(m:Lm)->m.T->Lf
 |.int k,n=>.v (.int k n)
 |.bool,b=>.v (.bool b)
 |.str,s=>.v (.str s)
 |.own r,_=>.own [r]
 |.aG t o,l=>.v (.sl t o false l)
def Lm.rd:(m:Lm)->Lf->aj m.T
 |.int k,.v (.int C n)=>if C=k then some n else none
 |.bool,.v (.bool b)=>some b
 |.str,.v (.str s)=>some s
 |.own r,.own [D]=>bif Nat.beq D r then some ()else none
 |.aG t o,.v x=>bif Nat.blt o 2 then x.eZ t o else none
 |_,_=>none
inductive Tm where
 |lf (m:Lm)
 |aH (r j:Nat)
 |fp (t:TC) (o:Nat)
 |fc (f:Nat) (t:TC)
 |ag (t:TC)
 |pk (r n:Nat)
def Tm.T:Tm->Type
 |.lf m=>m.T
 |.aH _ _=>ah
 |.fp t _=>Proofs.YtgjfmljpdnnihaaGreat.T t
 |.fc _ t=>Proofs.YtgjfmljpdnnihaaGreat.T t
 |.ag t=>Proofs.YtgjfmljpdnnihaaGreat.T t
 |.pk _ _=>ah
def Tm.mk:(m:Tm)->m.T->A
 |.lf m,x=>.lf (m.mk x)
 |.aH r j,_=>.aH r j
 |.fp t o,x=>.iX (enc t o x)
 |.fc f t,x=>.mO f (enc t 0 x)
 |.ag t,x=>.agg ((enc t 0 x).map .v)
 |.pk r n,_=>.pk r n
def Tm.rd:(m:Tm)->A->aj m.T
 |.lf m,.lf x=>m.rd x
 |.aH r j,.aH C D=>bif Nat.beq C r&&Nat.beq D j then some ()else none
 |.fp t o,.iX cs=>bif Nat.blt o 2 then dec t o cs else none
 |.fc f t,.mO f' cs=>bif Nat.beq f' f then dec t 0 cs else none
 | .ag t,.agg cs=>(match uQ cs with
  |some E=>dec t 0 E
  |none=>none)
 |.pk r n,.pk C n'=>bif Nat.beq C r&&Nat.beq n' n then some ()else none
 |_,_=>none
def GA:aa Lm->Type
 |[]=>ah
 |m::C=>m.T×GA C
def wX:(C:aa Lm)->GA C->aa Lf
 |[],_=>[]
 |m::C,x=>m.mk x.1::wX C x.2
def KV:(C:aa Lm)->aa Lf->aj (GA C)
 |[],[]=>some ()
 | m :: C,x :: xs=>match m.rd x,KV C xs with
  |some y,some ys=>some (y,ys)
  |_,_=>none
 |_,_=>none
inductive Rm where
 |sl (t:TC) (o:Nat)
 |st (t:TC)
 |ay (ms:List Lm)
 |mp
def Rm.T:Rm->Type
 |.sl t _=>aa (Proofs.YtgjfmljpdnnihaaGreat.T t)
 |.st t=>Proofs.YtgjfmljpdnnihaaGreat.T t
 |.ay C=>GA C
 |.mp=>aa (Int×Bool)
def Rm.mk:(m:Rm)->m.T->aP
 |.sl t o,l=>.sl (.sl t o false l)
 |.st t,x=>.ay ((enc t 0 x).map .v)
 |.ay C,x=>.ay (wX C x)
 |.mp,l=>.mp l
def Rm.rd:(m:Rm)->aP->aj m.T
 |.sl t o,.sl y=>y.eZ t o
 | .st t,.ay cs=>(match uQ cs with
  |some C=>dec t 0 C
  |none=>none)
 |.ay D,.ay cs=>KV D cs
 |.mp,.mp l=>some l
 |_,_=>none
def Dp:aa (Nat×Tm)->Type
 |[]=>ah
 |(_,m)::C=>m.T×Dp C
def wY:(C:aa (Nat×Tm))->Dp C->Nat->A
 |[],_,_=>.undef
 |(n,m)::C,x,k=>bif Nat.beq k n then m.mk x.1 else wY C x.2 k
def GB:(C:aa (Nat×Tm))->(Nat->A)->aj (Dp C)
 |[],_=>some ()
 | (n,m) :: C,t=>match m.rd (t n),GB C t with
  |some x,some xs=>some (x,xs)
  |_,_=>none
def wZ:aa (Nat×Rm)->Type
 |[]=>ah
 |(_,m)::C=>m.T×wZ C
def w7:(C:aa (Nat×Rm))->wZ C->Nat->aj aP
 |[],_,_=>none
 |(n,m)::C,x,k=>bif Nat.beq k n then some (m.mk x.1)else w7 C x.2 k
def Dq:(C:aa (Nat×Rm))->(Nat->aj aP)->aj (wZ C)
 |[],_=>some ()
 | (n,m) :: C,t=>match (t n).bind m.rd,Dq C t with
  |some x,some xs=>some (x,xs)
  |_,_=>none
structure jm where
 ts:List (Nat×Tm)
 rs:List (Nat×Rm)
def jm.St(C:jm):Type:=Dp C.ts×wZ C.rs
def jm.mk'(C:jm)(x:C.St):S:=⟨wY C.ts x.1,w7 C.rs x.2⟩
def jm.KW(C:jm)(σ:S):aj C.St:=match GB C.ts σ.t,Dq C.rs σ.m with
 |some x,some y=>some (x,y)
 |_,_=>none
/-! Roots by other names. -/
abbrev Rn:=aa (Nat×Nat)
def Rn.inv(rs:Rn)(n:Nat):aj Nat:=(rs.find? λp=>Nat.beq p.2 n).map (·.1)
def Rn.add(rs:Rn)(r n:Nat):Rn:=bif rs.any (λp=>Nat.beq p.1 r&&Nat.beq p.2 n)then rs else (r,n)::rs
def RL(n:Nat):aj Nat->Bool
 |some m=>Nat.beq m n
 |none=>false
def Rn.ok(rs:Rn):Bool:=rs.all λp=>(Nat.beq p.1 p.2 ||Nat.ble 60000 p.2)&&RL p.2 (rs.lookup p.1)&&RL p.1 (rs.inv p.2)
def Lf.dQ(rs:Rn):Lf->Lf
 |.v x=>.v x
 | .own [r]=>(match rs.lookup r with
  |some n=>.own [n]
  |none=>.dead)
 |_=>.dead
def A.dQ(rs:Rn):A->A
 |.lf x=>.lf (x.dQ rs)
 | .aH r j=>(match rs.lookup r with
  |some n=>.aH n j
  |none=>.undef)
 |.iX cs=>.iX cs
 |.mO f cs=>.mO f cs
 |.agg cs=>.agg (cs.map (Lf.dQ rs))
 |_=>.undef
def aP.dQ(rs:Rn):aP->aP
 |.ay cs=>.ay (cs.map (Lf.dQ rs))
 |.sl y=>.sl y
 |.mp l=>.mp l
 |.gh _=>.gh []
def S.dQ(rs:Rn)(σ:S):S:=⟨λk=>(σ.t k).dQ rs,λn=>match rs.inv n with
 |some r=>(σ.m r).map (aP.dQ rs)
 |none=>none⟩
def YR:Lm->Lf->Rn->Rn
 |.own n,.own [r],rs=>rs.add r n
 |_,_,rs=>rs
def RM:aa Lm->aa Lf->Rn->Rn
 |m::C,x::xs,rs=>RM C xs (YR m x rs)
 |_,_,rs=>rs
def rnT:Tm->A->Rn->Rn
 |.lf m,.lf x,rs=>YR m x rs
 |.aH n j,.aH r C,rs=>rs.add r n
 |_,_,rs=>rs
def YS(t:Nat->A):aa (Nat×Tm)->Rn->Rn
 |[],rs=>rs
 |(k,m)::C,rs=>YS t C (rnT m (t k) rs)
def YT(m:Nat->aj aP):aa (Nat×Rm)->Rn->Rn
 |[],rs=>rs
 | (n,x) :: xs,rs=>YT m xs (match x,rs.inv n with
  | .ay C,some r=>(match m r with
   |some (.ay cs)=>RM C cs rs
   |_=>rs)
  | .ay C,none=>(match m n with
   |some (.ay cs)=>RM C cs (rs.add n n)
   |_=>rs)
  |_,some _=>rs
  |_,none=>rs.add n n)
def jm.rn(C:jm)(σ:S):Rn:=YT σ.m C.rs (YS σ.t C.ts [])
def RN(rs:aa (Nat×Rm))(p:Nat×Tm)(σ:S):S:=match p.2,σ.t p.1 with
 | .lf (.own n),.lf (.v .nil)=>(match rs.lookup n with
  |some (.sl t o)=>bif Nat.ble 60000 n then ⟨bG ((σ.drop n).root n (.sl (.sl t o false []))).t p.1 (.lf (.own [n])),((σ.drop n).root n (.sl (.sl t o false []))).m⟩else σ
  |_=>σ)
 |_,_=>σ
def KZ(rs:aa (Nat×Rm)):aa (Nat×Tm)->S->S
 |[],σ=>σ
 |p::ps,σ=>KZ rs ps (RN rs p σ)
def RO(n j r:Nat)(σ:S):S:=match σ.m r with
 | some (.ay cs)=>(match cs[j]? with
  |some (.v .nil)=>⟨σ.t,bG σ.m r (some (.ay (cs.set j (.own [n]))))⟩
  |_=>σ)
 |_=>σ
def RQ(rs:aa (Nat×Rm))(n j r:Nat)(σ:S):S:=match rs.lookup n with
 |some (.sl t o)=>bif Nat.ble 60000 n then RO n j r ((σ.drop n).root n (.sl (.sl t o false [])))else σ
 |_=>σ
def Bk(rs:aa (Nat×Rm))(r:Nat):Nat->aa Lm->aa Lf->S->S
 |j,.own n::C,.v .nil::cs,σ=>Bk rs r (j+1) C cs (RQ rs n j r σ)
 |j,_::C,_::cs,σ=>Bk rs r (j+1) C cs σ
 |_,_,_,σ=>σ
def K0(rs:aa (Nat×Rm)):aa (Nat×Rm)->S->S
 |[],σ=>σ
 | (r,.ay C) :: ps,σ=>K0 rs ps (match σ.m r with
  |some (.ay cs)=>Bk rs r 0 C cs σ
  |_=>σ)
 |_::ps,σ=>K0 rs ps σ
def jm.YU(C:jm)(σ:S):aj C.St:=bif (C.rn σ).ok then C.KW (K0 C.rs C.rs (σ.dQ (C.rn σ)))else none
def jm.rd(C:jm)(σ:S):aj C.St:=match C.KW σ with
 |some x=>some x
 |none=>C.YU (KZ C.rs C.ts σ)
section
variable {P:Program} {w w':World} {w0:Wd} {B N:Nat} {af az:bk} {ρ ρ':Nat->Loc} {σ:S} {a:Act} {X:Type} {d:Nat} {r:X} {o:Oper} {Φ:dR} {Λ:mg}
def Lm.pn{m:Lm}{x:Lf}{y:m.T}(h:m.rd x=some y){u:Value}(C:dH w B af ρ x u):dH w B af ρ (m.mk y) u:=by
 unfold Lm.rd at h;split at h
 ·split at h
  next D=>subst D;injection h with h;subst h;exact C
  ·cases h
 ·injection h with h;subst h;exact C
 ·injection h with h;subst h;exact C
 ·rename_i E I;cases hb:Nat.beq I E with
  |false=>simp_all
  |true=>obtain rfl:=cE hb;exact C
 ·rename_i t o x;cases hb:Nat.blt o 2 with
  |false=>rw[hb]at h;cases h
  | true=>
   rw[hb]at h;have:=cr hb;exact⟨by simp[V.aG];omega,C.2.wk (V.E4 h)⟩
 ·cases h
def Tm.pn{m:Tm}{x:A}{y:m.T}(h:m.rd x=some y){u:Value}(I:RA w B af ρ x u):RA w B af ρ (m.mk y) u:=by
 cases m with
 | lf m=>
  cases x with
  |lf x=>exact Lm.pn h I
  |_=>cases h
 | aH r j=>
  cases x with
  | aH U j'=>
   have h:(bif Nat.beq U r&&Nat.beq j' j then some ()else none)=some y:=h;cases hb:(Nat.beq U r&&Nat.beq j' j)with
   |false=>simp_all
   | true=>
    rw[aJ]at hb;obtain rfl:=cE hb.1;obtain rfl:=cE hb.2;exact I
  |_=>cases h
 | fp t o=>
  cases x with
  | iX cs=>
   have h:(bif Nat.blt o 2 then dec t o cs else none)=some y:=h;cases hb:Nat.blt o 2 with
   |false=>simp_all
   | true=>
    rw[hb,aq]at h;have ho:=cr hb;have D:=lz t o cs y h;obtain⟨b,off,Y,Z,h3,h4⟩:=I
    refine⟨b,off,Y,Z,h3,λj z C=>?_⟩
    have hj:j<cs.length:=by rw[D.1];exact(dA.1 C).1
    have E:=bH hj;obtain⟨g1,v,g2,g3⟩:=h4 j _ E;exact⟨oR t o y (by omega) j z C,v,g2,g3.wk (D.2 j _ z E C)⟩
  |_=>cases h
 | fc f t=>
  cases x with
  | mO f' cs=>
   have h:(bif Nat.beq f' f then dec t 0 cs else none)=some y:=h;cases hb:Nat.beq f' f with
   |false=>simp_all
   | true=>
    rw[hb,aq]at h;obtain rfl:=cE hb;have D:=lz t 0 cs y h;obtain⟨pv,e0,b,off,Y,Z,h3,h4⟩:=I
    refine⟨pv,e0,b,off,Y,Z,h3,λj z C=>?_⟩
    have hj:j<cs.length:=by rw[D.1];exact(dA.1 C).1
    have E:=bH hj;obtain⟨g1,v,g2,g3⟩:=h4 j _ E;exact⟨oR t 0 y (by omega) j z C,v,g2,g3.wk (D.2 j _ z E C)⟩
  |_=>cases h
 | ag t=>
  cases x with
  | agg cs=>
   have h:(match uQ cs with|some O=>dec t 0 O|none=>none)=some y:=h;cases jJ:uQ cs with
   |none=>simp_all
   | some O=>
    rw[jJ]at h;have h:dec t 0 O=some y:=h;have gj:=JM _ _ jJ;have D:=lz t 0 O y h;obtain⟨us,Y,Z,h3⟩:=I
    refine⟨us,Y,?_,λj x hx=>?_⟩
    ·rw[Z,gj,eN,eN,D.1]
    ·rw[dW]at hx;cases C:(enc t 0 y)[j]? with
     |none=>simp_all
     | some z=>
      rw[C]at hx;injection hx with hx;subst hx;have hj:j<O.length:=by rw[D.1];exact(dA.1 C).1
      have E:=bH hj;obtain⟨v,g1,g2⟩:=h3 j (.v O[j]) (by rw[gj,dW,E];rfl);exact⟨v,g1,oR t 0 y (by omega) j z C,g2.2.wk (D.2 j _ z E C)⟩
  |_=>cases h
 | pk r n=>
  cases x with
  | pk U n'=>
   have h:(bif Nat.beq U r&&Nat.beq n' n then some ()else none)=some y:=h;cases hb:(Nat.beq U r&&Nat.beq n' n)with
   |false=>simp_all
   | true=>
    rw[aJ]at hb;obtain rfl:=cE hb.1;obtain rfl:=cE hb.2;exact I
  |_=>cases h
def YV:∀ (C:aa Lm) (cs:aa Lf) (y:GA C),KV C cs=some y -> (wX C y).length=cs.length /\ ∀ (j:Nat) x,(wX C y)[j]?=some x -> ∃ z,cs[j]?=some z/\(∀ (w:World) (B:Nat) (af:bk) (ρ:Nat -> Loc) (u:Value),dH w B af ρ z u -> dH w B af ρ x u)
 |[],[],y,h=>⟨rfl,λj x D=>by simp[wX]at D⟩
 | m :: C,c :: cs,y,h=>by
  unfold KV at h;split at h
  ·rename_i Y ys E I;injection h with h;subst h;obtain⟨O,T⟩:=YV C cs ys I
   refine⟨by simp[wX,O],λj x D=>?_⟩
   cases j with
   |zero=>simp[wX]at D;subst D;exact⟨c,rfl,λw B af ρ u U=>Lm.pn E U⟩
   |succ j=>exact T j x (by simpa [wX]using D)
  ·cases h
def Rm.pn{m:Rm}{x:aP}{y:m.T}(h:m.rd x=some y){n:Nat}(C:dM w B af ρ n x):dM w B af ρ n (m.mk y):=by
 cases m with
 | sl t o=>
  cases C with
  |sl v y' D hr=>exact .sl v _ D (hr.wk (V.E4 h))
  |ay=>cases h
  |mp=>cases h
  |gh=>cases h
 | mp=>
  cases C with
  |gh=>cases h
  |sl=>cases h
  |ay=>cases h
  |mp b c es l D hl I he=>injection h with h;subst h;exact .mp b c es _ D hl I he
 | st t=>
  cases C with
  |sl=>cases h
  |mp=>cases h
  |gh=>cases h
  | ay b off cells e cs us D hl I O Z=>
   have h:(match uQ cs with|some E=>dec t 0 E|none=>none)=some y:=h;cases jJ:uQ cs with
   |none=>simp_all
   | some E=>
    rw[jJ]at h;have h:dec t 0 E=some y:=h;have gj:=JM _ _ jJ;have Y:=lz t 0 E y h
    refine .ay b off cells e _ us D hl I (by rw[eN,<- Y.1];rw[gj,eN]at O;exact O) λj x C=>?_
    rw[dW]at C;cases U:(enc t 0 y)[j]? with
    |none=>simp_all
    | some z=>
     rw[U]at C;injection C with C;subst C;have hj:j<E.length:=by rw[Y.1];exact(dA.1 U).1
     have hv:=bH hj;obtain⟨h1,h2⟩:=Z j (.v E[j]) (by rw[gj,dW,hv];rfl);exact⟨h1,oR t 0 y (by omega) j z U,h2.2.wk (Y.2 j _ z hv U)⟩
 | ay ms=>
  cases C with
  |sl=>cases h
  |mp=>cases h
  |gh=>cases h
  | ay b off cells e cs us D hl I O Z=>
   obtain⟨k1,k2⟩:=YV ms cs y h
   refine .ay b off cells e _ us D hl I (by show off+(wX ms y).length <= _;rw[k1];exact O) λj x C=>?_
   grind
def RR:∀ (C:aa (Nat×Tm)) (t:Nat -> A) (y:Dp C),GB C t=some y -> ∀ k,wY C y k = .undef \/ ∃ m z,(Tm.rd m (t k)=some z/\wY C y k=m.mk z)
 |[],t,y,h,k=>.inl rfl
 | (n,m) :: C,t,y,h,k=>by
  unfold GB at h;split at h
  ·rename_i x xs D E;injection h with h;subst h;by_cases I:k=n
   ·subst I;exact .inr ⟨m,x,D,by simp[wY]⟩
   ·have hb:Nat.beq k n=false:=by
     cases hb:Nat.beq k n with
     |false=>rfl
     |true=>simp_all
    simp only[wY,hb,av];exact RR C t xs E k
  ·cases h
def RS:∀ (C:aa (Nat×Rm)) (t:Nat -> aj aP) (y:wZ C),Dq C t=some y -> ∀ k,w7 C y k=none \/ ∃ m x z,t k=some x/\Rm.rd m x=some z/\w7 C y k=some (m.mk z)
 |[],t,y,h,k=>.inl rfl
 | (n,m) :: C,t,y,h,k=>by
  unfold Dq at h;split at h
  ·rename_i x xs D E;injection h with h;subst h;by_cases I:k=n
   ·subst I;cases O:t k with
    |none=>simp_all
    |some z=>rw[O]at D;exact .inr ⟨m,z,x,rfl,D,by simp[w7]⟩
   ·have hb:Nat.beq k n=false:=by
     cases hb:Nat.beq k n with
     |false=>rfl
     |true=>simp_all
    simp only[w7,hb,av];exact RS C t xs E k
  ·cases h
def jm.YW{C:jm}{x:C.St}(h:C.KW σ=some x)(hR:R w0 N σ a w):R w0 N (C.mk' x) a w:=by
 unfold jm.KW at h;split at h
 ·rename_i u v O T;injection h with h;subst h;obtain⟨af,ρ,hR⟩:=hR
  refine⟨af,ρ,hR.below,hR.cL,λn y D=>?_,λk=>?_,hR.size,hR.defers,hR.fix,hR.cD⟩
  ·have D:w7 C.rs v n=some y:=D;rcases RS C.rs σ.m v T n with e | ⟨m,x,z,E,I,U⟩
   ·simp_all
   ·rw[U]at D;injection D with D;subst D;exact Rm.pn I (hR.root n x E)
  ·show RA _ _ _ _ (wY C.ts u k) _;rcases RR C.ts σ.t u O k with e | ⟨m,z,E,I⟩
   ·rw[e];trivial
   ·rw[I];exact Tm.pn E (hR.tmp k)
 ·cases h
def YX{n:Nat}{o:aj Nat}(h:RL n o=true):o=some n:=by
 cases o with
 |none=>cases h
 |some m=>rw[cE h]
def YY{rs:Rn}{r n:Nat}(h:rs.lookup r=some n):(r,n)∈rs:=by
 induction rs with
 |nil=>cases h
 |cons p rs C =>grind
def YZ{rs:Rn}{r n:Nat}(h:rs.inv n=some r):(r,n)∈rs:=by
 unfold Rn.inv at h;cases C:rs.find? _ with
 |none=>rw[C]at h;cases h
 | some p=>
  rw[C]at h;injection h with h;subst h;have D:=List.find?_some C;have E:=List.mem_of_find?_eq_some C;rw[<- cE D];exact E
def Rn.eP(rs:Rn)(ρ:Nat->Loc):Nat->Loc:=λn=>match rs.inv n with
 |some r=>ρ r
 |none=>ρ n
def Rn.K1{rs:Rn}(h:rs.ok=true){r n:Nat}(C:(r,n)∈rs):(r=n \/ 60000 <= n)/\rs.lookup r=some n/\rs.inv n=some r:=by
 have:=bN.1 h _ C;rw[aJ,aJ,dS]at this;refine⟨?_,YX this.1.2,YX this.2⟩;simp_all
def dH.dQ{rs:Rn}(C:rs.ok=true){x:Lf}{u:Value}(h:dH w B af ρ x u):dH w B (dY af rs id) (rs.eP ρ) (x.dQ rs) u:=by
 unfold Lf.dQ;split
 ·exact⟨h.1,h.2.Jp h.1 λb=>yU⟩
 ·rename_i r;split
  next n D=>have hi:=(Rn.K1 C (YY D)).2.2;refine⟨h.1,?_⟩;have E:=h.2;simp[cF]at E ⊢;unfold Rn.eP;simp_all
  ·trivial
 ·trivial
def Rl.dQ{rs:Rn}(O:rs.ok=true)(h:Rl w0 N af ρ σ a w):Rl w0 N (dY af rs id) (rs.eP ρ) (σ.dQ rs) a w:=by
 have hl:∀ b r n,af b=some [r] -> rs.lookup r=some n -> dY af rs id b=some [n]:=by
  intro b r n E I;simp[dY,E,I]
 refine⟨h.below,λb k D=>?_,λn x C=>?_,λk=>?_,h.size,h.defers,λr l U=>?_,h.cD⟩
 ·unfold dY at D;split at D
  ·cases D
  ·rename_i k0 J8;split at D
   ·cases D
   ·rename_i r U;cases hn:rs.lookup r with
    |none=>grind
    | some n=>
     rw[hn]at D;injection D with D;subst D;obtain⟨E,I,_⟩:=h.cL b k0 J8;simp_all
 ·have C:(match rs.inv n with | some r=>(σ.m r).map (aP.dQ rs) | none=>none)=some x:=C;cases hi:rs.inv n with
  |none=>grind
  | some r=>
   rw[hi]at C;have C:(σ.m r).map (aP.dQ rs)=some x:=C;have tC:=(Rn.K1 O (YZ hi)).2.1;have bV:rs.eP ρ n=ρ r:=by unfold Rn.eP;rw[hi]
   cases hm:σ.m r with
   |none=>grind
   | some y=>
    rw[hm]at C;injection C with C;subst C;cases h.root r y hm with
    | ay b off cells e cs us E I hh hs hc=>
     refine .ay b off cells e _ us (bV.trans E) (hl b r n I tC) hh (by rw[eN];exact hs) λj x C=>?_
     rw[dW]at C;cases T:cs[j]? with
     |none=>grind
     | some z=>
      rw[T]at C;injection C with C;subst C;exact⟨(hc j z T).1,(hc j z T).2.dQ O⟩
    | sl v y E I=>
     exact .sl v y (bV.trans E) (RV.dY (p:=[]) (nm:=id) I tC)
    |mp b c es l E I hh he=>exact .mp b c es l (bV.trans E) (hl b r n I tC) hh he
    |gh us xs E C=>exact .gh us _ (bV.trans E) λj x hj=>by simp at hj
 ·show RA _ _ _ _ ((σ.t k).dQ rs) _;have D:=h.tmp k;generalize σ.t k=x at D;unfold A.dQ;split
  ·exact D.dQ O
  ·rename_i r j;split
   next n hn=>have hi:=(Rn.K1 O (YY hn)).2.2;obtain⟨b,off,E,I⟩:=D;exact⟨b,off,by unfold Rn.eP;rw[hi];exact E,I⟩
   ·trivial
  ·obtain⟨b,off,Y,Z,g3,g4⟩:=D
   refine⟨b,off,Y,Z,yU g3,λj x C=>?_⟩
   obtain⟨f1,v,f2,f3⟩:=g4 j x C;exact⟨f1,v,f2,f3.Jp f1 λb=>yU⟩
  ·obtain⟨pv,e0,b,off,Y,Z,g3,g4⟩:=D
   refine⟨pv,e0,b,off,Y,Z,yU g3,λj x C=>?_⟩
   obtain⟨f1,v,f2,f3⟩:=g4 j x C;exact⟨f1,v,f2,f3.Jp f1 λb=>yU⟩
  ·obtain⟨us,Y,Z,g3⟩:=D
   refine⟨us,Y,by rw[eN];exact Z,λj x C=>?_⟩
   rw[dW]at C;rename_i cs;cases T:cs[j]? with
   |none=>grind
   | some z=>
    rw[T]at C;injection C with C;subst C;obtain⟨v,f1,f2⟩:=g3 j z T;exact⟨v,f1,f2.dQ O⟩
  ·trivial
 ·show rs.eP ρ r=l;unfold Rn.eP;split
  ·rename_i r0 hi;rcases(Rn.K1 O (YZ hi)).1 with e | e
   ·rw[e];exact h.fix r l U
   ·rw[h.cD r (.inr e)]at U;cases U
  ·exact h.fix r l U
def ajE{rs:aa (Nat×Rm)}{p:Nat×Tm}(hR:R w0 N σ a w):R w0 N (RN rs p σ) a w:=by
 unfold RN;split
 ·rename_i n Y O;split
  ·rename_i t o hl;cases hb:Nat.ble 60000 n with
   |false=>exact hR
   | true=>
    have T:=cr hb;obtain⟨af,ρ,hR⟩:=hR;have D:=hR.tmp p.1;rw[O]at D;have U:a.tmps.getD p.1 undef = .slice none 0 0:=by
     have E:=D.2;generalize a.tmps.getD p.1 undef=u at E;cases E;rfl
    have C:=hR.new (d:=n) (x:=.sl (.sl t o false [])) (.dn (.slice none 0 0)) (.sl _ _ (bJ _ _ _) (.dX _ _ _)) (hR.cD n (.inr T))
    refine⟨af,_,C.below,C.cL,C.root,λk=>?_,C.size,C.defers,C.fix,C.cD⟩
    show RA _ _ _ _ (bG ((σ.drop n).root n (.sl (.sl t o false []))).t p.1 (.lf (.own [n])) k) _;by_cases I:k=p.1
    ·subst I;rw[bJ,U];exact⟨rfl,by simp[cF,bJ]⟩
    ·rw[cc _ _ _ I];exact C.tmp k
  ·exact hR
 ·exact hR
def ajF{n j r:Nat}{y:V}(hR:Rl w0 N af ρ σ a w)(U:ρ n = .dn (.slice none 0 0)):Rl w0 N af ρ (RO n j r σ) a w:=by
 unfold RO;split
 ·rename_i cs Y;split
  ·rename_i O
   refine⟨hR.below,hR.cL,λE x C=>?_,hR.tmp,hR.size,hR.defers,hR.fix,hR.cD⟩
   have C:bG σ.m r (some (.ay (cs.set j (.own [n])))) E=some x:=C;by_cases T:E=r
   ·subst T;rw[bJ]at C;injection C with C;subst C;cases hR.root E _ Y with
    | ay b off cells e cs us Z I hh hs hc=>
     refine .ay b off cells e _ us Z I hh (by rw[iS];exact hs) λi z D=>?_
     rw[List.getElem?_set]at D;by_cases hi:j=i
     ·subst hi;have c9:j<cs.length:=(dA.1 O).1;rw[aV rfl,aV c9]at D;injection D with D;subst D;obtain⟨k1,k2⟩:=hc j _ O;refine⟨k1,?_⟩;have hu:us j = .slice none 0 0:=by
       have I:=k2.2;generalize us j=u at I;cases I;rfl
      rw[hu];exact⟨rfl,by simp only[cF,U]⟩
     ·grind
   ·rw[cc _ _ _ T]at C;exact hR.root E x C
  ·exact hR
 ·exact hR
def ajG{rs:aa (Nat×Rm)}{n j r:Nat}(hR:R w0 N σ a w):R w0 N (RQ rs n j r σ) a w:=by
 unfold RQ;split
 ·rename_i t o hl;cases hb:Nat.ble 60000 n with
  |false=>exact hR
  | true=>
   have C:=cr hb;obtain⟨af,ρ,hR⟩:=hR;exact⟨af,_,ajF (y:=.nil) (hR.new _ (.sl _ _ (bJ _ _ _) (.dX _ _ _)) (hR.cD n (.inr C))) (bJ _ _ _)⟩
 ·exact hR
def RT{rs:aa (Nat×Rm)}{r:Nat}:∀ (C:aa Lm) (cs:aa Lf) (j:Nat) (σ:S),R w0 N σ a w -> R w0 N (Bk rs r j C cs σ) a w
 |[],cs,j,σ,h=>by unfold Bk;exact h
 | m :: C,[],j,σ,h=>by
  unfold Bk;simp_all
 | m :: C,c :: cs,j,σ,h=>by
  unfold Bk;split
  next D E=>cases D;cases E;exact RT C cs _ _ (ajG h)
  next D E=>cases D;cases E;exact RT C cs _ _ h
  ·exact h
def GC{rs:aa (Nat×Rm)}:∀ (ps:aa (Nat×Rm)) (σ:S),R w0 N σ a w -> R w0 N (K0 rs ps σ) a w
 |[],σ,h=>h
 |(r,.sl t o)::ps,σ,h=>GC ps σ h
 |(r,.st t)::ps,σ,h=>GC ps σ h
 |(r,.mp)::ps,σ,h=>GC ps σ h
 | (r,.ay C) :: ps,σ,h=>by
  refine GC ps _ ?_;split
  ·exact RT C _ 0 σ h
  ·exact h
def Y0{rs:aa (Nat×Rm)}:∀ (ps:aa (Nat×Tm)) (σ:S),R w0 N σ a w->R w0 N (KZ rs ps σ) a w
 |[],σ,h=>h
 |p::ps,σ,h=>Y0 ps _ (ajE h)
def jm.pn{C:jm}{x:C.St}(h:C.rd σ=some x)(hR:R w0 N σ a w):R w0 N (C.mk' x) a w:=by
 unfold jm.rd at h;split at h
 next y D=>injection h with h;subst h;exact jm.YW D hR
 ·have hR:=Y0 (rs:=C.rs) C.ts σ hR;revert h hR;generalize KZ C.rs C.ts σ=E;intro h hR;unfold jm.YU at h;cases hb:(C.rn E).ok with
  |false=>simp_all
  | true=>
   rw[hb,aq]at h;obtain⟨af,ρ,hR⟩:=hR;exact jm.YW h (GC C.rs _ ⟨_,_,hR.dQ hb⟩)
end
def w8:aa V->aa Nat->aa Lf
 |[],_=>[]
 | x :: xs,ns=>bif x.plain then .v x :: w8 xs ns else (match ns with
  |n::ns=>.own [n]::w8 xs ns
  |[]=>.dead::w8 xs [])
def Bl:aa V->aa Nat->(Nat->aj aP)->Nat->aj aP
 |[],_,m,k=>m k
 | x :: xs,ns,m,k=>bif x.plain then Bl xs ns m k else (match ns with
  |n::ns=>bif Nat.beq k n then some (.sl x)else Bl xs ns m k
  |[]=>Bl xs [] m k)
def kj(m:Nat->aj aP):aa Lf->aa Nat->aj (aa V)
 |[],[]=>some []
 | .v x :: cs,ns=>bif x.plain then (match kj m cs ns with
  |some C=>some (x::C)
  |none=>none)else none
 | .own [r] :: cs,n :: ns=>bif Nat.beq r n then (match m n with
  | some (.sl y)=>bif y.plain then none else (match kj m cs ns with
   |some C=>some (y::C)
   |none=>none)
  |_=>none)else none
 |_,_=>none
abbrev Gp:=Nat×TC×Nat×aa Nat
def GD:aa Gp->Type->Type
 |[],X=>X
 |g::gs,X=>T g.2.1×GD gs X
def K2:(gs:aa Gp)->(rs:aa (Nat×Rm))->GD gs (wZ rs)->Nat->aj aP
 |[],rs,x,k=>w7 rs x k
 |(n,t,o,ns)::gs,rs,x,k=>bif Nat.beq k n then some (.ay (w8 (enc t o x.1) ns))else Bl (enc t o x.1) ns (K2 gs rs x.2) k
def K3:(gs:aa Gp)->(rs:aa (Nat×Rm))->(Nat->aj aP)->aj (GD gs (wZ rs))
 |[],rs,m=>Dq rs m
 | (n,t,o,ns) :: gs,rs,m=>match m n with
  | some (.ay cs)=>(match kj m cs ns with
   | some C=>(match dec t o C,K3 gs rs m with
    |some x,some y=>some (x,y)
    |_,_=>none)
   |none=>none)
  |_=>none
def Ds:aa V->aa Nat->aa Lm
 |[],_=>[]
 |.int k _::xs,ns=>.int k::Ds xs ns
 |.bool _::xs,ns=>.bool::Ds xs ns
 |.str _::xs,ns=>.str::Ds xs ns
 |_::xs,n::ns=>.own n::Ds xs ns
 |_::xs,[]=>.bool::Ds xs []
def RU:aa V->aa Nat->aa (Nat×Rm)
 |.sl t o _ _::xs,n::ns=>(n,.sl t o)::RU xs ns
 |_::xs,ns=>RU xs ns
 |[],_=>[]
def RX:aa Gp->aa (Nat×Rm)->aa (Nat×Rm)
 |[],rs=>rs
 |(n,t,o,ns)::gs,rs=>(n,.ay (Ds (VX t o) ns))::(RU (VX t o) ns++RX gs rs)
structure bC where
 ts:List (Nat×Tm)
 rs:List (Nat×Rm)
 gs:List Gp
def bC.St(C:bC):Type:=Dp C.ts×GD C.gs (wZ C.rs)
def bC.mk'(C:bC)(x:C.St):S:=⟨wY C.ts x.1,K2 C.gs C.rs x.2⟩
def bC.K4(C:bC)(σ:S):aj C.St:=match GB C.ts σ.t,K3 C.gs C.rs σ.m with
 |some x,some y=>some (x,y)
 |_,_=>none
def bC.rd(C:bC)(σ:S):aj C.St:=match C.K4 σ with
 |some x=>some x
 | none=>match jm.rd ⟨C.ts,RX C.gs C.rs⟩ σ with
  |some z=>C.K4 (jm.mk' ⟨C.ts,RX C.gs C.rs⟩ z)
  |none=>none
section
variable {P:Program} {w w':World} {w0:Wd} {B N:Nat} {af az:bk} {ρ ρ':Nat->Loc} {σ:S} {a:Act} {m:Nat->aj aP}
def kJ.inv{x:V}{xs ys:aa V}(k:kJ (x :: xs) ys):∃ y C,ys=y :: C/\Wk x y/\kJ xs C:=by
 obtain⟨D,E⟩:=k;cases ys with
 |nil=>simp at D
 |cons y C=>exact⟨y,C,rfl,E 0 x y rfl rfl,by simpa using D,λj a b I hb=>E (j+1) a b (by simpa using I) (by simpa using hb)⟩
def Wk.Y1{x y:V}(h:Wk x y)(C:x.plain=true):y=x:=by
 cases h<;>first|rfl|cases C
def Wk.Y2{x y:V}(h:Wk x y)(C:x.plain=false):y.plain=false:=by
 cases h<;>first|exact C|rfl
def RY:∀ (cs:aa Lf) (ns:aa Nat) (C ys:aa V),kj m cs ns=some C -> kJ C ys -> (w8 ys ns).length=cs.length /\ ∀ (j:Nat) z,(w8 ys ns)[j]?=some z -> cs[j]?=some z
 | [],[],C,ys,h,E=>by
  simp only[kj,ia]at h;subst h;have:ys=[]:=List.eq_nil_of_length_eq_zero E.1.symm;subst this;exact⟨rfl,λj z I=>by simp[w8]at I⟩
 | .v x :: cs,ns,C,ys,h,E=>by
  unfold kj at h;cases D:x.plain with
  |false=>simp_all
  | true=>
   rw[D,aq]at h;split at h
   ·rename_i us O;injection h with h;subst h;obtain⟨y,T,rfl,U,Y⟩:=E.inv;obtain rfl:=U.Y1 D;obtain⟨Z,e2⟩:=RY cs ns us T O Y;simp only[w8,D,aq]
    refine⟨by simp[Z],λj z I=>?_⟩
    cases j with
    |zero=>simp_all
    |succ j=>simp_all
   ·cases h
 | .own [r] :: cs,n :: ns,C,ys,h,E=>by
  unfold kj at h;cases hb:Nat.beq r n with
  |false=>simp_all
  | true=>
   rw[hb,aq]at h;obtain rfl:=cE hb;split at h
   ·rename_i y hy;cases D:y.plain with
    |true=>simp_all
    | false=>
     rw[D,av]at h;split at h
     ·rename_i us O;injection h with h;subst h;obtain⟨y',T,rfl,U,Y⟩:=E.inv;have hq:=U.Y2 D;obtain⟨Z,e2⟩:=RY cs ns us T O Y;simp only[w8,hq,av]
      refine⟨by simp[Z],λj z I=>?_⟩
      cases j with
      |zero=>simp_all
      |succ j=>simp_all
     ·cases h
   ·cases h
 |[],_::_,C,ys,h,_=>by simp[kj]at h
 |.dead::_,_,C,ys,h,_=>by simp[kj]at h
 |.own []::_,_,C,ys,h,_=>by simp[kj]at h
 |.own (_::_::_)::_,_,C,ys,h,_=>by simp[kj]at h
 |.own [_]::_,[],C,ys,h,_=>by simp[kj]at h
def RZ{f:Nat -> aj aP}{k:Nat}{x:aP}:∀ (cs:aa Lf) (ns:aa Nat) (D ys:aa V),kj m cs ns=some D -> kJ D ys -> Bl ys ns f k=some x -> f k=some x \/ ∃ v y,m k=some (.sl v)/\x = .sl y/\Wk v y
 | [],[],D,ys,h,I,C=>by
  simp only[kj,ia]at h;subst h;have:ys=[]:=List.eq_nil_of_length_eq_zero I.1.symm;subst this;exact .inl C
 | .v x' :: cs,ns,D,ys,h,I,C=>by
  unfold kj at h;cases E:x'.plain with
  |false=>simp_all
  | true=>
   rw[E,aq]at h;split at h
   next us O=>injection h with h;subst h;obtain⟨y,T,rfl,U,Y⟩:=I.inv;obtain rfl:=U.Y1 E;simp[Bl,E]at C;exact RZ cs ns us T O Y C
   ·cases h
 | .own [r] :: cs,n :: ns,D,ys,h,I,C=>by
  unfold kj at h;cases hb:Nat.beq r n with
  |false=>simp_all
  | true=>
   rw[hb,aq]at h;obtain rfl:=cE hb;split at h
   ·rename_i y hy;cases E:y.plain with
    |true=>simp_all
    | false=>
     rw[E,av]at h;split at h
     ·rename_i us O;injection h with h;subst h;obtain⟨y',T,rfl,U,Y⟩:=I.inv;have hq:=U.Y2 E;simp only[Bl,hq,av]at C;cases Z:Nat.beq k r with
      | true=>
       rw[Z]at C;injection C with C;obtain rfl:=cE Z
       grind
      | false=>
       rw[Z]at C;exact RZ cs ns us T O Y C
     ·cases h
   ·cases h
 |[],_::_,D,ys,h,_,_=>by simp[kj]at h
 |.dead::_,_,D,ys,h,_,_=>by simp[kj]at h
 |.own []::_,_,D,ys,h,_,_=>by simp[kj]at h
 |.own (_::_::_)::_,_,D,ys,h,_,_=>by simp[kj]at h
 |.own [_]::_,[],D,ys,h,_,_=>by simp[kj]at h
def Y3:∀ (gs:aa Gp) (rs:aa (Nat×Rm)) (y:GD gs (wZ rs)),K3 gs rs m=some y -> ∀ k x,K2 gs rs y k=some x -> ∃ O,m k=some O /\ ∀ (w:World) (B:Nat) (af:bk) (ρ:Nat -> Loc),dM w B af ρ k O -> dM w B af ρ k x
 | [],rs,y,h,k,x,C=>by
  have h:Dq rs m=some y:=h;have C:w7 rs y k=some x:=C;rcases RS rs m y h k with e|⟨m',O,z,E,I,e3⟩
  ·simp_all
  ·rw[e3]at C;injection C with C;subst C;exact⟨O,E,λw B af ρ D=>Rm.pn I D⟩
 | (n,t,o,ns) :: gs,rs,y,h,k,x,C=>by
  unfold K3 at h;split at h
  ·rename_i cs hm;split at h
   ·rename_i T Z;split at h
    ·rename_i x1 y1 h1 h2;injection h with h;subst h;have hw:=lz t o T x1 h1;simp only[K2]at C;cases U:Nat.beq k n with
     | true=>
      rw[U,aq]at C;injection C with C;subst C;obtain rfl:=cE U;obtain⟨E,I⟩:=RY cs ns T _ Z hw
      refine⟨_,hm,λw B af ρ D=>?_⟩
      cases D with
      |ay b off cells e _ us Y hl hh hs hc=>exact .ay b off cells e _ us Y hl hh (by rw[E];exact hs) λj z hz=>hc j z (I j z hz)
     | false=>
      rw[U,av]at C;rcases RZ cs ns T _ Z hw C with e|⟨v,y',E,rfl,I⟩
      ·exact Y3 gs rs y1 h2 k x e
      ·refine⟨_,E,λw B af ρ D=>?_⟩
       cases D with
       |sl u _ Y D=>exact .sl u _ Y (D.wk I)
    ·cases h
   ·cases h
  ·cases h
def bC.Y4{C:bC}{x:C.St}(h:C.K4 σ=some x)(hR:R w0 N σ a w):R w0 N (C.mk' x) a w:=by
 unfold bC.K4 at h;split at h
 ·rename_i u v I O;injection h with h;subst h;obtain⟨af,ρ,hR⟩:=hR
  refine⟨af,ρ,hR.below,hR.cL,λn y T=>?_,λk=>?_,hR.size,hR.defers,hR.fix,hR.cD⟩
  ·obtain⟨U,D,E⟩:=Y3 C.gs C.rs v O n y T;exact E _ _ _ _ (hR.root n U D)
  ·show RA _ _ _ _ (wY C.ts u k) _;rcases RR C.ts σ.t u I k with e | ⟨m,z,D,E⟩
   ·rw[e];trivial
   ·rw[E];exact Tm.pn D (hR.tmp k)
 ·cases h
def bC.pn{C:bC}{x:C.St}(h:C.rd σ=some x)(hR:R w0 N σ a w):R w0 N (C.mk' x) a w:=by
 unfold bC.rd at h;split at h
 next y D=>injection h with h;subst h;exact bC.Y4 D hR
 ·split at h
  next z E=>exact bC.Y4 h (jm.pn E hR)
  ·cases h
end
def zy:Exit->aj Nat
 |.normal=>some 0
 |.ret=>some 1
 |.exit n=>some (n+2)
 |_=>none
def R0:Nat->Exit
 |0=>.normal
 |1=>.ret
 |n+2=>.exit n
def sg{e:Exit}{n:Nat}(h:zy e=some n):e=R0 n:=by
 cases e<;>simp[zy]at h<;>subst h<;>rfl
def tT:aa (Nat×bC)->Type
 |[]=>Empty
 |(_,C)::r=>C.St⊕tT r
def K5:(l:aa (Nat×bC))->Nat->S->aj (tT l)
 |[],_,_=>none
 | (n,C) :: r,e,σ=>bif Nat.beq n e then (match C.rd σ with
  |some x=>some (.inl x)
  |none=>none)else (match K5 r e σ with
  |some x=>some (.inr x)
  |none=>none)
def R1{X:Type}:(l:aa (Nat×bC))->tT l->(Exit->S->aj X)->aj X
 |[],z,_=>nomatch z
 | (n,C) :: r,z,k=>match z with
  |.inl x=>k (R0 n) (C.mk' x)
  |.inr z=>R1 r z k
def iter{α β:Type}(step:α->aj (α⊕β)):Nat->α->aj β
 |0,_=>none
 | n+1,x=>match step x with
  |some (.inl y)=>iter step n y
  |some (.inr z)=>some z
  |none=>none
def Dt(P:Program)(N:Nat)(Φ:dR)(Λ:mg)(body:Code)(C:bC)(D:aa (Nat×bC))(x:C.St):aj (C.St⊕tT D):=
 kQ P N Φ Λ body (C.mk' x) λe σ=>match zy e with
  | some 0=>(match C.rd σ with
   |some x=>some (.inl x)
   |none=>none)
  | some n=>(match K5 D n σ with
   |some x=>some (.inr x)
   |none=>none)
  |none=>none
def R2{X:Type}(id:Nat)(k:Exit->S->aj X)(e:Exit)(σ:S):aj X:=
 match e with
 |.exit C=>if C=id then k .normal σ else k (.exit C) σ
 |e=>k e σ
def K6(id:Nat)(C:bC)(D:aa (Nat×bC))(F:C.St->aj (C.St⊕tT D))(fuel:C.St->Nat):r5:=
 ⟨λX σ k=>match C.rd σ with
  | some x=>(match iter F (fuel x) x with
   |some z=>R1 D z (R2 id k)
   |none=>none)
  |none=>none⟩
def ko:aa (Bool×TC)->Type
 |[]=>ah
 |(_,t)::r=>T t×ko r
def ga:(l:aa (Bool×TC))->ko l->aa Pt
 |[],_=>[]
 |(b,t)::r,x=>(b,enc t 0 x.1)::ga r x.2
def xd:(l:aa (Bool×TC))->aa Pt->aj (ko l)
 |[],[]=>some ()
 | (b,t) :: r,(C,D) :: ps=>bif b==C then (match dec t 0 D,xd r ps with
  |some x,some xs=>some (x,xs)
  |_,_=>none)else none
 |_,_=>none
def gS(ai:aa (Bool×TC))(ro:aa (Bool×TC×Nat))(F:ko ai->aj (iq ro)):jh:=
 ⟨λX args k=>match xd ai args with
  | some x=>(match F x with
   |some y=>k (eJ ro y)
   |none=>none)
  |none=>none⟩
def R3:Pt->A
 |(false,[x])=>.lf (.v x)
 |(true,xs)=>.agg (xs.map .v)
 |(false,.bool true::c::cs)=>.iX (c::cs)
 |(false,.bool false::.int .i64 (.ofNat g)::c::cs)=>.mO g (c::cs)
 |_=>.undef
def Y5(args:aa Pt):S:=⟨λk=>match args[k]? with
 |some p=>R3 p
 |none=>.undef,λ_=>none⟩
def pq{X:Type}(P:Program)(N:Nat)(Φ:dR)(Λ:mg)(code:Code)(C:Array ResultVar)(args:aa Pt)(k:fO->aj X):aj X:=
 kQ P N Φ Λ code (Y5 args) λe σ=>match zy e with
  |some 0=>FI P σ C k
  |some 1=>FI P σ C k
  |_=>none
section
variable {P:Program} {w w':World} {w0:Wd} {B N:Nat} {af az:bk} {ρ ρ':Nat->Loc} {σ:S} {a:Act} {X:Type} {d:Nat} {r:X} {o:Oper} {Φ:dR} {Λ:mg}
def Y6:∀ (l:aa (Nat×bC)) (e:Nat) (z:tT l),K5 l e σ=some z->∀ (X:Type) (k:Exit->S->aj X),∃ D,R1 l z k=k (R0 e) D/\∀ a w,R w0 N σ a w->R w0 N D a w
 |[],e,z,h=>by cases h
 | (n,E) :: l,e,z,h=>by
  intro X k;unfold K5 at h;cases hb:Nat.beq n e with
  | true=>
   obtain rfl:=cE hb;rw[hb,aq]at h;split at h
   next x C=>injection h with h;subst h;exact⟨E.mk' x,rfl,λa w hR=>bC.pn C hR⟩
   ·cases h
  | false=>
   rw[hb,av]at h;split at h
   next x C=>injection h with h;subst h;exact Y6 l e x C X k
   ·cases h
def ajH{id:Nat}{body:Code}{E:bC}{U:aa (Nat×bC)}{F:E.St -> aj (E.St⊕tT U)}{fuel:E.St -> Nat}(dI:fC P Φ)(tU:ox P N Λ (occs body))(hF:∀ x,Dt P N Φ Λ body E U x=F x):Bf P N (.block id (.loop body)) (K6 id E U F fuel):=by
 intro X σ k r w0 h a w hR;simp only[K6]at h;split at h
 ·rename_i x I;split at h
  ·rename_i z hz;refine wp_block ?_;have key:∀ (n:Nat) (x:E.St),iter F n x=some z -> ∀ (a:Act) (w:World),R w0 N (E.mk' x) a w -> ∀ (b:Frame) (O:aa Item) (cs:aa Frame),
     ∃e T w',Exit.inBlock id (λe T w'=>∃cG,k e cG=some r/\R w0 N cG T w') e T w'/\Arrives P (lone (b.at a (.code body::.inLoop body::O)) cs w) b O cs e T w':=by
    intro n
    induction n with
    |zero=>intro x I;simp[iter]at I
    | succ n ih=>
     intro x I a w hR b O cs;simp only[iter]at I;have jK:∃ y,Dt P N Φ Λ body E U x=some y/\(match y with | .inl y=>iter F n y=some z | .inr z'=>z'=z):=by
      rw[hF];split at I
      ·grind
      ·grind
      ·cases I
     obtain⟨y,hy,Y⟩:=jK;unfold Dt at hy;have hwp:=Dn (w0:=w0) dI body _ _ hy tU a w hR;obtain⟨e,a1,w1,⟨o6,D,rZ⟩,Z⟩:=hwp b (.inLoop body::O) cs;split at D
     ·rename_i C;have C:=sg C;subst C;split at D
      next x1 P4=>injection D with D;subst D;obtain⟨e2,a2,w2,wm,ajI⟩:=ih x1 Y a1 w1 (bC.pn P4 rZ) b O cs;exact⟨e2,a2,w2,wm,.of_steps (Steps.trans Z (.one step_inLoop)) ajI⟩
      ·cases D
     ·rename_i n' ck C;have C:=sg C;split at D
      ·rename_i z1 GF;injection D with D;subst D;have Y:z1=z:=Y;subst Y;obtain⟨σ2,nq,ki⟩:=Y6 (w0:=w0) (N:=N) U n' z1 GF X (R2 id k);rw[nq]at h;rw[<- C]at h;refine⟨e,a1,w1,?_,?_⟩
       ·cases e with
        | exit YQ=>
         simp only[R2]at h;simp only[Exit.inBlock];split at h
         ·grind
         ·grind
        |_=>exact⟨σ2,h,ki a1 w1 rZ⟩
       ·refine .pass (x:=.inLoop body) rfl (λ_ _=>.inl ?_) Z
        intro e';rw[e']at C
        match n',ck,C with
        |0,ck,_=>exact ck rfl
        |1,_,C=>cases C
        |n+2,_,C=>cases C
      ·cases D
     ·cases D
   intro b O cs;obtain⟨e,T,w',hq,Z⟩:=key (fuel x) x hz a w (bC.pn I hR) b O cs;exact⟨e,T,w',hq,.of_steps (.one step_loop) Z⟩
  ·cases h
 ·cases h
def PV.tH{key:Nat->aa Nat}{b:Bool}{xs ys:aa V}{u:Value}(h:PV w B af key (b,xs) u)(k:kJ xs ys):PV w B af key (b,ys) u:=by
 obtain⟨us,E,I,O⟩:=h
 refine⟨us,E,I.trans k.1,λj y C=>?_⟩
 have D:j<xs.length:=by rw[k.1];exact(dA.1 C).1
 obtain⟨v,T,U⟩:=O j _ (bH D);exact⟨v,T,U.wk (k.2 j _ y (bH D) C)⟩
def yR.tH{cs C:aa V}{u:Value}(h:yR w cs u)(k:kJ cs C):yR w C u:=by
 obtain⟨b,off,I,hb,O⟩:=h
 refine⟨b,off,I,hb,λj y D=>?_⟩
 have E:j<cs.length:=by rw[k.1];exact(dA.1 D).1
 obtain⟨v,T,U⟩:=O j _ (bH E);exact⟨v,T,U.wk (k.2 j _ y (bH E) D)⟩
def PA.tH{b:Bool}{xs ys:aa V}{u:Value}(h:PA w (b,xs) u)(k:kJ xs ys):PA w (b,ys) u:=by
 cases h with
 |v _ _ h=>exact .v _ _ (h.tH k)
 | p c cs _ h=>
  obtain⟨y,E,rfl,C,D⟩:=k.inv;cases C;have h:=h.tH D;obtain⟨O,eM,rfl,_,_⟩:=D.inv;exact .p _ _ _ h
 | f g c cs u h=>
  obtain⟨y,E,rfl,C,D⟩:=k.inv;cases C;obtain⟨y,E,rfl,C,I⟩:=D.inv;cases C;have h:=h.tH I;obtain⟨O,eM,rfl,_,_⟩:=I.inv;exact .f _ _ _ _ h
def PA.ra{p:Pt}{u:Value}(h:PA w p u)(D:∀ y∈p.2,y.aG=true):RA w w.heap.size (λ_=>none) ρ (R3 p) u:=by
 have U:∀ {cs:aa V} {u:Value},yR w cs u -> (∀ y∈cs,y.aG=true) -> RF w w.heap.size (λ_=>none) cs u:=by
  rintro cs u ⟨b,off,rfl,hb,E⟩ D
  refine⟨b,off,rfl,hb,rfl,λj x Y=>⟨D x (gv Y),E j x Y⟩⟩
 cases h with
 | v _ _ h=>
  obtain⟨us,Z,hs,E⟩:=h;obtain⟨b,xs⟩:=p;cases b with
  | true=>
   refine⟨us,Z,by rw[eN];exact hs,λi y C=>?_⟩
   rw[dW]at C;cases I:xs[i]? with
   |none=>simp_all
   | some z=>
    rw[I]at C;injection C with C;subst C;obtain⟨v,O,T⟩:=E i z I;exact⟨v,O,D z (gv I),T⟩
  | false=>
   subst Z;have h1:=hs.symm;obtain⟨x,rfl⟩:=List.length_eq_one_iff.1 h1;obtain⟨v,O,T⟩:=E 0 x rfl;have:u=v:=by simpa using O
   subst this;exact⟨D x (by simp),T⟩
 |p c cs _ h=>exact U h λy C=>D y (.tail _ C)
 |f g c cs u h=>exact⟨u,rfl,U h λy C=>D y (.tail _ (.tail _ C))⟩
def R4:∀ (l:aa (Bool×TC)) (ps:aa Pt) (x:ko l),xd l ps=some x -> (ga l x).length=ps.length /\ ∀ (i:Nat) p,(ga l x)[i]?=some p -> ∃ q,ps[i]?=some q/\q.1=p.1/\kJ q.2 p.2
 |[],[],x,h=>⟨rfl,λi p C=>by simp[ga]at C⟩
 | (b,t) :: r,(D,E) :: ps,x,h=>by
  unfold xd at h;cases hb:b==D with
  |false=>simp_all
  | true=>
   rw[hb,aq]at h;have hb:b=D:=by simpa using hb
   subst hb;split at h
   ·rename_i y ys I O;injection h with h;subst h;obtain⟨T,U⟩:=R4 r ps ys O
    refine⟨by simp[ga,T],λi p C=>?_⟩
    cases i with
    |zero=>simp[ga]at C;subst C;exact⟨(b,E),rfl,rfl,lz t 0 E y I⟩
    |succ i=>exact U i p (by simpa [ga]using C)
   ·cases h
 |[],_::_,x,h=>by simp[xd]at h
 |_::_,[],x,h=>by simp[xd]at h
def lH(l:aa (Bool×TC×Nat)):Bool:=l.all λp=>Nat.ble (full p.2.1) p.2.2
def Y7(t:TC)(g:Nat)(x:T t)(h:full t <= g):(enc t g x).all V.loc=true:=by
 rw[bN];intro y D;have E:=yu t g x y D;have hl:=Jo t g x y D;cases y with
 | sl I C q l=>
  have O:C=g:=by simpa [V.gr]using E
  subst O;have hl:=cr hl;show yS I C=true
  match C,h with
  |0,h=>omega
  |1,h=>omega
  | n+2,h=>
   simp only[yS,dS];left;exact iF (by omega)
 |_=>rfl
def R5:∀ (l:aa (Bool×TC×Nat)) (ps:aa Pt) (x:iq l),lH l=true -> oX l ps=some x -> (tD l x).length=ps.length /\ ∀ (nm:Nat -> Nat) (off:Nat) (C:aa Value),ju w B af nm off ps C -> ju w B af nm off (tD l x) C
 |[],[],x,_,h=>⟨rfl,λnm off C D=>D⟩
 | [(b,t,g)],[(E,C)],x,O,h=>by
  unfold oX at h;cases hb:b==E with
  |false=>rw[hb]at h;cases h
  | true=>
   rw[hb]at h;have h:dec t g C=some x:=h;have hb:b=E:=by simpa using hb
   subst hb;have U:full t <= g:=by simpa [lH]using O
   refine⟨rfl,λnm off us D=>?_⟩
   match us,D with
   |[u],⟨⟨_,I⟩,_⟩=>exact⟨⟨Y7 t g x U,I.tH (lz t g C x h)⟩,trivial⟩
 | (b,t,g) :: q :: r,(E,C) :: ps,x,O,h=>by
  unfold oX at h;cases hb:b==E with
  |false=>grind
  | true=>
   rw[hb,aq]at h;have hb:b=E:=by simpa using hb
   subst hb;have T:full t <= g/\lH (q :: r)=true:=by
    simp only[lH,List.all_cons,aJ]at O ⊢;simp_all
   split at h
   ·rename_i y ys I Y;injection h with h;subst h;obtain⟨Z,k2⟩:=R5 (q :: r) ps ys T.2 Y
    refine⟨by simp[tD,Z],λnm off us D=>?_⟩
    match us,D with
    | u :: us,⟨⟨_,hp⟩,uR⟩=>
     have hlen:=(lz t g C y I).1;refine⟨⟨Y7 t g y T.1,hp.tH (lz t g C y I)⟩,?_⟩;simp_all
   ·cases h
 |[],_::_,x,_,h=>by simp[oX]at h
 |[_],[],x,_,h=>by simp[oX]at h
 |[_],_::_::_,x,_,h=>by simp[oX]at h
 |_::_::_,[],x,_,h=>by simp[oX]at h
def Y8{l:aa (Bool×TC×Nat)}{E:fO}{x:iq l}(O:lH l=true)(h:lE l E=some x){nm:Nat -> Nat}{v:Value}(D:oW w B af nm E v):oW w B af nm (eJ l x) v:=by
 cases E with
 | one p=>
  obtain⟨C,I⟩:=R5 (w:=w) (B:=B) (af:=af) l [p] x O h;have D:ju w B af nm 0 [p] [v]:=D;have:=I nm 0 [v] D;unfold eJ
  match hm:tD l x,C,this with
  |[q],_,this=>exact this
  |[],C,_=>cases C
  |_::_::_,C,_=>simp at C
 | eO ps=>
  simp only[lE]at h;cases hb:Nat.beq ps.length 1 with
  |true=>simp_all
  | false=>
   rw[hb,av]at h;obtain⟨C,I⟩:=R5 (w:=w) (B:=B) (af:=af) l ps x O h;obtain⟨T,e,D⟩:=D;have:=I nm 0 _ D;unfold eJ
   match hm:tD l x,C,this with
   |[q],C,this=>simp_all
   |[],_,this=>exact⟨T,e,this⟩
   |_::_::_,_,this=>exact⟨T,e,this⟩
def Y9:∀ (l:aa (Bool×TC)) (x:ko l),(ga l x).length=l.length
 |[],x=>rfl
 |(b,t)::l,x=>by simp[ga,Y9 l]
def Za:∀ (l:aa (Bool×TC)) (x:ko l) (j:Nat) (p:Pt),(ga l x)[j]?=some p->∀ y∈p.2,y.aG=true
 |[],x,j,p,C,_,_=>by simp[ga]at C
 | (b,t) :: l,x,0,p,C,y,D=>by
  simp[ga]at C;subst C;obtain⟨i,hi⟩:=List.mem_iff_getElem?.1 D;exact oR t 0 x.1 (by omega) i y hi
 |(b,t)::l,x,j+1,p,C,y,D=>Za l x.2 j p (by simpa [ga]using C) y D
def GG{f:Nat}{fn:Func}{code:Code}{tV:aa Pt}{ro:aa (Bool×TC×Nat)}{y:iq ro}(hf:P.funcs[f]?=some fn)(hb:fn.body=some code)(hN:fn.ntmps=N)(T:tV.length <= N)(eI:lH ro=true)
  (dI:fC P Φ) (tU:ox P N Λ (occs code)) (ajJ:∀(j:Nat) p,tV[j]?=some p -> ∀y∈p.2,y.aG=true) (I:pq P N Φ Λ code fn.results tV (lE ro)=some y) (nm:Nat -> Nat) (w:World) (bB:Array Value) (U:ot w tV bB) (Y:Hd w (λ_=>none)):
  Calls P f bB w λe w'=>∃v az,e = .returned v/\Below w.heap.size w w'/\(∀b k,az b=some k -> w.heap.size <= b/\b<w'.heap.size/\k≠[])/\oW w' w.heap.size az nm (eJ ro y) v:=by
 have T:bB.size <= N:=by rw[U.1];exact T
 refine calls_of_wp hf hb ?_;unfold pq at I;have hR:R (.of w Y) N (Y5 tV) { tmps:=bB++Array.replicate (fn.ntmps-bB.size) undef,defers:=[] } w:=by
  refine⟨λ_=>none,λ_=>.ay 0 0,.of (Below.refl w.heap.size w) (dz _),(λb k D=>by cases D),(λn y I=>by cases I),λj=>?_,by simp[hN];omega,rfl,(λr l h=>by cases h),(λ_ _=>rfl)⟩
  show RA w w.heap.size _ _ (match tV[j]? with|some p=>R3 p|none=>.undef) _;cases Z:tV[j]? with
  |none=>trivial
  | some p=>
   obtain⟨u,hu,rX⟩:=U.2 j p Z;have hj:=(hU.1 hu).1;have e:(bB++Array.replicate (fn.ntmps-bB.size) undef).getD j undef=u:=by rw[gN,Array.getElem?_append_left hj,hu];rfl
   rw[e];exact rX.ra (ajJ j p Z)
 refine wp_mono (Dn (w0:=.of w Y) dI code _ _ I tU _ w hR) λe O w' C=>?_
 obtain⟨cG,D,af,ρ,E⟩:=C;have fin:FI P cG fn.results (lE ro)=some y -> O.defers=[] /\ ∃ v,(results fn O.tmps).run P w' = .ok v w' /\ ∃ zz az,Ending.returned v=Ending.returned zz/\Below w.heap.size w w'/\(∀ b k,az b=some k -> w.heap.size <= b/\b<w'.heap.size/\k≠[])/\oW w' w.heap.size az nm (eJ ro y) zz:=by
  intro oC;obtain⟨res,jL,dV⟩:=agY oC;obtain⟨v,az,h1,h2,h3⟩:=dV af ρ O w' E nm;exact⟨E.defers,v,h1,v,az,rfl,⟨E.below.os,E.below.tape,E.below.output,E.below.size,λk D=>E.below.block k D rfl⟩,λb k hb=>⟨(h2 b k hb).1.resolve_right (λh=>h rfl),(h2 b k hb).2⟩,Y8 eI jL h3⟩
 split at D
 next C=>have C:=sg C;subst C;exact fin D
 next C=>have C:=sg C;subst C;exact fin D
 ·cases D
def ajK{ai:aa (Bool×TC)}{args:aa Pt}{x:ko ai}{bB:Array Value}(E:xd ai args=some x)(C:ot w args bB):ot w (ga ai x) bB:=by
 obtain⟨I,O⟩:=R4 ai args x E
 refine⟨C.1.trans I.symm,λj p T=>?_⟩
 obtain⟨q,U,D,Y⟩:=O j p T;obtain⟨u,Z,rX⟩:=C.2 j q U;refine⟨u,Z,?_⟩;obtain⟨b,ys⟩:=p;obtain⟨b',xs⟩:=q;simp only at D;subst D;exact rX.tH Y
def R6{f:Nat}{ai:aa (Bool×TC)}{ro:aa (Bool×TC×Nat)}{F:ko ai->aj (iq ro)}(h:∀ x y,F x=some y->∀ (nm:Nat->Nat) (w:World) (bB:Array Value),ot w (ga ai x) bB->Hd w (λ_=>none)->
  Calls P f bB w λe w'=>∃v az,e = .returned v/\Below w.heap.size w w'/\(∀b k,az b=some k->w.heap.size<=b/\b<w'.heap.size/\k≠[])/\oW w' w.heap.size az nm (eJ ro y) v):iL P f (gS ai ro F):=by
 refine⟨λargs X Y k g=>?_,λargs T C nm w bB D E=>?_⟩
 ·unfold gS;dsimp only;split
  ·split<;>rfl
  ·rfl
 ·simp only[gS]at C;split at C
  ·rename_i x I;split at C
   next y O=>injection C with C;subst C;exact h x y O nm w bB (ajK I D) E
   ·cases C
  ·cases C
def ajL{f:Nat}{fn:Func}{code:Code}{ai:aa (Bool×TC)}{ro:aa (Bool×TC×Nat)}{F:ko ai->aj (iq ro)}(C:P.funcs[f]?=some fn)(hb:fn.body=some code)(D:fn.ntmps=N)(E:(fn.name == "runtime.NumGoroutine")=false)(I:Nat.ble ai.length N=true)(O:lH ro=true)
  (T:fC P Φ) (U:ox P N Λ (occs code)) (Y:∀x,pq P N Φ Λ code fn.results (ga ai x) (lE ro)=F x):enters P f/\iL P f (gS ai ro F):=
 ⟨⟨fn,C,E,by rw[hb];rfl⟩,R6 λx y Z nm w bB lD hQ=>GG C hb D (by rw[Y9];exact cr I) O T U (Za ai x) ((Y x).trans Z) nm w bB lD hQ⟩
def ajM{f:Nat}{fn:Func}{code:Code}{t:TC}{g:Nat}{F:aa (T t)->aj (aa (T t))}(E:P.funcs[f]?=some fn)(hb:fn.body=some code)(O:fn.ntmps=N)(Bm:(fn.name == "runtime.NumGoroutine")=false)(R7:Nat.ble 1 N=true)(U:lH [(false,.sl t,g)]=true)
  (Y:fC P Φ) (Z:ox P N Λ (occs code)) (hF:∀x:aa (T t),pq P N Φ Λ code fn.results [(false,[.sl t 0 false x])] (lE [(false,.sl t,g)])=F x)
  (h0:pq P N Φ Λ code fn.results [(false,[.nil])] (lE [(false,.sl t,g)])=some ([]:aa (T t))) (h1:pq P N Φ Λ code fn.results [(false,[.sl t 0 true []])] (lE [(false,.sl t,g)])=some ([]:aa (T t))):
  enters P f/\iL P f (gS [(false,.sl t)] [(false,.sl t,g)] λx=>bif jt x.1 then some ([]:aa (T t))else F x.1):=by
 refine⟨⟨fn,E,Bm,by rw[hb];rfl⟩,R6 λx y D nm w bB I hQ=>?_⟩
 obtain⟨l,_⟩:=x;have I:ot w [(false,[.sl t 0 false l])] bB:=I;have hle:1<=N:=cr R7;have K7:∀ (v:V),v.aG=true->∀ (j:Nat) p,([(false,[v])]:aa Pt)[j]?=some p->∀ y∈p.2,y.aG=true:=by
  intro v hv j p C y D;rcases j with _|j
  ·injection C with C;subst C;rw[gF.1 D];exact hv
  ·cases C
 obtain⟨u,hu,C⟩:=I.2 0 _ rfl;obtain⟨us,e,_,hv⟩:=C.pv;have e:us = #[u]:=e;subst e;obtain⟨v,g1,hr⟩:=hv 0 _ rfl;have g1:u=v:=by simpa using g1
 subst g1;have one:∀ v:V,RV w w.heap.size (λ_=>none) [] v u->ot w [(false,[v])] bB:=λv hr=>⟨I.1,λj p C=>by
  rcases j with _|j
  ·injection C with C;subst C;exact⟨u,hu,.v _ _ ⟨#[u],rfl,rfl,λi x hx=>by
    rcases i with _|i
    ·injection hx with hx;subst hx;exact⟨u,rfl,hr⟩
    ·cases hx⟩⟩
  ·cases C⟩
 cases l with
 |cons a l=>exact GG (tV:=[(false,[.sl t 0 false (a::l)])]) E hb O hle U Y Z (K7 _ rfl) ((hF _).trans D) nm w bB I hQ
 | nil=>
  have D:some ([]:aa (T t))=some y:=D;injection D with D;subst D;cases hr with
  |dX=>exact GG (tV:=[(false,[.nil])]) E hb O hle U Y Z (K7 _ rfl) h0 nm w bB (one _ (.nil _)) hQ
  |fy _ _ _ A c ho=>exact GG (tV:=[(false,[.sl t 0 true []])]) E hb O hle U Y Z (K7 _ rfl) h1 nm w bB (one _ (.fJ _ _ _ _ _ ho)) hQ
  |aG _ _ _ qn l b off cap us ho hl JA hB jH hc mQ=>exact GG (tV:=[(false,[.sl t 0 true []])]) E hb O hle U Y Z (K7 _ rfl) h1 nm w bB (one _ (.fJ _ _ _ _ _ ho)) hQ
end
def GH(N:Nat)(σ:S)(t:Nat):S:=match σ.t t with
 | .view [q] s 0 j=>bif Nat.blt t N then (match σ.m q with
  |some (.sl (.sl tc (o+2) C l))=>bif Nat.beq (full tc) 0 then (((σ.drop q).drop t).root t (.sl (.sl tc 2 false (l.take j)))).set t (.lf (.own [t]))else σ
  |_=>σ)else σ
 |_=>σ
def vi(N:Nat)(σ:S):aa ResultVar->S
 |[]=>σ
 |.tmp t::r=>vi N (GH N σ t) r
 |_::r=>vi N σ r
def Bn{X:Type}(P:Program)(N:Nat)(Φ:dR)(Λ:mg)(code:Code)(C:Array ResultVar)(D:aa In)(args:aa Ar)(k:aa In->fO->aj X):aj X:=
 kQ P N Φ Λ code (wE D args) λe σ=>match zy e with
  |some 0=>FO P (vi N σ C.toList) C D k
  |some 1=>FO P (vi N σ C.toList) C D k
  |_=>none
section
variable {P:Program} {w w':World} {w0:Wd} {B N:Nat} {af az:bk} {ρ ρ':Nat->Loc} {σ:S} {a:Act} {X:Type} {d:Nat} {r:X} {o:Oper} {Φ:dR} {Λ:mg}
def Rl.GH{t:Nat}(h:Rl w0 N af ρ σ a w):∃ az ρ',Rl w0 N az ρ' (Proofs.YtgjfmljpdnnihaaGreat.GH N σ t) a w:=by
 unfold Proofs.YtgjfmljpdnnihaaGreat.GH;split
 ·rename_i q s j ht;cases hN:Nat.blt t N with
  |false=>exact⟨af,ρ,h⟩
  | true=>
   have hN:t<N:=by have:=cr hN;omega
   rw[aq];split
   ·rename_i tc g qn l hm;cases U:Nat.beq (full tc) 0 with
    |false=>exact⟨af,ρ,h⟩
    | true=>
     have U:=cE U;rw[aq];have hv:=h.tmp t;rw[ht]at hv;obtain⟨A,n,c,Y,_,hj,hu⟩:=hv;have fR:sliced A 0 j c s = .slice A j c:=by cases A<;>simp[sliced,Addr.add]
     rw[fR]at hu;let D:bk:=λb=>match af b with
      |some k=>bif cz q k then (bif Nat.beq k.length 1 then some [t]else none)else some k
      |none=>none
     have hrel:Rel q af D:=⟨h.v9,λb hb=>by simp[D,hb],λb k hb C=>by simp[D,hb,C]⟩
     have h1:=h.rel hrel (λb k C=>by
      simp only[D]at C;cases hl:af b with
      |none=>rw[hl]at C;cases C
      | some k'=>
       rw[hl]at C;simp only at C;refine⟨⟨_,rfl⟩,?_⟩;cases hq:cz q k' with
       | true=>
        rw[hq,aq]at C;cases hlen:Nat.beq k'.length 1 with
        |true=>rw[hlen,aq]at C;injection C with C;rw[<- C];simp
        |false=>rw[hlen,av]at C;cases C
       | false=>
        rw[hq,av]at C;injection C with C;subst C;exact(h.cL b k' hl).2.2)
     have eI:=h.root q _ hm;generalize I:aP.sl (.sl tc (g+2) qn l)=z at eI;cases eI with
     |ay=>cases I
     |mp=>cases I
     |gh=>cases I
     | sl v y bV O=>
      injection I with I;subst I;simp only[cF,bV]at Y;injection Y with Y;subst Y;have hn:n=l.length:=by cases O<;>rfl
      have ajN:RV w w0.heap.size D [t] (.sl tc 2 false (l.take j)) (.slice A j c):=by
       cases O with
       | dX=>
        have:j=0:=by simpa using hj
        subst this;exact .dX _ _ _
       |fy _ _ _ _ _ ho=>omega
       |fJ _ _ _ _ _ ho=>omega
       |aG _ _ _ _ _ _ _ _ _ ho=>omega
       | own _ _ _ _ _ b cap cs us oU hh hs AP rJ hc O=>
        have hl:(l.take j).length=j:=by rw[kG];omega
        have hle:∀i (hi:i<(l.take j).length),∃Z:i<l.length,(l.take j)[i]=l[i]:=λi hi=>⟨by omega,List.getElem_take⟩
        have:=RV.own (w:=w) (B:=w0.heap.size) (af:=D) [t] tc 0 false (l.take j) b c cs us (by simp[D,oU,cz]) hh hs (by omega) ⟨rJ.1,λh=>by cases h⟩ (λi hi k x T=>by
         obtain⟨Z,e⟩:=hle i hi;rw[e,CQ tc U 0]at T;exact hc i Z k x T) (λi hi k x T=>by
         obtain⟨Z,e⟩:=hle i hi;rw[e,CQ tc U 0]at T;exact(O i Z k x T).s9 (yp tc g _ U x (gv T)))
        rw[hl]at this;exact this
      have hrm:CN w w D D t:=⟨dz _,λ_ _ _=>rfl,λ_ _=>rfl,h1.v9⟩
      have E:=h1.yE (d:=t) (ρ':=bG ρ t (.dn (.slice A j c))) (x:=.sl (.sl tc 2 false (l.take j))) (h.cD t (.inl hN)) ⟨rfl,rfl,rfl,dz _,λ_ _ _=>rfl⟩ hrm (λb k hb C=>by
       have:=(h1.cL b k C).2.1;omega) (λr O=>cc _ _ _ O) (.sl _ _ (bJ _ _ _) ajN)
      refine⟨_,_,E.below,E.cL,E.root,λk=>?_,E.size,E.defers,E.fix,E.cD⟩
      show RA w w0.heap.size D _ (bG _ t _ k) _;by_cases C:k=t
      ·subst C;rw[bJ,hu];exact⟨rfl,by simp only[cF,bJ]⟩
      ·rw[cc _ _ _ C];exact E.tmp k
   ·exact⟨af,ρ,h⟩
 ·exact⟨af,ρ,h⟩
def Rl.vi:∀ (l:aa ResultVar) (σ:S) (af:bk) (ρ:Nat -> Loc),Rl w0 N af ρ σ a w -> ∃ az ρ',Rl w0 N az ρ' (Proofs.YtgjfmljpdnnihaaGreat.vi N σ l) a w
 |[],_,af,ρ,h=>⟨af,ρ,h⟩
 | .tmp t :: r,_,_,_,h=>by
  obtain⟨C,D,E⟩:=h.GH;exact Rl.vi r _ C D E
 |.cell _ _::r,_,af,ρ,h=>Rl.vi r _ af ρ h
def fnM_core{f:Nat}{fn:Func}{code:Code}{C:aa In}{args:aa Ar}{k:aa In -> fO -> aj X}(hf:P.funcs[f]?=some fn)(hb:fn.body=some code)(hN:fn.ntmps=N)(Dv:N <= 20000)(hlen:args.length <= N)
  (dI:fC P Φ) (tU:ox P N Λ (occs code)) (h:Bn P N Φ Λ code fn.results C args k=some r) (nm:Nat -> Nat) (w:World) (af:bk) (ρ:Nat -> Loc) (bB:Array Value)
  (hE:ou w w.heap.size af ρ 0 C) (nD:∀b k,af b=some k -> b<w.heap.size/\k≠[]) (gZ:bB.size=args.length) (hv:∀i,RA w w.heap.size af ρ ((wE C args).t i) (bB.getD i undef)) (T:Hd w af):
  Calls P f bB w λe w'=>∃v az outs D,k outs D=some r/\e = .returned v/\iY ⟨w,af,λ_=>none,T,λ_ _=>rfl⟩ w w'/\(∀b k,az b=some k -> (w.heap.size <= b \/ af b≠none)/\b<w'.heap.size/\k≠[])/\oW w' w.heap.size az nm D v/\qF w w' az ρ nm 0 D.len C outs:=by
 let W:Wd:=⟨w,af,λr=>if 20000 <= r/\r<60000 then some (ρ r)else none,T,λr hr=>aW⟩
 refine calls_of_wp hf hb ?_;unfold Bn at h;have hR:R W N (wE C args) { tmps:=bB++Array.replicate (fn.ntmps-bB.size) undef,defers:=[] } w:=by
  refine⟨af,ρ,.of (Below.refl w.heap.size w) (dz _),λb k hb=>⟨.inr (by rw[show W.L b=af b from rfl,hb];simp),nD b k hb⟩,ou.roots C 0 _ hE (λr x hx=>by cases hx),λj=>?_,by simp[hN];omega,rfl,λr l hr=>?_,λr hr=>?_⟩
  ·by_cases hj:j<bB.size
   ·have e:(bB++Array.replicate (fn.ntmps-bB.size) undef).getD j undef=bB.getD j undef:=by
     rw[gN,Array.getElem?_append_left hj,gN]
    rw[e];exact hv j
   ·have e:(wE C args).t j = .undef:=by
     simp only[wE,List.getElem?_eq_none (by omega:args.length <= j)]
    rw[e];trivial
  ·grind
  ·grind
 refine wp_mono (Dn (w0:=W) dI code _ _ h tU _ w hR) λe U w' E=>?_
 obtain⟨cG,O,C1,C0,I⟩:=E;have fin:FO P (Proofs.YtgjfmljpdnnihaaGreat.vi N cG fn.results.toList) fn.results C k=some r -> U.defers=[] /\ ∃ v,(results fn U.tmps).run P w' = .ok v w' /\ ∃ zz az outs D,k outs D=some r/\Ending.returned v=Ending.returned zz/\iY ⟨w,af,λ_=>none,T,λ_ _=>rfl⟩ w w'/\(∀ b k,az b=some k -> (w.heap.size <= b \/ af b≠none)/\b<w'.heap.size/\k≠[])/\oW w' w.heap.size az nm D zz/\qF w w' az ρ nm 0 D.len C outs:=by
  intro oC;obtain⟨outs,D,hko,dV⟩:=ag0 (w0:=W) rfl (λr Y Z=>aV ⟨Y,Z⟩) (ou.PU C 0 hE) oC;obtain⟨dj,eR,ki⟩:=Rl.vi _ cG C1 C0 I;obtain⟨v,az,Y,Z,h3,h4⟩:=dV dj eR U w' ki nm;exact⟨I.defers,v,Y,v,az,outs,D,hko,rfl,⟨I.below.os,I.below.tape,I.below.output,I.below.size,λk O=>I.below.block k O⟩,Z,h3,h4⟩
 split at O
 next E=>have E:=sg E;subst E;exact fin O
 next E=>have E:=sg E;subst E;exact fin O
 ·cases O
end
def qU:(l:aa (Bool×TC×Nat))->aa In->aj (qG l)
 |[],[]=>some ()
 | (true,t,g) :: r,.ay cs :: is=>match dec t g cs,qU r is with
  |some x,some xs=>some (x,xs)
  |_,_=>none
 | (false,t,g) :: r,.sl y :: is=>match (bif Nat.ble 1000000 g then (bif y.jG then none else y.eZ t (g+2))else bif y.jG then y.eZ t (g+2)else none),qU r is with
  |some x,some xs=>some (x,xs)
  |_,_=>none
 |_,_=>none
def K8:aa In->aa In->aa In->Prop
 |[],[],[]=>True
 |.ay I::C,.ay cs::r,.ay eM::D=>(kJ cs eM/\I.map (λv=>(v.plain,v.aG))=eM.map (λv=>(v.plain,v.aG))/\∀x∈eM,x.jG=true)/\K8 C r D
 |.sl _::C,.sl y::r,.sl E::D=>(Wk y E/\(y = .nil->E = .nil))/\K8 C r D
 |_,_,_=>False
def K9:∀ (ps:aa PK) (C:kN ps) (is:aa In) (x:qG (dZ ps)),qU (dZ ps) is=some x -> K8 (mU ps C) is (iM (dZ ps) x)
 |[],_,[],x,_=>trivial
 |[],_,_::_,x,h=>by simp[qU,dZ]at h
 |.v b t::ps,C,is,x,h=>K9 ps C.2 is x h
 |.p t g off::ps,C,[],x,h=>by simp[qU,dZ]at h
 |.s t g::ps,C,[],x,h=>by simp[qU,dZ]at h
 |.p t g off::ps,C,.sl _::_,x,h=>by simp[qU,dZ]at h
 |.s t g::ps,C,.ay _::_,x,h=>by simp[qU,dZ]at h
 | .p t g off :: ps,C,.ay cs :: is,x,h=>by
  have h:qU ((true,t,g)::dZ ps) (.ay cs::is)=some x:=h;unfold qU at h;split at h
  next y ys D I=>injection h with h;subst h;exact⟨⟨lz t g cs y D,af2 t g C.1 y,λz O=>OE t g y z O⟩,K9 ps C.2 is ys I⟩
  ·cases h
 | .s t g :: ps,C,.sl y :: is,x,h=>by
  have h:qU ((false,t,g)::dZ ps) (.sl y::is)=some x:=h;unfold qU at h;split at h
  ·rename_i z T D I;injection h with h;subst h;refine⟨?_,K9 ps C.2 is T I⟩;cases hb:Nat.ble 1000000 g with
   | true=>
    cases E:y.jG with
    |true=>simp_all
    | false=>
     have:y = .nil:=by cases y<;>first|rfl|cases E
     subst this;exact⟨.same _,λ_=>rfl⟩
   | false=>
    cases E:y.jG with
    |false=>simp_all
    | true=>
     rw[hb,E]at D;exact⟨V.E4 D,λe=>by subst e;cases E⟩
  ·cases h
def qF.typed{w w':World}{az:bk}{ρ:Nat -> Loc}{nm:Nat -> Nat}:∀ (E:aa In) (i Y:Nat) (outs T:aa In),qF w w' az ρ nm i Y E outs -> K8 E outs T -> FN w w' az ρ nm i Y E T
 |[],i,Y,[],[],h,C=>trivial
 | .ay Zb :: E,i,Y,.ay Zc :: outs,.ay cs2 :: T,h,C=>by
  obtain⟨⟨b,off,cells,wF,e,e',Z,h2,h3,h4,h5,h6,h7⟩,hr⟩:=h;obtain⟨⟨U,R8,hnn⟩,oh⟩:=C
  refine⟨⟨b,off,cells,wF,e,e',Z,h2,h3,h4,by rw[<- U.1];exact h5,by rw[<- U.1];exact h6,λj x hx=>?_⟩,qF.typed E _ _ outs T hr oh⟩
  have hj:j<Zc.length:=by rw[U.1];exact(dA.1 hx).1
  obtain⟨u,hu,hc⟩:=h7 j _ (bH hj);have C:=U.2 j _ x (bH hj) hx;have R9:∀ I,Zb[j]?=some I -> I.plain=x.plain/\I.aG=x.aG:=by
   intro I h0;have e1:(Zb.map (λv=>(v.plain,v.aG)))[j]?=(cs2.map (λv=>(v.plain,v.aG)))[j]?:=by rw[R8]
   grind
  have hxn:=hnn x (gv hx);generalize Zc[j]=y at hc C;refine⟨u,hu,?_⟩;rcases hc with ⟨D,O⟩|⟨D,O,I,c3,c4⟩|⟨D,O,c6,⟨I,c3,c4⟩,c5⟩|⟨D,O⟩
  ·cases C with
   |same=>grind
   |nil t o=>cases D
   |q t o l=>cases D
   |gr=>cases D
  ·subst D O;have hf:x.aG=false:=by rw[<- (R9 I c3).2];exact c4
   cases C with
   |same=>cases hxn
   |nil t o=>exact .inr (.inr ⟨hf,.dX _ _ _⟩)
  ·cases C with
   |same=>grind
   |nil t o=>cases c6
   |q t o l=>exact .inr (.inl ⟨rfl,O,c5⟩)
   |gr t o o' qn l Z h2=>simp[V.aG]at O;omega
  ·have hf:=C.P1 D;exact .inr (.inr ⟨hf,O.wk C⟩)
 | .sl y0 :: E,i,Y,.sl y1 :: outs,.sl y2 :: T,h,C=>by
  obtain⟨h,hr⟩:=h;obtain⟨⟨U,hn⟩,oh⟩:=C;exact⟨h.imp hn (λ⟨v,Z,h2⟩=>⟨v,Z,h2.wk U⟩),qF.typed E _ _ outs T hr oh⟩
 |[],_,_,_::_,_,h,_=>h.elim
 |[],_,_,[],_::_,_,h=>h.elim
 |.ay _::_,_,_,[],_,h,_=>h.elim
 |.sl _::_,_,_,[],_,h,_=>h.elim
 |.ay _::_,_,_,.sl _::_,_,h,_=>h.elim
 |.sl _::_,_,_,.ay _::_,_,h,_=>h.elim
 |.ay _::_,_,_,.ay _::_,[],_,h=>h.elim
 |.ay _::_,_,_,.ay _::_,.sl _::_,_,h=>h.elim
 |.sl _::_,_,_,.sl _::_,[],_,h=>h.elim
 |.sl _::_,_,_,.sl _::_,.ay _::_,_,h=>h.elim
def Zd:∀ (l:aa (Bool×TC×Nat)) (ps:aa Pt) (x:iq l),oX l ps=some x -> (ps.map λp=>p.2.length)=((tD l x).map λp=>p.2.length)
 |[],[],x,h=>rfl
 | [(b,t,g)],[(C,D)],x,h=>by
  unfold oX at h;cases hb:b==C with
  |false=>rw[hb]at h;cases h
  | true=>
   rw[hb]at h;simp[tD,(lz t g D x h).1]
 | (b,t,g) :: q :: r,(C,D) :: ps,x,h=>by
  unfold oX at h;cases hb:b==C with
  |false=>simp_all
  | true=>
   rw[hb]at h;split at h
   next y ys E I=>injection h with h;subst h;simp only[tD,List.map_cons];rw[Zd _ ps ys I,(lz t g D y E).1]
   ·cases h
def ajO{l:aa (Bool×TC×Nat)}{C:fO}{x:iq l}(h:lE l C=some x):C.len=(eJ l x).len:=by
 have key:∀ ps,oX l ps=some x -> (ps.map λp=>p.2.length).sum=(eJ l x).len:=by
  intro ps h;rw[Zd l ps x h];unfold eJ
  match hm:tD l x with
  |[q]=>simp[fO.len]
  |[]=>rfl
  |_::_::_=>rfl
 cases C with
 |one p=>have:=key [p] h;simpa [fO.len]using this
 | eO ps=>
  simp only[lE]at h;cases hb:Nat.beq ps.length 1 with
  |true=>simp_all
  |false=>rw[hb]at h;exact key ps h
section
variable {P:Program} {w w':World} {w0:Wd} {B N:Nat} {af az:bk} {ρ ρ':Nat->Loc} {σ:S} {a:Act} {X:Type} {d:Nat} {r:X} {o:Oper} {Φ:dR} {Λ:mg}
def Dw(l ro:aa (Bool×TC×Nat))(outs:aa In)(C:fO):aj (iq ro×qG l):=
 match lE ro C,qU l outs with
 |some x,some y=>some (x,y)
 |_,_=>none
def Lb{f:Nat}{fn:Func}{code:Code}{ps:aa PK}{ro:aa (Bool×TC×Nat)}{F:kN ps->aj (iq ro×qG (dZ ps))}(I:P.funcs[f]?=some fn)(hb:fn.body=some code)(T:fn.ntmps=N)(U:(fn.name == "runtime.NumGoroutine")=false)(Y:Nat.ble ps.length N=true)(Z:Nat.ble N 20000=true)(eI:lH ro=true)
  (dI:fC P Φ) (tU:ox P N Λ (occs code)) (hF:∀x,Bn P N Φ Λ code fn.results (mU ps x) (jM ps 0 x) (Dw (dZ ps) ro)=F x):enters P f/\uV P f ⟨ps,ro,F⟩:=by
 refine⟨⟨fn,I,U,by rw[hb];rfl⟩,λx y h nm w af ρ bB hE nD D hv hQ=>?_⟩
 have h:F x=some y:=h;rw[<-hF x]at h;have hlen:∀ (ps:aa PK) (i:Nat) (x:kN ps),(jM ps i x).length=ps.length:=by
  intro ps
  induction ps with
  |nil=>intro i x;rfl
  | cons p ps E=>
   intro i x;cases p with
   |v=>exact bx (· + 1) (E _ _)
   |p=>exact bx (· + 1) (E _ _)
   |s=>exact bx (· + 1) (E _ _)
 have D:bB.size=(jM ps 0 x).length:=by rw[hlen];exact D
 refine(fnM_core I hb T (cr Z) (by rw[hlen];exact cr Y) dI tU h nm w af ρ bB hE nD D hv hQ).mono λe w' qC=>?_
 obtain⟨v,az,outs,res,C,he,rP,hl,jL,Qb⟩:=qC;unfold Dw at C;split at C
 next y1 y2 O h2=>injection C with C;subst C;refine⟨v,az,he,rP,hl,Y8 eI O jL,?_⟩;rw[<-ajO O];exact qF.typed _ _ _ _ _ Qb (K9 ps x outs y2 h2)
 ·cases C
end
set_option maxRecDepth 100000
def Lc(σ:S)(C:Array ResultVar):aj Int:=
 match C.toList with
 | [.tmp t]=>(match σ.t t with
  | .aH r 0=>(match σ.m r with
   |some (.ay [.own [n],.v (.int .i64 z),.v (.int .i64 h)])=>bif Nat.beq n 20000&&z==0 then some h else none
   |_=>none)
  |_=>none)
 |_=>none
def Ze(P:Program)(N:Nat)(Φ:dR)(Λ:mg)(code:Code)(C:Array ResultVar)(l:aa (T .u8)):aj Int:=
 kQ P N Φ Λ code (wE [.sl (.sl .u8 0 false l)] [.mut 0 0]) λe σ=>match zy e with
  |some 0=>Lc σ C
  |some 1=>Lc σ C
  |_=>none
section
variable {P:Program} {w w':World} {w0:Wd} {B N:Nat} {af az:bk} {ρ ρ':Nat->Loc} {σ:S} {a:Act} {X:Type} {d:Nat} {r:X} {o:Oper} {Φ:dR} {Λ:mg}
def ajP{f:Nat}{fn:Func}{code:Code}{F:aa Int->aj Int}(hf:P.funcs[f]?=some fn)(hb:fn.body=some code)(hN:fn.ntmps=N)(Bm:(fn.name == "runtime.NumGoroutine")=false)(Zf:Nat.ble 1 N=true)(Dv:Nat.ble N 20000=true)
  (dI:fC P Φ) (tU:ox P N Λ (occs code)) (hF:∀l,Ze P N Φ Λ code fn.results l=F l):enters P f/\Ki P f F:=by
 refine⟨⟨fn,hf,Bm,by rw[hb];rfl⟩,λw l h v hh hv hQ=>?_⟩
 rw[<-hF l]at hh;unfold Ze at hh;have Zf:=cr Zf;have Dv:=cr Dv;let W:Wd:=⟨w,λ_=>none,λr=>if 20000<=r/\r<60000 then some (.dn v)else none,hQ,λr E=>aW⟩
 refine calls_of_wp hf hb ?_;have hR:R W N (wE [.sl (.sl .u8 0 false l)] [.mut 0 0]) { tmps:=#[v]++Array.replicate (fn.ntmps-(#[v]:Array Value).size) undef,defers:=[] } w:=by
  refine⟨λ_=>none,λ_=>.dn v,.of (Below.refl w.heap.size w) (dz _),(λb k hb=>by cases hb),λn y O=>?_,λj=>?_,by simp[hN];omega,rfl,λr l E=>?_,λr E=>?_⟩
  ·have O:bG (λ_=>none) (nF 0) (some (.sl (.sl .u8 0 false l))) n=some y:=O;by_cases Z:n=nF 0
   ·subst Z;rw[bJ]at O;injection O with O;subst O;exact .sl v _ rfl (hv.key rfl)
   ·rw[cc _ _ _ Z]at O;cases O
  ·cases j with
   | zero=>
    have e:(#[v]++Array.replicate (fn.ntmps-(#[v]:Array Value).size) undef).getD 0 undef=v:=by
     rw[gN,Array.getElem?_append_left (by simp)];rfl
    show RA w w.heap.size _ _ (.lf (.own [nF 0])) ((#[v]++Array.replicate (fn.ntmps-(#[v]:Array Value).size) undef).getD 0 undef);rw[e];exact⟨hv.lW rfl rfl,rfl⟩
   |succ j=>exact trivial
  ·have E:(if 20000<=r/\r<60000 then some (Loc.dn v)else none)=some l:=E;split at E
   ·injection E
   ·cases E
  ·show (if 20000<=r/\r<60000 then some (Loc.dn v)else none)=none;rw[aW]
 refine wp_mono (Dn (w0:=W) dI code _ _ hh tU _ w hR) λe a' w' I=>?_
 obtain⟨cG,T,C1,C0,D⟩:=I;have fin:Lc cG fn.results=some h->a'.defers=[]/\∃ u,(results fn a'.tmps).run P w' = .ok u w'/\∃ b off cells t,Ending.returned u = .returned (.pointer (some ⟨b,off,none⟩))/\Below w.heap.size w w'/\w.heap.size<=b/\w'.heap[b]?=some (.cells cells t (0,0))/\cells[off]?=some v/\cells[off+1]?=some (.int .i64 0)/\cells[off+2]?=some (.int .i64 h):=by
  intro C;unfold Lc at C;split at C
  ·rename_i t ht;split at C
   ·rename_i r E;split at C
    ·rename_i n z h' hm;cases hb:(Nat.beq n 20000&&z==0)with
     |false=>rw[hb]at C;cases C
     | true=>
      rw[hb,aq]at C;injection C with C;subst C;rw[aJ]at hb;have Z:=cE hb.1;have hz:z=0:=by simpa using hb.2
      subst Z hz;have h1:=D.tmp t;rw[E]at h1;obtain⟨b,off,e1,e2⟩:=h1;have h2:=D.root r _ hm;generalize U:aP.ay _=x at h2;cases h2 with
      |sl=>cases U
      |mp=>cases U
      |gh=>cases U
      | ay b' AL cells e cs us bV hl CX hs hc=>
       injection U with U;subst U;rw[bV]at e1;injection e1 with e3 e4;subst e3 e4;obtain⟨c0,Y⟩:=hc 0 _ rfl;obtain⟨c1,d1⟩:=hc 1 _ rfl;obtain⟨c2,d2⟩:=hc 2 _ rfl;have Y:=Y.2;have Sa:=D.fix 20000 (.dn v) rfl;simp only[cF,Sa]at Y;injection Y with Y;rw[<-Y]at c0;rw[d1.2.gz]at c1;rw[d2.2.gz]at c2
       refine⟨D.defers,_,?_,b',AL,cells,e,rfl,⟨D.below.os,D.below.tape,D.below.output,D.below.size,λk T=>D.below.block k T rfl⟩,?_,CX,c0,c1,c2⟩
       ·have jL:results fn a'.tmps=(do let vs <-fn.results.mapM (qE a'.tmps);pure (if h:vs.size=1 then vs[0]else .tuple vs)):=by
         unfold results;congr 1
        have pg:fn.results = #[.tmp t]:=by apply Array.ext';exact ht
        rw[jL,pg,Array.mapM_eq_mapM_toList];simp[qE,e2]
       ·have:=(D.cL b' _ hl).1;exact this.resolve_right (λh=>h rfl)
    ·cases C
   ·cases C
  ·cases C
 split at T
 next I=>have I:=sg I;subst I;exact fin T
 next I=>have I:=sg I;subst I;exact fin T
 ·cases T
end
def nV(i j:Nat):Nat:=20001+1000*i+j
def Dy(i j:Nat)(x:V):Lf:=match x with
 |.sl ..=>.own [nV i j]
 |x=>.v x
def xe(i:Nat):Nat->aa V->aa Lf
 |_,[]=>[]
 |j,x::xs=>Dy i j x::xe i (j+1) xs
def Sb(args:aa Pt)(n:Nat):aj aP:=bif Nat.ble 20001 n&&Nat.blt n 60000 then (match args[(n-20001) / 1000]? with
 | some (_,xs)=>(match xs[(n-20001) % 1000]? with
  |some (.sl t g q l)=>some (.sl (.sl t g q l))
  |_=>none)
 |none=>none)else none
def Zg(args:aa Pt):S:=⟨λi=>match args[i]? with
 |some (false,[x])=>.lf (Dy i 0 x)
 |some (true,xs)=>.agg (xe i 0 xs)
 |_=>.undef,Sb args⟩
def Ld(σ:S)(C:Array ResultVar)(a j:Nat)(t:TC):aj (Nat×Nat):=match C.toList with
 | [.tmp s]=>(match σ.t s with
  |.view [n] D i k=>bif Nat.beq n (nV a j)&&Nat.beq D (aB t)then some (i,k)else none
  |_=>none)
 |_=>none
def Zh(P:Program)(N:Nat)(Φ:dR)(Λ:mg)(code:Code)(C:Array ResultVar)(a j:Nat)(t:TC)(args:aa Pt):aj (Nat×Nat):=
 kQ P N Φ Λ code (Zg args) λe σ=>match zy e with
  |some 0=>Ld σ C a j t
  |some 1=>Ld σ C a j t
  |_=>none
def Sc(ai:aa (Bool×TC))(a j:Nat)(t:TC)(F:ko ai->aj (Nat×Nat)):A8:=⟨a,j,t,λargs=>match xd ai args with
 |some x=>F x
 |none=>none⟩
section
variable {P:Program} {w w':World} {w0:Wd} {B N:Nat} {af az:bk} {ρ ρ':Nat->Loc} {σ:S} {a:Act} {X:Type} {d:Nat} {r:X} {o:Oper} {Φ:dR} {Λ:mg}
def Zi(i:Nat):∀ (xs:aa V) (C j:Nat),(xe i C xs)[j]?=(xs[j]?).map λx=>Dy i (C+j) x
 |[],C,j=>by simp[xe]
 |x::xs,C,0=>by simp[xe]
 | x :: xs,C,j+1=>by
  simp[xe,List.getElem?_cons_succ,Zi]
  grind
def Zj(i:Nat):∀ (xs:aa V) (C:Nat),(xe i C xs).length=xs.length
 |[],_=>rfl
 |x::xs,C=>by simp[xe,Zj i xs (C+1)]
def Zk{i j:Nat}(h:j<1000):(nV i j-20001) / 1000=i/\(nV i j-20001) % 1000=j:=by
 unfold nV;omega
def zB(bB:Array Value)(n:Nat):Loc:=.dn ((tN bB ((n-20001) / 1000) ((n-20001) % 1000)).getD undef)
def Zl{bB:Array Value}{i j:Nat}{x:V}{u:Value}(D:j<1000)(E:tN bB i j=some u)(I:x.aG=true)(C:RV w B (λ_=>none) [] x u):dH w B (λ_=>none) (zB bB) (Dy i j x) u:=by
 unfold Dy;split
 ·refine⟨C.lW rfl rfl,?_⟩;obtain⟨O,T⟩:=Zk (i:=i) D;simp only[cF,zB,O,T,E];rfl
 ·exact⟨I,C⟩
def ajQ{f:Nat}{fn:Func}{code:Code}{ai:aa (Bool×TC)}{O T:Nat}{t:TC}{F:ko ai -> aj (Nat×Nat)}(hf:P.funcs[f]?=some fn)(hb:fn.body=some code)(hN:fn.ntmps=N)(Bm:(fn.name == "runtime.NumGoroutine")=false)(R7:Nat.ble ai.length N=true)(Dv:Nat.ble N 20000=true)(gZ:(ai.all λp=>Nat.blt (aB p.2) 1000&&(p.1 || Nat.beq (aB p.2) 1))=true)(Zm:Nat.blt T 1000=true)(haa:Nat.blt O 30=true)
  (dI:fC P Φ) (tU:ox P N Λ (occs code)) (hF:∀x,Zh P N Φ Λ code fn.results O T t (ga ai x)=F x):enters P f/\Kj P f (Sc ai O T t F):=by
 refine⟨⟨fn,hf,Bm,by rw[hb];rfl⟩,λargs p h w bB lD hQ=>?_⟩
 simp only[Sc]at h;split at h
 ·rename_i x hx;obtain⟨k1,k2⟩:=R4 ai args x hx;have hlen:∀ (l:aa (Bool×TC)) (x:ko l),(ga l x).length=l.length:=by
   intro l
   induction l with
   |nil=>intro x;rfl
   |cons p l ih=>obtain⟨b,t⟩:=p;intro x;simp[ga,ih]
  have kL:bB.size=ai.length:=by rw[lD.1,<- k1,hlen]
  have hle:bB.size <= N:=by rw[kL];exact cr R7
  have Dv:=cr Dv;have pg:∀ (l:aa (Bool×TC)) (x:ko l),(l.all λp=>Nat.blt (aB p.2) 1000&&(p.1 || Nat.beq (aB p.2) 1))=true -> ∀ (j:Nat) p,(ga l x)[j]?=some p -> (∀ y∈p.2,y.aG=true)/\p.2.length<1000/\(p.1=true \/ p.2.length=1):=by
   intro l
   induction l with
   |nil=>intro x _ j p U;simp[ga]at U
   | cons c l ih=>
    obtain⟨b,t⟩:=c;intro x hs j p U;rw[List.all_cons,aJ]at hs;cases j with
    | zero=>
     simp[ga]at U;subst U
     refine⟨λy C=>?_,?_⟩
     ·obtain⟨i,hi⟩:=List.mem_iff_getElem?.1 C;exact oR t 0 x.1 (by omega) i y hi
     ·show (enc t 0 x.1).length<1000/\(b=true \/ (enc t 0 x.1).length=1);rw[ke];have h8:=hs.1;rw[aJ,dS]at h8;have h9:=cr h8.1;exact⟨h9,h8.2.imp id cE⟩
    |succ j=>exact ih x.2 hs.2 j p (by simpa [ga]using U)
  have oT:∀ (i:Nat) (p:Pt),(ga ai x)[i]?=some p -> ∃ u:Value,bB[i]?=some u/\PV w w.heap.size (λ_=>none) (λ_=>[]) p u/\(∀ y∈p.2,y.aG=true)/\p.2.length<1000:=by
   intro i p U;obtain⟨q,hq,CR,wm⟩:=k2 i p U;obtain⟨u,Y,rX⟩:=lD.2 i q hq;obtain⟨g1,g2,g3⟩:=pg ai x gZ i p U;refine⟨u,Y,?_,g1,g2⟩;obtain⟨b,ys⟩:=p;obtain⟨b',xs⟩:=q;simp only at CR;subst CR;have hw:=rX.tH wm;rcases g3 with g3|g3
   ·simp only at g3;subst g3;exact hw.WI
   ·obtain⟨y,rfl⟩:=List.length_eq_one_iff.1 g3;cases b' with
    |true=>exact hw.WI
    |false=>exact hw.pv
  have Sd:∀ (i:Nat) (p:Pt),(ga ai x)[i]?=some p -> ∀ (j:Nat) y,p.2[j]?=some y -> ∃ u,tN bB i j=some u/\RV w w.heap.size (λ_=>none) [] y u/\y.aG=true/\j<1000:=by
   intro i p U j y C;obtain⟨u,Y,⟨us,D,h2,h3⟩,h4,h5⟩:=oT i p U;obtain⟨v,E,I⟩:=h3 j y C;refine⟨v,?_,I,h4 y (gv C),by have:=(dA.1 C).1;omega⟩;unfold tN;rw[Y];obtain⟨b,ys⟩:=p;cases b with
   | true=>
    have D:u = .agg us:=D;subst D;exact E
   | false=>
    have D:us = #[u]:=D;subst D;have hj:j=0:=by
     have:=(hU.1 E).1
     simpa using this
    subst hj;have:u=v:=by simpa using E
    subst this;have ve:∀ us,u ≠ .agg us:=by
     rintro us rfl;cases I
    cases u<;>first|exact absurd rfl (ve _)|rfl
  let W:Wd:=⟨w,λ_=>none,λr=>if 20000 <= r/\r<60000 then some (zB bB r)else none,hQ,λr I=>aW⟩
  refine calls_of_wp hf hb ?_;rw[<- hF x]at h;unfold Zh at h;have hR:R W N (Zg (ga ai x)) { tmps:=bB++Array.replicate (fn.ntmps-bB.size) undef,defers:=[] } w:=by
   refine⟨λ_=>none,zB bB,.of (Below.refl w.heap.size w) (dz _),(λb k hk=>by cases hk),(λn y C=>?_),λi=>?_,by simp[hN];omega,rfl,λr l I=>?_,λr I=>?_⟩
   ·have C:Sb (ga ai x) n=some y:=C;unfold Sb at C;cases hb:(Nat.ble 20001 n&&Nat.blt n 60000)with
    |false=>rw[hb]at C;cases C
    | true=>
     rw[hb,aq]at C;split at C
     ·rename_i b xs U;split at C
      next t' g q l hl=>injection C with C;subst C;obtain⟨u,Y,I,rM,_⟩:=Sd _ _ U _ _ hl;refine .sl u _ ?_ (I.key rM);unfold zB;simp[*]
      ·cases C
     ·cases C
   ·show RA w w.heap.size _ _ (match (ga ai x)[i]? with | some (false,[x])=>A.lf (Dy i 0 x) | some (true,xs)=>.agg (xe i 0 xs) | _=>.undef) _;have CH:∀ p:Pt,(ga ai x)[i]?=some p -> ∃ u:Value,bB[i]?=some u/\(bB++Array.replicate (fn.ntmps-bB.size) undef).getD i undef=u:=by
     intro p U;obtain⟨u,Y,_⟩:=oT i p U;have hi:=(hU.1 Y).1;exact⟨u,Y,by rw[gN,Array.getElem?_append_left hi,Y];rfl⟩
    split
    ·rename_i x' lC;obtain⟨u,Y,e⟩:=CH _ lC;rw[e];obtain⟨v,E,I,rM,_⟩:=Sd i _ lC 0 x' rfl;have FL:u=v:=by
      unfold tN at E;rw[Y]at E;obtain⟨u2,oq,⟨us,D,h2,h3⟩,_⟩:=oT i _ lC;rw[Y]at oq;injection oq with oq;subst oq;have D:us = #[u]:=D;subst D;obtain⟨v3,hv3,hr3⟩:=h3 0 x' rfl;have:u=v3:=by simpa using hv3
      subst this;have ve:∀ us,u ≠ .agg us:=by
       rintro us rfl;cases hr3
      cases u<;>first|exact absurd rfl (ve _)|(simp only[show Nat.beq 0 0=true from rfl,aq,ia]at E;exact E)
     subst FL;exact Zl (by omega) E rM I
    ·rename_i xs lC;obtain⟨u,Y,e⟩:=CH _ lC;rw[e];obtain⟨u2,oq,⟨us,D,h2,h3⟩,_⟩:=oT i _ lC;rw[Y]at oq;injection oq with oq;subst oq;have D:u = .agg us:=D
     refine⟨us,D,by rw[Zj];exact h2,λj y C=>?_⟩
     rw[Zi]at C;cases hz:xs[j]? with
     |none=>rw[hz]at C;cases C
     | some z=>
      rw[hz]at C;injection C with C;subst C;obtain⟨v,E,I,rM,hj⟩:=Sd i _ lC j z hz;have huj:us[j]?=some v:=by
       unfold tN at E;rw[Y,D]at E;exact E
      refine⟨v,huj,?_⟩;rw[ff];exact Zl hj E rM I
    ·trivial
   ·have I:(if 20000 <= r/\r<60000 then some (zB bB r)else none)=some l:=I;split at I
    ·injection I
    ·cases I
   ·show (if 20000 <= r/\r<60000 then some (zB bB r)else none)=none;rw[aW]
  refine wp_mono (Dn (w0:=W) dI code _ _ h tU _ w hR) λe a' w' he=>?_
  obtain⟨cG,hk,C1,C0,dc⟩:=he;have fin:Ld cG fn.results O T t=some p -> a'.defers=[] /\ ∃ u,(results fn a'.tmps).run P w' = .ok u w' /\ ∃ A n cap,tN bB O T=some (.slice A n cap)/\p.1 <= p.2/\p.2 <= n/\Ending.returned u = .returned (sliced A p.1 p.2 cap (aB t))/\Below w.heap.size w w':=by
   intro oC;unfold Ld at oC;split at oC
   ·rename_i s hs;split at oC
    ·rename_i n sz i k E;cases gy:(Nat.beq n (nV O T)&&Nat.beq sz (aB t))with
     |false=>rw[gy]at oC;cases oC
     | true=>
      rw[gy,aq]at oC;injection oC with oC;subst oC;rw[aJ]at gy;have hn:=cE gy.1;have ajR:=cE gy.2;subst hn ajR;have D:=dc.tmp s;rw[E]at D;obtain⟨A,m,c,Z,e2,e3,e4⟩:=D;have Zm:=cr Zm;have ve:20000 <= nV O T:=by unfold nV;omega
      by_cases c9:nV O T<60000
      ·have Sa:=dc.fix (nV O T) (zB bB (nV O T)) (aV ⟨ve,c9⟩);have Z:(match C0 (nV O T)with | .dn v=>some v | _=>none)=some (Value.slice A m c):=Z;rw[Sa]at Z;obtain⟨d1,d2⟩:=Zk (i:=O) (j:=T) (by omega);have Z:some ((tN bB ((nV O T-20001) / 1000) ((nV O T-20001) % 1000)).getD undef)=some (Value.slice A m c):=Z;rw[d1,d2]at Z;injection Z with Z
       refine⟨dc.defers,_,?_,A,m,c,?_,e2,e3,bx Ending.returned e4,⟨dc.below.os,dc.below.tape,dc.below.output,dc.below.size,λk hk=>dc.below.block k hk rfl⟩⟩
       ·have jL:results fn a'.tmps=(do let vs <- fn.results.mapM (qE a'.tmps);pure (if h:vs.size=1 then vs[0]else .tuple vs)):=by
         unfold results;congr 1
        have pg:fn.results = #[.tmp s]:=by apply Array.ext';exact hs
        rw[jL,pg];simp[qE]
       ·cases hl:tN bB O T with
        |none=>rw[hl]at Z;cases Z
        |some u=>rw[hl]at Z;exact bx some Z
      ·exfalso;have:=cr haa;unfold nV at c9;omega
    ·cases oC
   ·cases oC
  split at hk
  next he=>have he:=sg he;subst he;exact fin hk
  next he=>have he:=sg he;subst he;exact fin hk
  ·cases hk
 ·cases h
end
def Wd.pin(d:Wd)(g:Nat)(l:aj Loc)(D:20000<=g):Wd:=⟨d.w,d.L,λr=>if r=g then l else d.F r,d.held,λr C=>by
 show (if r=g then l else d.F r)=none;rw[aW];exact d.low r C⟩
def Bo(g:Nat):aa (Bool×aa Lf)->A
 |[(false,[x])]=>.lf (x.drop g)
 |[(true,cs)]=>.agg (cs.map (Lf.drop g))
 |[(false,_)]=>.undef
 |ps=>.eO (ps.map λp=>(p.1,p.2.map (Lf.drop g)))
def Bp{X:Type}(P:Program)(g:Nat)(D:Array ResultVar)(C:S)(k:S->A->aj X):aj X:=
 rU P C D.toList λps=>match C.m g with
  |some (.gh ys)=>k ⟨λj=>((ys.map (A.drop g))[j]?).getD .undef,(C.drop g).m⟩ (Bo g ps)
  |_=>none
def Zn(g N:Nat)(σ:S)(xs:aa A):S:=⟨λj=>((xs.map (A.drop g))[j]?).getD .undef,bG (σ.drop g).m g (some (.gh ((List.range N).map λj=>(σ.t j).drop g)))⟩
def Zo:mg:=λ_=>none
def GI{X:Type}(P:Program)(M g:Nat)(Φ:dR)(code:Code)(C:Array ResultVar)(N:Nat)(σ:S)(xs:aa A)(k:S->A->aj X):aj X:=
 bif Nat.ble xs.length M then kQ P M Φ Zo code (Zn g N σ xs) λe D=>match zy e with
  |some 0=>Bp P g C D k
  |some 1=>Bp P g C D k
  |_=>none
 else none
def Zp(P:Program)(M g:Nat)(Φ:dR)(code:Code)(C:Array ResultVar):tO:=⟨λX N σ xs k=>GI P M g Φ code C N σ xs k⟩
section
variable {P:Program} {w w':World} {w0:Wd} {B M N g:Nat} {af az:bk} {ρ ρ':Nat->Loc} {σ:S} {a:Act} {X:Type} {d:Nat} {r:X} {o:Oper} {Φ:dR} {Λ:mg}
def Se{C:aj Tmp}{D:Bool}:cm λX k=>r3 (X:=X) σ C D k:=λX Y k g=>by
 unfold r3
 repeat' first|rfl|refine cS ?_ ?_|split
def ajS{ops:Array Oper}{L i:Nat}:cm λX k=>Gh (X:=X) P N Φ ops L i σ o k:=λX Y k g=>by
 unfold Gh;split
 ·refine(QV _ _ _ _).trans (bx _ (funext λv=>?_))
  exact cS (wL _ _ _ _) rfl
 ·exact wL _ _ _ _
 ·rfl
def Sf(D:fC P Φ){ops:Array Oper}:∀ (f L:Nat) (σ:S),cm λX k=>qM (X:=X) P N Φ ops f L σ k
 | 0,L,σ=>λX Y k g=>by
  unfold qM;split<;>rfl
 | f+1,L,σ=>λX Y k g=>by
  have st:∀E o O,cm λX k=>de (X:=X) P N Φ ops σ o λI=>r3 I o.dst O λC=>qM P N Φ ops f E C k:=λE o O=>(X5 D).comp λI=>Se.comp λC=>Sf D f E C
  unfold qM
  repeat' first
   |rfl
   |exact st _ _ _ _ _ _ _
   |exact(ajS.comp λI=>Se.comp λC=>Sf D f _ C) X Y k g
   |split
def ajT{t:TypeId}{x lo hi C:A}{X Y:Type}(k:aj X)(g:X->aj Y):(Dd P σ t x lo hi C k).bind g=Dd P σ t x lo hi C (k.bind g):=by
 unfold Dd
 repeat' first
  |rfl
  |refine(wK _ _ _ _ _).trans (bx _ (funext λy=>?_))
  |split
def ajU(C:fC P Φ):cm λX k=>Gd (X:=X) P N Φ σ o k:=λX Y k g=>by
 unfold Gd
 repeat' first
  |exact X0 C _ _ _ _
  |exact aih _ _ _ _
  |exact(ajT _ _).trans (bx _ (cS rfl rfl))
  |split
def Sg(C:fC P Φ){ops:Array Oper}:∀ (rest:aa Oper) (j:Nat) (σ:S),cm λX k=>Bd (X:=X) P N Φ ops j rest σ k
 |[],j,σ=>λ_ _ _ _=>rfl
 | o :: rest,j,σ=>λX Y k g=>by
  unfold Bd;split
  ·exact((ajU C).comp λD=>Se.comp λE=>Sg C rest _ E) X Y k g
  ·exact(wL.comp λD=>Sg C rest _ D) X Y k g
  ·rfl
def Zq(E:fC P Φ):∀ (c:Code) (σ:S),Dc λX k=>kQ (X:=X) P N Φ Zo c σ k:=by
 intro c
 induction c with
 | region id ops draw=>
  intro σ X Y k g;cases draw with
  |true=>exact cS (Sf E _ _ _ _ _ _ _) rfl
  |false=>exact Sg E _ _ _ _ _ _ _
 | seq x y C D=>
  intro σ X Y k g
  refine(C σ _ _ _ _).trans (bx _ (funext λe=>funext λI=>?_))
  cases e with
  |normal=>exact D I _ _ _ _
  |_=>rfl
 | cond c x y C D=>
  intro σ X Y k g;simp only[kQ];split
  ·exact cS (C σ _ _ _ _) (D σ _ _ _ _)
  ·rfl
 | block id c O=>
  intro σ X Y k g
  refine(O σ _ _ _ _).trans (bx _ (funext λe=>funext λI=>?_))
  cases e with
  | exit T=>
   simp only;split<;>rfl
  |_=>rfl
 |_=>intro σ X Y k g;rfl
def Le:∀ (l:aa ResultVar),cm λX k=>rU (X:=X) P σ l k
 |[]=>λ_ _ _ _=>rfl
 | .tmp t :: rest=>λX Y k g=>by
  simp only[rU];split
  ·exact Le rest _ _ _ _
  ·rfl
 | .cell c ty :: rest=>λX Y k g=>by
  simp only[rU]
  refine(Xm _ _ _ _).trans (bx _ (funext λy=>?_))
  split
  ·exact Le rest _ _ _ _
  ·rfl
def Zr{C:Array ResultVar}:Dc λX k=>Bp (X:=X) P g C σ k:=λX Y k f=>by
 unfold Bp
 refine(Le _ _ _ _ _).trans (bx _ (funext λps=>?_))
 split<;>rfl
def ajV(C:fC P Φ){code:Code}{D:Array ResultVar}{xs:aa A}:Dc λX k=>GI (X:=X) P M g Φ code D N σ xs k:=λX Y k f=>by
 unfold GI
 refine cS ((Zq C _ _ _ _ _ _).trans (bx _ (funext λe=>funext λE=>?_))) rfl
 split
 ·exact Zr _ _ _ _
 ·exact Zr _ _ _ _
 ·rfl
def ajW{D:Array ResultVar}{E:S}{y:A}(h:Bp P g D σ (λσ y=>some (σ,y))=some (E,y)):∃ ys ps,σ.m g=some (.gh ys)/\rU P σ D.toList some=some ps/\⟨λj=>((ys.map (A.drop g))[j]?).getD .undef,(σ.drop g).m⟩=E/\Bo g ps=y:=by
 unfold Bp at h;obtain⟨ps,C,I⟩:=(Le _).lA h;split at C
 next ys O=>injection C with C;injection C with T U;exact⟨ys,ps,O,I.at_ _,T,U⟩
 ·cases C
def List.Zs(xs:aa A)(g j:Nat):((xs.map (A.drop g))[j]?).getD .undef=A.drop g ((xs[j]?).getD .undef):=by
 rw[dW];cases xs[j]?<;>rfl
def RP.Bo{ps:aa (Bool×aa Lf)}{C:aa Value}(I:∀ r,r≠g->ρ' r=ρ r)(hl:C.length=ps.length)(h:∀ (i:Nat) p v,ps[i]?=some p->C[i]?=some v->RP w B af ρ p v):
  RA w B af ρ' (Bo g ps) (if h:C.toArray.size=1 then C.toArray[0]else .tuple C.toArray):=by
 have eO:ps.length≠1->RA w B af ρ' (.eO (ps.map λp=>(p.1,p.2.map (Lf.drop g)))) (if h:C.toArray.size=1 then C.toArray[0]else .tuple C.toArray):=by
  intro T;rw[dif_neg (by simpa [hl]using T)]
  refine⟨C.toArray,rfl,by simpa using hl,λj p D=>?_⟩
  rw[dW]at D;cases E:ps[j]? with
  |none=>rw[E]at D;cases D
  | some q=>
   rw[E]at D;injection D with D;subst D;have O:j<C.length:=by rw[hl];exact(dA.1 E).1
   exact⟨C[j],by simp[O],(h j q C[j] E (bH O)).eP I⟩
 unfold Proofs.YtgjfmljpdnnihaaGreat.Bo;split
 ·rename_i x
  match C,hl,h with
  | [v],_,h=>
   have:=h 0 _ v rfl rfl;obtain⟨u,U,Y⟩:=this.2 0 x rfl;have:v=u:=by simpa using U
   subst this;exact Y.eP I
 ·rename_i cs
  match C,hl,h with
  |[v],_,h=>exact RP.eP I (p:=(true,cs)) (h 0 _ v rfl rfl)
 ·trivial
 ·rename_i h1 Z h3
  refine eO λe=>?_
  obtain⟨⟨b,cs⟩,rfl⟩:=List.length_eq_one_iff.1 e;cases b with
  |true=>exact Z cs rfl
  |false=>exact h3 cs rfl
def ajX{f:Nat}{fn:Func}{code:Code}(hf:P.funcs[f]?=some fn)(hb:fn.body=some code)(hN:fn.ntmps=M)(hM:M<=20000)(Bm:(fn.name == "runtime.NumGoroutine")=false)(hg:20000<=g/\g<60000)(dI:fC P Φ):
  enters P f/\qK P f (Zp P M g Φ code fn.results):=by
 refine⟨⟨fn,hf,Bm,by rw[hb];rfl⟩,λN σ xs=>ajV dI,λN σ xs τ0 y0 h w0 af ρ a w bB hR gZ hv=>?_⟩
 have h:GI P M g Φ code fn.results N σ xs _=_:=h;unfold GI at h;cases hl:Nat.ble xs.length M with
 |false=>rw[hl]at h;cases h
 | true=>
  rw[hl,aq]at h;have FA:=cr hl;obtain⟨e,τ,h1,h2⟩:=(Zq dI _ _).lA h;have h3:(e = .normal\/e = .ret)/\Bp P g fn.results τ (λσ y=>some (σ,y))=some (τ0,y0):=by
   split at h1
   next U=>exact⟨.inl (sg U),h1⟩
   next U=>exact⟨.inr (sg U),h1⟩
   ·cases h1
  obtain⟨hex,h3⟩:=h3;obtain⟨ys,ps,hy,qD,rfl,rfl⟩:=ajW h3;let us:=a.tmps.toList
  let W:Wd:=w0.pin g (some (.bB us)) hg.1
  let Y:=bG ρ g (.bB us)
  have bV:∀r,r≠g->Y r=ρ r:=λr hr=>cc _ _ _ hr
  have kf:∀ j,us.getD j undef=a.tmps.getD j undef:=λj=>by
   show a.tmps.toList.getD j undef=_;rw[cW,Array.getElem?_toList,gN]
  have hle:bB.size<=M:=by rw[gZ];exact FA
  have rZ:Rl W M af Y (Zn g N σ xs) { tmps:=bB++Array.replicate (fn.ntmps-bB.size) undef,defers:=[] } w:=by
   refine⟨⟨hR.below.os,hR.below.tape,hR.below.output,hR.below.size,hR.below.block⟩,hR.cL,λr x C=>?_,λj=>?_,by simp[hN];omega,rfl,λr l hr=>?_,λr hr=>?_⟩
   ·have C:bG (σ.drop g).m g (some (.gh ((List.range N).map λj=>(σ.t j).drop g))) r=some x:=C;by_cases D:r=g
    ·subst D;rw[bJ]at C;injection C with C;subst C
     refine .gh us _ (bJ _ _ _) λj x I=>?_
     rw[dW]at I;cases hr:(List.range N)[j]? with
     |none=>rw[hr]at I;cases I
     | some j'=>
      rw[hr]at I;injection I with I;obtain⟨c9,rI⟩:=dA.1 hr;rw[lV]at rI;subst rI I;rw[kf];exact(hR.tmp j).eP bV
    ·rw[cc _ _ _ D]at C;have C:(bif Nat.beq r g then none else (σ.m r).map (aP.drop g))=some x:=C;cases hb:Nat.beq r g with
     |true=>rw[hb]at C;cases C
     | false=>
      rw[hb,av]at C;cases hm:σ.m r with
      |none=>rw[hm]at C;cases C
      | some y=>
       rw[hm]at C;injection C with C;subst C;exact(hR.root r y hm).eP bV D
   ·show RA w w0.heap.size af Y (((xs.map (A.drop g))[j]?).getD .undef) _;rw[List.Zs];by_cases I:j<bB.size
    ·have e1:(bB++Array.replicate (fn.ntmps-bB.size) undef).getD j undef=bB.getD j undef:=by
      rw[gN,Array.getElem?_append_left I,gN]
     show RA w w0.heap.size af Y _ ((bB++Array.replicate (fn.ntmps-bB.size) undef).getD j undef);rw[e1];exact(hv j).eP bV
    ·rw[List.getElem?_eq_none (by omega:xs.length<=j)];trivial
   ·have hr:(if r=g then some (Loc.bB us)else w0.F r)=some l:=hr;by_cases D:r=g
    ·rw[aV D]at hr;injection hr with hr;rw[D,<-hr];exact bJ _ _ _
    ·rw[aW D]at hr;rw[bV r D];exact hR.fix r l hr
   ·show (if r=g then some (Loc.bB us)else w0.F r)=none;rw[aW];rcases hr with hr | hr
    ·exact w0.low r (by omega)
    ·exact hR.cD r (.inr hr)
  refine calls_of_wp hf hb ?_
  refine wp_mono (Dn (w0:=W) dI code _ (λe τ=>some (e,τ)) (h2 _ _) (λp hp b hb=>by cases hb) _ w ⟨af,Y,rZ⟩) λe' O w' U=>?_
  obtain⟨cG,oh,az,ρ',E⟩:=U;injection oh with oh;injection oh with k1 k2;subst k1 k2;have FX:ρ' g = .bB us:=E.fix g _ (aV rfl);let eR:=bG ρ' g ((w0.F g).getD (.ay 0 0))
  have C6:∀r,r≠g->eR r=ρ' r:=λr hr=>cc _ _ _ hr
  obtain⟨wD,Sh,jI⟩:=FM (w0:=W) (N:=M) _ _ qD;injection Sh with Sh;subst Sh;obtain⟨Z,dV,hlen,jJ⟩:=jI az ρ' O w' E;have ajY:(fn.results.mapM (qE O.tmps)).run P w' = .ok Z.toArray w':=by
   rw[Array.mapM_eq_mapM_toList];simp[dV]
  have jL:results fn O.tmps=(do let Z <-fn.results.mapM (qE O.tmps);pure (if h:Z.size=1 then Z[0]else .tuple Z)):=by
   unfold results;congr 1
  have hRf:Rl w0 N az eR ⟨λj=>((ys.map (A.drop g))[j]?).getD .undef,(cG.drop g).m⟩ a w':=by
   refine⟨⟨E.below.os,E.below.tape,E.below.output,E.below.size,E.below.block⟩,E.cL,λr x C=>?_,λj=>?_,hR.size,hR.defers,λr l hr=>?_,hR.cD⟩
   ·have C:(bif Nat.beq r g then none else (cG.m r).map (aP.drop g))=some x:=C;cases hb:Nat.beq r g with
    |true=>rw[hb]at C;cases C
    | false=>
     have D:r≠g:=by rintro rfl;simp at hb
     rw[hb,av]at C;cases hm:cG.m r with
     |none=>rw[hm]at C;cases C
     | some y=>
      rw[hm]at C;injection C with C;subst C;exact(E.root r y hm).eP C6 D
   ·show RA w' w0.heap.size az eR (((ys.map (A.drop g))[j]?).getD .undef) _;rw[List.Zs];cases hyj:ys[j]? with
    |none=>trivial
    | some y=>
     have eI:=E.root g _ hy;generalize T:aP.gh ys=z at eI;cases eI with
     |ay=>cases T
     |sl=>cases T
     |mp=>cases T
     | gh JD xs' wJ Zt=>
      injection T with T;subst T;rw[FX]at wJ;injection wJ with wJ;subst wJ;have:=Zt j y hyj;rw[kf]at this;exact this.eP C6
   ·by_cases D:r=g
    ·subst D;show bG ρ' r ((w0.F r).getD (.ay 0 0)) r=l;rw[bJ,hr];rfl
    ·rw[C6 r D];exact E.fix r l ((aW D).trans hr)
  have fin:O.defers=[]/\∃ v,(results fn O.tmps).run P w' = .ok v w'/\∃ zz az ρ',Ending.returned v=Ending.returned zz/\Rl w0 N az ρ' ⟨λj=>((ys.map (A.drop g))[j]?).getD .undef,(cG.drop g).m⟩ a w'/\RA w' w0.heap.size az ρ' (Bo g wD) zz:=
   ⟨E.defers,_,by rw[jL,fQ,ajY,lU,Sem.run_pure],_,az,eR,rfl,hRf,RP.Bo C6 hlen jJ⟩
  rcases hex with rfl|rfl
  ·exact fin
  ·exact fin
end
def tW:Nat:=1000000000
def stays(n:Nat):Bool:=Nat.ble 20000 (n % tW)
def ajZ:60000<=tW:=cr rfl
def pz(n:Nat):Nat:=bif stays n then n else n+tW
def zC(n:Nat):aj Nat:=bif stays n then some n else bif Nat.ble tW n && !stays (n-tW)then some (n-tW)else none
def kR:aa Nat->aa Nat
 |[]=>[]
 |[r]=>[pz r]
 |x::y::k=>x::kR (y::k)
def Lf.up:Lf->Lf
 |.v x=>.v x
 |.own k=>.own (kR k)
 |.dead=>.dead
def A.up:A->A
 |.undef=>.undef
 |.skip=>.skip
 |.lf x=>.lf x.up
 |.agg cs=>.agg (cs.map Lf.up)
 |.eO xs=>.eO (xs.map λp=>(p.1,p.2.map Lf.up))
 |.ptr k=>.ptr (kR k)
 |.aH r j=>.aH (pz r) j
 |.iX cs=>.iX cs
 |.mO f cs=>.mO f cs
 |.pk r n=>.pk (pz r) n
 |.view k s i j=>.view (kR k) s i j
 |.fn f cap=>.fn f (cap.map λp=>(pz p.1,p.2))
def aP.up:aP->aP
 |.ay cs=>.ay (cs.map Lf.up)
 |.sl y=>.sl y
 |.mp l=>.mp l
 |.gh xs=>.gh (xs.map A.up)
def S.up(σ:S):S:=⟨λk=>(σ.t k).up,λn=>match zC n with
 |some r=>(σ.m r).map aP.up
 |none=>none⟩
def Zu(c:tO):tO:=⟨λX N σ xs k=>c.run X N σ.up (xs.map A.up) λC y=>k C.up y.up⟩
section
variable {P:Program} {w w':World} {w0:Wd} {B N:Nat} {af az:bk} {ρ ρ':Nat->Loc} {σ:S} {a:Act} {X:Type}
def aj0(r:Nat):zC (pz r)=some r:=by
 unfold zC pz;cases h:stays r with
 |true=>simp_all
 | false=>
  have C:stays (r+tW)=false:=by
   unfold stays at h ⊢;simp_all
  have D:Nat.ble tW (r+tW)=true:=iF (Nat.le_add_left _ _);simp[*]
def aj1{n r:Nat}(h:zC n=some r):n=pz r:=by
 unfold zC at h;cases D:stays n with
 | true=>
  rw[D]at h;injection h with h;subst h;simp[pz,D]
 | false=>
  rw[D,av]at h;cases C:(Nat.ble tW n && !stays (n-tW))with
  |false=>simp_all
  | true=>
   rw[C]at h;have h:=Option.some.inj h;rw[aJ]at C;have I:=cr C.1;have E:stays r=false:=by rw[<- h];simpa using C.2
   simp[pz,E,av];omega
def mm(af:bk):bk:=λb=>(af b).map kR
def vj(ρ:Nat->Loc):Nat->Loc:=λn=>match zC n with
 |some r=>ρ r
 |none=>ρ n
def Bq(r:Nat):vj ρ (pz r)=ρ r:=by unfold vj;rw[aj0]
def aj2{k:aa Nat}(h:k≠[]):kR k≠[]:=by
 match k with
 |[r]=>simp[kR]
 |x::y::k=>simp[kR]
def Dz{x:Nat}{k:aa Nat}(h:k≠[]):kR (x :: k)=x :: kR k:=by
 match k with
 |[]=>exact absurd rfl h
 |y::k=>rfl
def Zv(x y:Nat)(k:aa Nat):∃ C D,kR (x :: y :: k)=x :: C :: D:=by
 match k with
 |[]=>exact⟨_,_,rfl⟩
 |z::k=>exact⟨y,_,rfl⟩
def Si:∀ (k:aa Nat) (ad:Addr),addrAt w af ρ k=some ad -> addrAt w (mm af) (vj ρ) (kR k)=some ad
 |[],_,h=>by simp[addrAt]at h
 | [j,i,s,r],ad,h=>by
  simp only[addrAt]at h;simp only[kR,addrAt,Bq];split at h
  ·rename_i b n c C;split at h
   next hl=>rw[aV (by simp[mm,hl,kR])];exact h
   ·cases h
  ·cases h
 | j :: i :: s :: x :: y :: q,ad,h=>by
  simp only[addrAt]at h;split at h
  ·rename_i b n c C;split at h
   ·rename_i hl;cases D:addrAt w af ρ (x :: y :: q)with
    |none=>simp_all
    | some I=>
     have E:=Si (x::y::q) I D;have e:mm af b=some (kR (x::y::q)):=by simp[mm,hl]
     rw[Dz (by simp),Dz (by simp),Dz (by simp)];rw[D]at C;obtain⟨T,U,O⟩:=Zv x y q;rw[O]at E e ⊢;simp only[addrAt,E,C,e,if_true];exact h
   ·cases h
  ·cases h
def Zw{k:aa Nat}{u:Value}(h:cF w af ρ k=some u):cF w (mm af) (vj ρ) (kR k)=some u:=by
 match k with
 | [r]=>
  simp[kR,cF,Bq];exact h
 | x :: y :: k=>
  simp[cF]at h;cases C:addrAt w af ρ _ with
  |none=>rw[C]at h;cases h
  | some ad=>
   have:=Si _ _ C;obtain⟨E,I,D⟩:=Zv x y k;rw[D]at this ⊢;simp[cF,this];simp_all
def Sj{b:Nat}(h:af b=none):mm af b=none:=by simp[mm,h]
def RV.up(D:∀ b k,af b=some k->k≠[]){k:aa Nat}{x:V}{v:Value}(h:RV w B af k x v):RV w B (mm af) (kR k) x v:=
 h.map (Q:=λk C=>C=kR k) (dz _) (λb _ h=>⟨rfl,Sj h⟩) (λb k C _ hl e=>by
  subst e;exact⟨rfl,by simp[mm,hl],λj i s=>by rw[Dz (by simp),Dz (by simp),Dz (D b k hl)]⟩) (.inr rfl)
def dH.up(C:∀ b k,af b=some k->k≠[]){x:Lf}{u:Value}(h:dH w B af ρ x u):dH w B (mm af) (vj ρ) x.up u:=by
 cases x with
 |v x=>exact⟨h.1,RV.up C h.2⟩
 |own k=>exact⟨h.1,Zw h.2⟩
 |dead=>trivial
def ez.up(E:∀ b k,af b=some k -> k≠[]){cs:aa Lf}{us:Array Value}(h:ez w B af ρ cs us):ez w B (mm af) (vj ρ) (cs.map Lf.up) us:=by
 refine⟨by rw[eN];exact h.1,λj x C=>?_⟩
 rw[dW]at C;cases D:cs[j]? with
 |none=>simp_all
 | some z=>
  rw[D]at C;injection C with C;subst C;obtain⟨u,I,O⟩:=h.2 j z D;exact⟨u,I,O.up E⟩
def RP.up(C:∀ b k,af b=some k->k≠[]){p:Bool×aa Lf}{u:Value}(h:RP w B af ρ p u):RP w B (mm af) (vj ρ) (p.1,p.2.map Lf.up) u:=by
 obtain⟨b,cs⟩:=p;cases b with
 | true=>
  obtain⟨us,rfl,h⟩:=h;exact⟨us,rfl,ez.up C h⟩
 |false=>exact ez.up C h
def RA.up(I:∀ b k,af b=some k -> k≠[]){x:A}{u:Value}(h:RA w B af ρ x u):RA w B (mm af) (vj ρ) x.up u:=by
 cases x with
 |undef=>trivial
 |skip=>exact h
 |lf x=>exact dH.up I h
 |agg cs=>exact RP.up I (p:=(true,cs)) h
 | eO xs=>
  obtain⟨us,rfl,D,E⟩:=h
  refine⟨us,rfl,by rw[eN];exact D,λj p C=>?_⟩
  rw[dW]at C;cases O:xs[j]? with
  |none=>simp_all
  | some z=>
   rw[O]at C;injection C with C;subst C;obtain⟨v,T,U⟩:=E j z O;exact⟨v,T,U.up I⟩
 | ptr k=>
  obtain⟨ad,rfl,h⟩:=h;exact⟨ad,rfl,Si _ _ h⟩
 | aH r j=>
  obtain⟨b,off,D,E⟩:=h;exact⟨b,off,(Bq r).trans D,E⟩
 | iX cs=>
  obtain⟨b,off,Y,Z,g3,g4⟩:=h
  refine⟨b,off,Y,Z,Sj g3,λj x hx=>?_⟩
  obtain⟨f1,v,f2,f3⟩:=g4 j x hx;exact⟨f1,v,f2,RV.up I f3⟩
 | mO f cs=>
  obtain⟨pv,e0,h⟩:=h;refine⟨pv,e0,?_⟩;obtain⟨b,off,Y,Z,g3,g4⟩:=h
  refine⟨b,off,Y,Z,Sj g3,λj x hx=>?_⟩
  obtain⟨f1,v,f2,f3⟩:=g4 j x hx;exact⟨f1,v,f2,RV.up I f3⟩
 | pk r n=>
  obtain⟨b,D,E⟩:=h;exact⟨b,(Bq r).trans D,E⟩
 | view k s i j=>
  obtain⟨A,n,c,D,E⟩:=h;exact⟨A,n,c,Zw D,E⟩
 | fn f cap=>
  obtain⟨vs,rfl,D,E⟩:=h
  refine⟨vs,rfl,by rw[eN];exact D,λj p C=>?_⟩
  rw[dW]at C;cases O:cap[j]? with
  |none=>simp_all
  | some z=>
   rw[O]at C;injection C with C;subst C;obtain⟨b,off,T,U⟩:=E j z O;exact⟨b,off,(Bq _).trans T,U⟩
def dM.up(U:∀ b k,af b=some k -> k≠[]){r:Nat}{x:aP}(h:dM w B af ρ r x):dM w B (mm af) (vj ρ) (pz r) x.up:=by
 have T:=Bq (ρ:=ρ) r;have hl:∀{b},af b=some [r] -> mm af b=some [pz r]:=λh=>by simp[mm,h,kR]
 cases h with
 | ay b off cells e cs us C I Y hs Z=>
  refine .ay b off cells e _ us (T.trans C) (hl I) Y (by rw[eN];exact hs) λj x D=>?_
  rw[dW]at D;cases E:cs[j]? with
  |none=>simp_all
  | some z=>
   rw[E]at D;injection D with D;subst D;exact⟨(Z j z E).1,(Z j z E).2.up U⟩
 |sl v y C I=>exact .sl v y (T.trans C) (RV.up U I)
 |mp b c es l C I Y he=>exact .mp b c es l (T.trans C) (hl I) Y he
 | gh us xs C D=>
  refine .gh us _ (T.trans C) λj x O=>?_
  rw[dW]at O;cases E:xs[j]? with
  |none=>simp_all
  | some z=>
   rw[E]at O;injection O with O;subst O;exact RA.up U (D j z E)
def Rl.up(h:Rl w0 N af ρ σ a w):Rl w0 N (mm af) (vj ρ) σ.up a w:=by
 have T:=λb k D=>(h.cL b k D).2.2
 refine⟨h.below,λb k D=>?_,λn x C=>?_,λk=>RA.up T (h.tmp k),h.size,h.defers,λr l E=>?_,h.cD⟩
 ·unfold mm at D;cases hl:af b with
  |none=>simp_all
  | some q=>
   rw[hl]at D;injection D with D;obtain⟨I,O,Y⟩:=h.cL b q hl;exact⟨I,O,by rw[<- D];exact aj2 Y⟩
 ·have C:(match zC n with | some r=>(σ.m r).map _ | none=>none)=some x:=C;cases U:zC n with
  |none=>simp_all
  | some r=>
   rw[U]at C;have C:(σ.m r).map _=some x:=C;cases hm:σ.m r with
   |none=>simp_all
   | some y=>
    rw[hm]at C;injection C with C;subst C;rw[aj1 U];exact(h.root r y hm).up T
 ·have Z:stays r=true:=by
   have I:20000 <= r:=Nat.le_of_not_lt λc9=>by rw[w0.low r c9]at E;cases E
   have O:r<60000:=Nat.lt_of_not_le λhle=>by rw[h.cD r (.inr hle)]at E;cases E
   unfold stays;rw[Nat.mod_eq_of_lt (Nat.lt_of_lt_of_le O ajZ)];exact iF I
  have hu:pz r=r:=by simp[pz,Z]
  have:=Bq (ρ:=ρ) r;rw[hu]at this;rw[this];exact h.fix r l E
def aj3{f:Nat}{c:tO}(h:qK P f c):qK P f (Zu c):=by
 refine⟨λN σ xs X Y k g=>h.1 N σ.up (xs.map A.up) X Y _ g,λN σ xs τ z I w0 af ρ a w bB hR O T=>?_⟩
 obtain⟨U,y,C,Z⟩:=(h.1 N σ.up (xs.map A.up)).lA I;injection C with C;injection C with h4 h5;subst h4 h5;have h3:=h.2 N σ.up (xs.map A.up) U y (Z _ _);have ck:∀b k,af b=some k->k≠[]:=λb k D=>(hR.cL b k D).2.2
 refine(h3 w0 _ _ a w bB hR.up (by rw[eN];exact O) λi=>?_).mono λe w' hp=>?_
 ·rw[dW];have:=T i;cases hx:xs[i]? with
  |none=>trivial
  | some x=>
   rw[hx]at this;exact RA.up ck this
 ·obtain⟨v,az,ρ',he,E,hy⟩:=hp;exact⟨v,_,_,he,E.up,RA.up (λb k D=>(E.cL b k D).2.2) hy⟩
end
def br:Nat:=4611686018427387904
def xg(c:Code)(id:Nat):Code:=match (occs c).lookup id with
 |some (.loop b)=>b
 |_=>.skip
def bw(fn:Func):Code:=fn.body.getD .skip
def lI(l:aa (Nat×o8)):dR:=λf=>l.lookup f
def Br(P:Program):aa (Nat×o8)->Prop
 |[]=>True
 |(f,c)::l=>(enters P f/\QB P f c)/\Br P l
def tX{P:Program}:∀ (l:aa (Nat×o8)),Br P l -> fC P (lI l)
 |[],_=>λf c h=>by cases h
 | (f',E) :: l,⟨I,D⟩=>λf c h=>by
  have C:List.lookup f _=some c:=h;rw[List.lookup_cons]at C;split at C
  ·simp_all
  ·exact tX l D f c C
def jz(l:aa (Nat×r5)):mg:=λid=>l.lookup id
def Sk(P:Program)(N:Nat)(code:Code):aa (Nat×r5)->Prop
 |[]=>True
 |(id,b)::l=>(∃c,(occs code).lookup id=some c/\Bf P N (.block id c) b)/\Sk P N code l
def ids(l:aa (Nat×Code)):Bool:=(l.map (·.1)).all λi=>Nat.beq ((l.filter λp=>Nat.beq p.1 i).length) 1
def Zx:∀ (l:aa (Nat×Code)) (p:Nat×Code),(∀ q∈l,q.1=p.1 -> q=p) -> p∈l -> l.lookup p.1=some p.2
 |[],p,_,h=>by cases h
 | q :: l,p,C,h=>by
  rw[List.lookup_cons];by_cases D:p.1=q.1
  ·simp_all
  ·have hb:(p.1==q.1)=false:=by simpa using D
   rw[hb];rcases gk.1 h with rfl|h
   ·simp_all
   ·exact Zx l p (λq E=>C q (.tail _ E)) h
def aj4{l:aa (Nat×Code)}(h:ids l=true){p q:Nat×Code}(D:p∈l)(E:q∈l)(I:q.1=p.1):q=p:=by
 have C:=bN.1 h p.1 (List.mem_map_of_mem D);have C:=cE C;have O:p∈l.filter λr=>Nat.beq r.1 p.1:=List.mem_filter.2 ⟨D,by simp⟩
 have T:q∈l.filter λr=>Nat.beq r.1 p.1:=List.mem_filter.2 ⟨E,by simp[I]⟩
 obtain⟨z,U⟩:=List.length_eq_one_iff.1 C
 grind
def Sl{P:Program}{N:Nat}{code:Code}(hi:ids (occs code)=true):∀ (l:aa (Nat×r5)),Sk P N code l -> ox P N (jz l) (occs code)
 |[],_=>λp D b h=>by cases h
 | (id,T) :: l,⟨⟨c,U,Y⟩,I⟩=>λp D b h=>by
  have C:List.lookup p.1 _=some b:=h;rw[List.lookup_cons]at C;split at C
  ·rename_i E;have E:p.1=id:=by simpa using E
   injection C with C;subst C;have:=Zx _ p (λq O e=>aj4 hi D O e) D;simp_all
  ·exact Sl hi l I p D b C
def qV{P:Program}{N:Nat}{l:aa (Nat×Code)}:ox P N (jz []) l:=λp C b h=>by cases h
def ci(P:Program)(fn:Func)(C:Nat)(l:aa (Nat×o8)):tO:=Zp P fn.ntmps (59000+C) (lI l) (bw fn) fn.results
def GJ{P:Program}{f:Nat}{fn:Func}(C:Nat)(l:aa (Nat×o8))(D:P.funcs[f]?=some fn)(hl:Br P l)(hb:fn.body=some (bw fn):=by kernel_rfl)(E:Nat.ble fn.ntmps 20000=true:=by kernel_rfl)(I:Nat.ble C 900=true:=by kernel_rfl)(O:(fn.name == "runtime.NumGoroutine")=false:=by kernel_rfl):enters P f/\qK P f (ci P fn C l):=
 ajX D hb rfl (cr E) O ⟨by omega,by have:=cr I;omega⟩ (tX l hl)
def cj(P:Program)(fn:Func)(C:Nat)(l:aa (Nat×o8)):tO:=Zu (ci P fn C l)
def Lg{P:Program}{f:Nat}{fn:Func}{C:Nat}{l:aa (Nat×o8)}(h:enters P f/\qK P f (ci P fn C l)):enters P f/\qK P f (cj P fn C l):=⟨h.1,aj3 h.2⟩
def Lh{P:Program}{f:Nat}{fn:Func}{ai:aa (Bool×TC)}{ro:aa (Bool×TC×Nat)}{F:ko ai->aj (iq ro)}(N:Nat)(l:aa (Nat×o8))(b:aa (Nat×r5))(C:P.funcs[f]?=some fn)(hl:Br P l)(D:ox P N (jz b) (occs (bw fn)))(E:∀x,pq P N (lI l) (jz b) (bw fn) fn.results (ga ai x) (lE ro)=F x)(hb:fn.body=some (bw fn):=by kernel_rfl)(I:fn.ntmps=N:=by kernel_rfl)(O:(fn.name == "runtime.NumGoroutine")=false:=by kernel_rfl)(T:Nat.ble ai.length N=true:=by kernel_rfl)(U:lH ro=true:=by kernel_rfl):enters P f/\iL P f (gS ai ro F):=ajL C hb I O T U (tX l hl) D E
def Bt{P:Program}{f:Nat}{fn:Func}{t:TC}{g:Nat}{F:aa (T t)->aj (aa (T t))}(N:Nat)(l:aa (Nat×o8))(b:aa (Nat×r5))(C:P.funcs[f]?=some fn)(hl:Br P l)(D:ox P N (jz b) (occs (bw fn)))(E:∀ x:aa (T t),pq P N (lI l) (jz b) (bw fn) fn.results [(false,[.sl t 0 false x])] (lE [(false,.sl t,g)])=F x)
  (I:pq P N (lI l) (jz b) (bw fn) fn.results [(false,[.nil])] (lE [(false,.sl t,g)])=some ([]:aa (T t)):=by kernel_rfl) (O:pq P N (lI l) (jz b) (bw fn) fn.results [(false,[.sl t 0 true []])] (lE [(false,.sl t,g)])=some ([]:aa (T t)):=by kernel_rfl)
  (hb:fn.body=some (bw fn):=by kernel_rfl) (U:fn.ntmps=N:=by kernel_rfl) (Y:(fn.name == "runtime.NumGoroutine")=false:=by kernel_rfl) (Z:Nat.ble 1 N=true:=by kernel_rfl) (eI:lH [(false,.sl t,g)]=true:=by kernel_rfl):enters P f/\iL P f (gS [(false,.sl t)] [(false,.sl t,g)] λx=>bif jt x.1 then some ([]:aa (T t))else F x.1):=ajM C hb U Y Z eI (tX l hl) D E I O
def Zy{P:Program}{id:Nat}{body:Code}{C:bC}{D:aa (Nat×bC)}{F:C.St->aj (C.St⊕tT D)}{fuel:C.St->Nat}(N:Nat)(l:aa (Nat×o8))(b:aa (Nat×r5))(hl:Br P l)(E:ox P N (jz b) (occs body))(I:∀x,Dt P N (lI l) (jz b) body C D x=F x):Bf P N (.block id (.loop body)) (K6 id C D F fuel):=ajH (tX l hl) E I
abbrev W6 (x:Int):Int:=IntKind.i64.wrap x
/-! Words for what printed functions say often. -/
def xI{α β:Type}(l:aa α)(i:Int)(k:α->aj β):aj β:=if h:0<=i/\i.toNat<l.length then (let e:=l[i.toNat]'h.2;k e)else none
def xC{α β:Type}(l:aa α)(i:Int)(k:aj β):aj β:=if h:0<=i/\i.toNat<l.length then k else none
def xM{α β:Type}(l:aa α)(i:Int)(k:α->aj β):aj β:=if h:i.toNat<l.length then (let e:=l[i.toNat]'h;k e)else none
def xL{α β:Type}(l:aa α)(i:Int)(k:α->aj β):aj β:=if h:0<=i/\i.toNat<l.length then (if h:i.toNat<l.length then (let e:=l[i.toNat]'h;k e)else none)else none
def xZ{α:Type}(l:aa α):Bool:=cv (([]:aa α).length+l.length)
def xA{α:Type}(l:aa α):aa α:=([]:aa α)++l
def bQ{S A C:Type}(L:S->aj (S⊕(A⊕Empty)))(s:S)(f:A->aj C):aj C:=(iter L br s).bind (Sum.elim f (λz=>nomatch z))
def cH{S A B C:Type}(L:S->aj (S⊕(A⊕(B⊕Empty))))(s:S)(f:A->aj C)(g:B->aj C):aj C:=(iter L br s).bind (Sum.elim f (Sum.elim g (λz=>nomatch z)))
def xG{S E:Type}(s:S):aj (S⊕E):=some (.inl s)
def aK{S A E:Type}(v:A):aj (S⊕(A⊕E)):=some (.inr (.inl v))
def bF{S A B E:Type}(v:B):aj (S⊕(A⊕(B⊕E))):=some (.inr (.inr (.inl v)))
abbrev tI:Tm:=.lf (.int .i64)
abbrev tB:Tm:=.lf (.bool)
structure KC (P:Program) where
 f:Nat
 c:o8
 ok:enters P f/\QB P f c
def KL{P:Program}(l:aa (KC P)):aa (Nat×o8):=l.map λk=>(k.f,k.c)
def tY{P:Program}:∀ l:aa (KC P),Br P (KL l)
 |[]=>trivial
 |k::l=>⟨k.ok,tY l⟩
structure BK (P:Program) (N:Nat) (code:Code) where
 id:Nat
 b:r5
 ok:Bf P N (.block id (.loop (xg code id))) b
section
variable {P:Program} {f N:Nat} {fn:Func} {code:Code}
def BL(l:aa (BK P N code)):aa (Nat×r5):=l.map λk=>(k.id,k.b)
def BC(l:aa (BK P N code)):aa (aj Code):=l.map λk=>(occs code).lookup k.id
def BD(l:aa (BK P N code)):aa (aj Code):=l.map λk=>some (.loop (xg code k.id))
def Zz:∀ l:aa (BK P N code),BC l=BD l -> Sk P N code (BL l)
 |[],_=>trivial
 | k :: l,h=>by
  unfold BC BD at h;injection h with C D;exact⟨⟨_,C,k.ok⟩,Zz l D⟩
def BT(l:aa (BK P N code))(C:BC l=BD l)(hi:ids (occs code)=true):ox P N (jz (BL l)) (occs code):=Sl hi _ (Zz l C)
def lB(id:Nat)(C:bC)(D:aa (Nat×bC))(F:C.St->aj (C.St⊕tT D)):r5:=K6 id C D F λ_=>br
def lp{body:Code}{id:Nat}{C:bC}{D:aa (Nat×bC)}{F:C.St->aj (C.St⊕tT D)}(l:aa (KC P))(E:∀x,Dt P N (lI (KL l)) (jz []) body C D x=F x:=by intro x;kernel_rfl):Bf P N (.block id (.loop body)) (lB id C D F):=Zy N (KL l) [] (tY l) qV E
def lq{id:Nat}{C:bC}{D:aa (Nat×bC)}{F:C.St->aj (C.St⊕tT D)}(l:aa (KC P))(b:aa (BK P N code))(E:BC b=BD b:=by kernel_rfl)(hi:ids (occs code)=true:=by kernel_rfl)(I:∀x,Dt P N (lI (KL l)) (jz (BL b)) code C D x=F x:=by intro x;kernel_rfl):Bf P N (.block id (.loop code)) (lB id C D F):=Zy N (KL l) (BL b) (tY l) (BT b E hi) I
def kp{ai:aa (Bool×TC)}{ro:aa (Bool×TC×Nat)}{F:ko ai->aj (iq ro)}(N:Nat)(l:aa (KC P))(C:P.funcs[f]?=some fn)(D:∀x,pq P N (lI (KL l)) (jz []) (bw fn) fn.results (ga ai x) (lE ro)=F x:=by intro x;kernel_rfl)(hb:fn.body=some (bw fn):=by kernel_rfl)(E:fn.ntmps=N:=by kernel_rfl)(I:(fn.name == "runtime.NumGoroutine")=false:=by kernel_rfl)(O:Nat.ble ai.length N=true:=by kernel_rfl)(T:lH ro=true:=by kernel_rfl):enters P f/\iL P f (gS ai ro F):=Lh N (KL l) [] C (tY l) qV D hb E I O T
def kq{ai:aa (Bool×TC)}{ro:aa (Bool×TC×Nat)}{F:ko ai->aj (iq ro)}(N:Nat)(l:aa (KC P))(b:aa (BK P N (bw fn)))(C:P.funcs[f]?=some fn)(D:BC b=BD b:=by kernel_rfl)(hi:ids (occs (bw fn))=true:=by kernel_rfl)(E:∀x,pq P N (lI (KL l)) (jz (BL b)) (bw fn) fn.results (ga ai x) (lE ro)=F x:=by intro x;kernel_rfl)(hb:fn.body=some (bw fn):=by kernel_rfl)(I:fn.ntmps=N:=by kernel_rfl)(O:(fn.name == "runtime.NumGoroutine")=false:=by kernel_rfl)(T:Nat.ble ai.length N=true:=by kernel_rfl)(U:lH ro=true:=by kernel_rfl):enters P f/\iL P f (gS ai ro F):=Lh N (KL l) (BL b) C (tY l) (BT b D hi) E hb I O T U
def km{ps:aa PK}{ro:aa (Bool×TC×Nat)}{F:kN ps->aj (iq ro×qG (dZ ps))}(N:Nat)(l:aa (KC P))(C:P.funcs[f]?=some fn)(D:∀x,Bn P N (lI (KL l)) (jz []) (bw fn) fn.results (mU ps x) (jM ps 0 x) (Dw (dZ ps) ro)=F x:=by intro x;kernel_rfl)(hb:fn.body=some (bw fn):=by kernel_rfl)(E:fn.ntmps=N:=by kernel_rfl)(I:(fn.name == "runtime.NumGoroutine")=false:=by kernel_rfl)(O:Nat.ble ps.length N=true:=by kernel_rfl)(T:Nat.ble N 20000=true:=by kernel_rfl)(U:lH ro=true:=by kernel_rfl):enters P f/\uV P f ⟨ps,ro,F⟩:=Lb C hb E I O T U (tX _ (tY l)) qV D
def kn{ps:aa PK}{ro:aa (Bool×TC×Nat)}{F:kN ps->aj (iq ro×qG (dZ ps))}(N:Nat)(l:aa (KC P))(b:aa (BK P N (bw fn)))(C:P.funcs[f]?=some fn)(D:BC b=BD b:=by kernel_rfl)(hi:ids (occs (bw fn))=true:=by kernel_rfl)(E:∀x,Bn P N (lI (KL l)) (jz (BL b)) (bw fn) fn.results (mU ps x) (jM ps 0 x) (Dw (dZ ps) ro)=F x:=by intro x;kernel_rfl)(hb:fn.body=some (bw fn):=by kernel_rfl)(I:fn.ntmps=N:=by kernel_rfl)(O:(fn.name == "runtime.NumGoroutine")=false:=by kernel_rfl)(T:Nat.ble ps.length N=true:=by kernel_rfl)(U:Nat.ble N 20000=true:=by kernel_rfl)(Y:lH ro=true:=by kernel_rfl):enters P f/\uV P f ⟨ps,ro,F⟩:=Lb C hb I O T U Y (tX _ (tY l)) (BT b D hi) E
def bM(ai:aa (Bool×TC))(ro:aa (Bool×TC×Nat))(F:ko ai->aj (iq ro))(N:Nat)(l:aa (KC P))(C:P.funcs[f]?=some fn)(D:∀x,pq P N (lI (KL l)) (jz []) (bw fn) fn.results (ga ai x) (lE ro)=F x:=by intro x;kernel_rfl)(hb:fn.body=some (bw fn):=by kernel_rfl)(E:fn.ntmps=N:=by kernel_rfl)(I:(fn.name == "runtime.NumGoroutine")=false:=by kernel_rfl)(O:Nat.ble ai.length N=true:=by kernel_rfl)(T:lH ro=true:=by kernel_rfl):KC P:=⟨f,.p (gS ai ro F),Lh N (KL l) [] C (tY l) qV D hb E I O T⟩
def cY(ai:aa (Bool×TC))(ro:aa (Bool×TC×Nat))(F:ko ai->aj (iq ro))(N:Nat)(l:aa (KC P))(b:aa (BK P N (bw fn)))(C:P.funcs[f]?=some fn)(D:BC b=BD b:=by kernel_rfl)(hi:ids (occs (bw fn))=true:=by kernel_rfl)(E:∀x,pq P N (lI (KL l)) (jz (BL b)) (bw fn) fn.results (ga ai x) (lE ro)=F x:=by intro x;kernel_rfl)(hb:fn.body=some (bw fn):=by kernel_rfl)(I:fn.ntmps=N:=by kernel_rfl)(O:(fn.name == "runtime.NumGoroutine")=false:=by kernel_rfl)(T:Nat.ble ai.length N=true:=by kernel_rfl)(U:lH ro=true:=by kernel_rfl):KC P:=⟨f,.p (gS ai ro F),Lh N (KL l) (BL b) C (tY l) (BT b D hi) E hb I O T U⟩
def mZ(ps:aa PK)(ro:aa (Bool×TC×Nat))(F:kN ps->aj (iq ro×qG (dZ ps)))(N:Nat)(l:aa (KC P))(C:P.funcs[f]?=some fn)(D:∀x,Bn P N (lI (KL l)) (jz []) (bw fn) fn.results (mU ps x) (jM ps 0 x) (Dw (dZ ps) ro)=F x:=by intro x;kernel_rfl)(hb:fn.body=some (bw fn):=by kernel_rfl)(E:fn.ntmps=N:=by kernel_rfl)(I:(fn.name == "runtime.NumGoroutine")=false:=by kernel_rfl)(O:Nat.ble ps.length N=true:=by kernel_rfl)(T:Nat.ble N 20000=true:=by kernel_rfl)(U:lH ro=true:=by kernel_rfl):KC P:=⟨f,.m ⟨ps,ro,F⟩,Lb C hb E I O T U (tX _ (tY l)) qV D⟩
def DA(ps:aa PK)(ro:aa (Bool×TC×Nat))(F:kN ps->aj (iq ro×qG (dZ ps)))(N:Nat)(l:aa (KC P))(b:aa (BK P N (bw fn)))(C:P.funcs[f]?=some fn)(D:BC b=BD b:=by kernel_rfl)(hi:ids (occs (bw fn))=true:=by kernel_rfl)(E:∀x,Bn P N (lI (KL l)) (jz (BL b)) (bw fn) fn.results (mU ps x) (jM ps 0 x) (Dw (dZ ps) ro)=F x:=by intro x;kernel_rfl)(hb:fn.body=some (bw fn):=by kernel_rfl)(I:fn.ntmps=N:=by kernel_rfl)(O:(fn.name == "runtime.NumGoroutine")=false:=by kernel_rfl)(T:Nat.ble ps.length N=true:=by kernel_rfl)(U:Nat.ble N 20000=true:=by kernel_rfl)(Y:lH ro=true:=by kernel_rfl):KC P:=⟨f,.m ⟨ps,ro,F⟩,Lb C hb I O T U Y (tX _ (tY l)) (BT b D hi) E⟩
def ZA{A R:Type}(F:R)(_:A):R:=F
def cw{A Z R:Type}(F:A->R)(x:A×Z):R:=F x.1
def cV{A B Z R:Type}(F:A->B->R)(x:A×B×Z):R:=F x.1 x.2.1
def gT{A B C Z R:Type}(F:A->B->C->R)(x:A×B×C×Z):R:=F x.1 x.2.1 x.2.2.1
def xj{A B C D Z R:Type}(F:A->B->C->D->R)(x:A×B×C×D×Z):R:=F x.1 x.2.1 x.2.2.1 x.2.2.2.1
def Li{A B C D E Z R:Type}(F:A->B->C->D->E->R)(x:A×B×C×D×E×Z):R:=F x.1 x.2.1 x.2.2.1 x.2.2.2.1 x.2.2.2.2.1
end
end Go.Proofs.YtgjfmljpdnnihaaGreat
