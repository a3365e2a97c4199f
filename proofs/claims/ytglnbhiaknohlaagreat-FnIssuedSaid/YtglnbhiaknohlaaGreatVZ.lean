/-
  Running the program over pure contents, and that it follows (part Z). Nothing here is a claim.
-/
import Derived.Test.YtglnbhiaknohlaaGreatV4
set_option linter.unusedSimpArgs false
namespace Go.Proofs.YtglnbhiaknohlaaGreat
set_option linter.defProp false
open Go.RowKit
set_option linter.unusedVariables false
section
variable {P:Program} {w w':World} {w0:Wd} {B N:Nat} {aj aD:bI} {ρ ρ':Nat->Loc} {σ:S} {a:Act} {X:Type} {d:Nat} {r:X} {o:Oper} {Φ:ez} {Λ:mM}
def aqq{E:ah Tmp}{g:Bool}{k:S -> ah X}(h:r5 σ E g k=some r):∃ C,k C=some r /\ ∀ a w,R w0 N σ a w -> R w0 N C a w:=by
 unfold r5 at h;cases g with
 |false=>grind
 | true=>
  rw[aq]at h;split at h
  ·rename_i d;split at h
   ·rename_i b hb;have key:∀ c:Bool,b=c -> ∀ a w,R w0 N σ a w -> R w0 N (σ.set d (.lf (.v (.bool c)))) a w:=by
     rintro c rfl a w ⟨aj,ρ,hR⟩
     refine⟨aj,ρ,hR.below,hR.cV,hR.root,λk=>?_,hR.size,hR.defers,hR.fix,hR.dm⟩
     show RA w w0.heap.size aj ρ (bW σ.t d (.lf (.v (.bool b))) k) _;by_cases D:k=d
     ·subst D;rw[bZ,<- hb];exact hR.tmp k
     ·rw[cH _ _ _ D];exact hR.tmp k
    grind
   ·grind
  ·grind
def NG(T:fL P Φ)(ops:Array Oper):∀ (rest:aa Oper) (j:Nat) (σ:S) (k:S -> ah X),Bu P N Φ ops j rest σ k=some r -> ∃ Z,k Z=some r /\ ∀ a w,R w0 N σ a w -> ∀ Q,(∀ E w',R w0 N Z E w' -> Q Exit.normal E w') -> wpList P ops Q rest a w
 |[],j,σ,k,h=>⟨σ,h,λa w hR Q D=>D a w hR⟩
 | o :: rest,j,σ,k,h=>by
  unfold Bu at h;split at h
  ·rename_i U;obtain⟨pN,h1,zF⟩:=apk T h;obtain⟨σ2,h2,uF⟩:=aqq h1;obtain⟨I,L,O⟩:=NG T ops rest (j+1) σ2 k h2
   refine⟨I,L,λa w hR Q D=>?_⟩
   obtain⟨aj,ρ,C⟩:=hR;simp only[wpList,D0 U C,if_true];exact .inl (zF a w _ Q ⟨aj,ρ,C⟩ λE w' r4=>O E w' (uF E w' r4) Q D)
  ·rename_i U;unfold ir at h;split at h
   ·rename_i Y;obtain⟨I,L,O⟩:=NG T ops rest _ σ k h
    refine⟨I,L,λa w hR Q D=>?_⟩
    obtain⟨aj,ρ,C⟩:=hR;simp[wpList,D0 U C,Y];exact O a w ⟨aj,ρ,C⟩ Q D
   ·rename_i d Y;cases hN:Nat.blt d N with
    |false=>simp_all
    | true=>
     rw[hN,aq]at h;obtain⟨I,L,O⟩:=NG T ops rest (j+1) _ k h
     refine⟨I,L,λa w hR Q D=>?_⟩
     obtain⟨aj,ρ,C⟩:=hR;simp only[wpList,D0 U C,Y];exact O _ w ⟨aj,ρ,C.set rfl (by have:=cK hN;omega)⟩ Q D
  ·cases h
def D1(dS:fL P Φ):∀ (c:Code) (σ:S) (k:Exit->S->ah X),lI P N Φ Λ c σ k=some r->oU P N Λ (occs c)->AW P w0 N c σ λe D=>k e D=some r:=by
 intro c
 induction c with
 |skip=>exact λσ k h _ a w hR=>wp_skip ⟨σ,h,hR⟩
 |label l=>exact λσ k h _ a w hR=>wp_label ⟨σ,h,hR⟩
 |ret=>exact λσ k h _ a w hR=>wp_ret ⟨σ,h,hR⟩
 |exit id=>exact λσ k h _ a w hR=>wp_exit ⟨σ,h,hR⟩
 | region id ops draw=>
  intro σ k h _ a w hR;cases draw with
  | true=>
   simp only[lI]at h;cases hm:P.follows .mixedOrders with
   |false=>rw[hm]at h;cases h
   | true=>
    rw[hm,aq]at h
    haveI:Inhabited Wd:=⟨w0⟩
    exact aqp dS hm h (λτ jh a w hR=>⟨τ,jh,hR⟩) hR
  | false=>
   simp only[lI]at h;obtain⟨D,h',hw⟩:=NG (w0:=w0) dS ops _ _ _ _ h;exact wp_region_list (hw a w hR _ λO w' C=>⟨D,h',C⟩)
 | seq x y T U=>
  intro σ k h I a w hR;simp only[lI]at h;have Y:=T σ _ h (λp E=>I p (List.mem_append_left _ E))
  refine wp_seq (wp_mono (Y a w hR) λe O w' Z=>?_)
  obtain⟨D,L,C⟩:=Z;cases e with
  |normal=>exact U D k L (λp E=>I p (List.mem_append_right _ E)) O w' C
  |_=>exact⟨D,L,C⟩
 | cond c x y T U=>
  intro σ k h I a w hR;simp only[lI]at h;split at h
  ·rename_i b hb;obtain⟨aj,ρ,C⟩:=hR;have hc:=C.aK c;rw[hb]at hc;have hcv:=hc.2.yJ;cases b with
   |true=>exact wp_cond_true hcv (T σ k h (λp E=>I p (List.mem_append_left _ E)) a w ⟨aj,ρ,C⟩)
   |false=>exact wp_cond_false hcv (U σ k h (λp E=>I p (List.mem_append_right _ E)) a w ⟨aj,ρ,C⟩)
  ·cases h
 | block id c ih=>
  intro σ k h I a w hR;simp only[lI]at h;split at h
  next b hb=>exact I (id,c) (.head _) b hb X σ k r w0 h a w hR
  ·have Y:=ih σ _ h (λp E=>I p (.tail _ E))
   refine wp_block (wp_mono (Y a w hR) λe O w' Z=>?_)
   obtain⟨D,L,C⟩:=Z;cases e with
   | exit id'=>
    simp only[Exit.inBlock];by_cases hid:id'=id
    ·simp only[hid,if_true]at L ⊢;exact⟨D,L,C⟩
    ·simp only[hid,if_false]at L ⊢;exact⟨D,L,C⟩
   |_=>exact⟨D,L,C⟩
 |_=>exact λσ k h=>by simp[lI]at h
end
/-! What a loop carries. -/
inductive Lm where
 |int (k:IntKind)
 |bool
 |str
 |own (r:Nat)
 |aI (t:TC) (o:Nat)
def Lm.T:Lm->Type
 |.int _=>Int
 |.bool=>Bool
 |.str=>ByteArray
 |.own _=>af
 |.aI t _=>aa (Proofs.YtglnbhiaknohlaaGreat.T t)
def Lm.mk:(m:Lm)->m.T->Lf
 |.int k,n=>.v (.int k n)
 |.bool,b=>.v (.bool b)
 |.str,s=>.v (.str s)
 |.own r,_=>.own [r]
 |.aI t o,l=>.v (.sl t o false l)
def Lm.rd:(m:Lm)->Lf->ah m.T
 |.int k,.v (.int C n)=>if C=k then some n else none
 |.bool,.v (.bool b)=>some b
 |.str,.v (.str s)=>some s
 |.own r,.own [D]=>bif Nat.beq D r then some ()else none
 |.aI t o,.v x=>bif Nat.blt o 2 then x.fl t o else none
 |_,_=>none
inductive Tm where
 |lf (m:Lm)
 |aO (r j:Nat)
 |fp (t:TC) (o:Nat)
 |fc (f:Nat) (t:TC)
 |ag (t:TC)
 |pk (r n:Nat)
def Tm.T:Tm->Type
 |.lf m=>m.T
 |.aO _ _=>af
 |.fp t _=>Proofs.YtglnbhiaknohlaaGreat.T t
 |.fc _ t=>Proofs.YtglnbhiaknohlaaGreat.T t
 |.ag t=>Proofs.YtglnbhiaknohlaaGreat.T t
 |.pk _ _=>af
def Tm.mk:(m:Tm)->m.T->A
 |.lf m,x=>.lf (m.mk x)
 |.aO r j,_=>.aO r j
 |.fp t o,x=>.jo (enc t o x)
 |.fc f t,x=>.ng f (enc t 0 x)
 |.ag t,x=>.agg ((enc t 0 x).map .v)
 |.pk r n,_=>.pk r n
def Tm.rd:(m:Tm)->A->ah m.T
 |.lf m,.lf x=>m.rd x
 |.aO r j,.aO C D=>bif Nat.beq C r&&Nat.beq D j then some ()else none
 |.fp t o,.jo cs=>bif Nat.blt o 2 then dec t o cs else none
 |.fc f t,.ng E cs=>bif Nat.beq E f then dec t 0 cs else none
 | .ag t,.agg cs=>(match uK cs with
  |some I=>dec t 0 I
  |none=>none)
 |.pk r n,.pk C L=>bif Nat.beq C r&&Nat.beq L n then some ()else none
 |_,_=>none
def HG:aa Lm->Type
 |[]=>af
 |m::C=>m.T×HG C
def w5:(C:aa Lm)->HG C->aa Lf
 |[],_=>[]
 |m::C,x=>m.mk x.1::w5 C x.2
def NH:(C:aa Lm)->aa Lf->ah (HG C)
 |[],[]=>some ()
 | m :: C,x :: xs=>match m.rd x,NH C xs with
  |some y,some ys=>some (y,ys)
  |_,_=>none
 |_,_=>none
inductive Rm where
 |sl (t:TC) (o:Nat)
 |st (t:TC)
 |aC (ms:List Lm)
 |mp
def Rm.T:Rm->Type
 |.sl t _=>aa (Proofs.YtglnbhiaknohlaaGreat.T t)
 |.st t=>Proofs.YtglnbhiaknohlaaGreat.T t
 |.aC C=>HG C
 |.mp=>aa (Int×Bool)
def Rm.mk:(m:Rm)->m.T->aV
 |.sl t o,l=>.sl (.sl t o false l)
 |.st t,x=>.aC ((enc t 0 x).map .v)
 |.aC C,x=>.aC (w5 C x)
 |.mp,l=>.mp l
def Rm.rd:(m:Rm)->aV->ah m.T
 |.sl t o,.sl y=>y.fl t o
 | .st t,.aC cs=>(match uK cs with
  |some C=>dec t 0 C
  |none=>none)
 |.aC D,.aC cs=>NH D cs
 |.mp,.mp l=>some l
 |_,_=>none
def D2:aa (Nat×Tm)->Type
 |[]=>af
 |(_,m)::C=>m.T×D2 C
def w6:(C:aa (Nat×Tm))->D2 C->Nat->A
 |[],_,_=>.undef
 |(n,m)::C,x,k=>bif Nat.beq k n then m.mk x.1 else w6 C x.2 k
def HH:(C:aa (Nat×Tm))->(Nat->A)->ah (D2 C)
 |[],_=>some ()
 | (n,m) :: C,t=>match m.rd (t n),HH C t with
  |some x,some xs=>some (x,xs)
  |_,_=>none
def w7:aa (Nat×Rm)->Type
 |[]=>af
 |(_,m)::C=>m.T×w7 C
def w8:(C:aa (Nat×Rm))->w7 C->Nat->ah aV
 |[],_,_=>none
 |(n,m)::C,x,k=>bif Nat.beq k n then some (m.mk x.1)else w8 C x.2 k
def D3:(C:aa (Nat×Rm))->(Nat->ah aV)->ah (w7 C)
 |[],_=>some ()
 | (n,m) :: C,t=>match (t n).bind m.rd,D3 C t with
  |some x,some xs=>some (x,xs)
  |_,_=>none
structure jF where
 ts:List (Nat×Tm)
 rs:List (Nat×Rm)
def jF.St(C:jF):Type:=D2 C.ts×w7 C.rs
def jF.mk'(C:jF)(x:C.St):S:=⟨w6 C.ts x.1,w8 C.rs x.2⟩
def jF.NI(C:jF)(σ:S):ah C.St:=match HH C.ts σ.t,D3 C.rs σ.m with
 |some x,some y=>some (x,y)
 |_,_=>none
/-! Roots by other names. -/
abbrev Rn:=aa (Nat×Nat)
def Rn.inv(rs:Rn)(n:Nat):ah Nat:=(rs.find? λp=>Nat.beq p.2 n).map (·.1)
def Rn.add(rs:Rn)(r n:Nat):Rn:=bif rs.any (λp=>Nat.beq p.1 r&&Nat.beq p.2 n)then rs else (r,n)::rs
def Vu(n:Nat):ah Nat->Bool
 |some m=>Nat.beq m n
 |none=>false
def Rn.ok(rs:Rn):Bool:=rs.all λp=>(Nat.beq p.1 p.2 ||Nat.ble 60000 p.2)&&Vu p.2 (rs.lookup p.1)&&Vu p.1 (rs.inv p.2)
def Lf.ep(rs:Rn):Lf->Lf
 |.v x=>.v x
 | .own [r]=>(match rs.lookup r with
  |some n=>.own [n]
  |none=>.dead)
 |_=>.dead
def A.ep(rs:Rn):A->A
 |.lf x=>.lf (x.ep rs)
 | .aO r j=>(match rs.lookup r with
  |some n=>.aO n j
  |none=>.undef)
 |.jo cs=>.jo cs
 |.ng f cs=>.ng f cs
 |.agg cs=>.agg (cs.map (Lf.ep rs))
 |_=>.undef
def aV.ep(rs:Rn):aV->aV
 |.aC cs=>.aC (cs.map (Lf.ep rs))
 |.sl y=>.sl y
 |.mp l=>.mp l
 |.gh _=>.gh []
def S.ep(rs:Rn)(σ:S):S:=⟨λk=>(σ.t k).ep rs,λn=>match rs.inv n with
 |some r=>(σ.m r).map (aV.ep rs)
 |none=>none⟩
def rnL:Lm->Lf->Rn->Rn
 |.own n,.own [r],rs=>rs.add r n
 |_,_,rs=>rs
def Vv:aa Lm->aa Lf->Rn->Rn
 |m::C,x::xs,rs=>Vv C xs (rnL m x rs)
 |_,_,rs=>rs
def rnT:Tm->A->Rn->Rn
 |.lf m,.lf x,rs=>rnL m x rs
 |.aO n j,.aO r C,rs=>rs.add r n
 |_,_,rs=>rs
def acD(t:Nat->A):aa (Nat×Tm)->Rn->Rn
 |[],rs=>rs
 |(k,m)::C,rs=>acD t C (rnT m (t k) rs)
def acE(m:Nat->ah aV):aa (Nat×Rm)->Rn->Rn
 |[],rs=>rs
 | (n,x) :: xs,rs=>acE m xs (match x,rs.inv n with
  | .aC C,some r=>(match m r with
   |some (.aC cs)=>Vv C cs rs
   |_=>rs)
  | .aC C,none=>(match m n with
   |some (.aC cs)=>Vv C cs (rs.add n n)
   |_=>rs)
  |_,some _=>rs
  |_,none=>rs.add n n)
def jF.rn(C:jF)(σ:S):Rn:=acE σ.m C.rs (acD σ.t C.ts [])
def Vw(rs:aa (Nat×Rm))(p:Nat×Tm)(σ:S):S:=match p.2,σ.t p.1 with
 | .lf (.own n),.lf (.v .nil)=>(match rs.lookup n with
  |some (.sl t o)=>bif Nat.ble 60000 n then ⟨bW ((σ.drop n).root n (.sl (.sl t o false []))).t p.1 (.lf (.own [n])),((σ.drop n).root n (.sl (.sl t o false []))).m⟩else σ
  |_=>σ)
 |_,_=>σ
def NJ(rs:aa (Nat×Rm)):aa (Nat×Tm)->S->S
 |[],σ=>σ
 |p::ps,σ=>NJ rs ps (Vw rs p σ)
def Vx(n j r:Nat)(σ:S):S:=match σ.m r with
 | some (.aC cs)=>(match cs[j]? with
  |some (.v .nil)=>⟨σ.t,bW σ.m r (some (.aC (cs.set j (.own [n]))))⟩
  |_=>σ)
 |_=>σ
def Vy(rs:aa (Nat×Rm))(n j r:Nat)(σ:S):S:=match rs.lookup n with
 |some (.sl t o)=>bif Nat.ble 60000 n then Vx n j r ((σ.drop n).root n (.sl (.sl t o false [])))else σ
 |_=>σ
def BH(rs:aa (Nat×Rm))(r:Nat):Nat->aa Lm->aa Lf->S->S
 |j,.own n::C,.v .nil::cs,σ=>BH rs r (j+1) C cs (Vy rs n j r σ)
 |j,_::C,_::cs,σ=>BH rs r (j+1) C cs σ
 |_,_,_,σ=>σ
def NK(rs:aa (Nat×Rm)):aa (Nat×Rm)->S->S
 |[],σ=>σ
 | (r,.aC C) :: ps,σ=>NK rs ps (match σ.m r with
  |some (.aC cs)=>BH rs r 0 C cs σ
  |_=>σ)
 |_::ps,σ=>NK rs ps σ
def jF.rd1(C:jF)(σ:S):ah C.St:=bif (C.rn σ).ok then C.NI (NK C.rs C.rs (σ.ep (C.rn σ)))else none
def jF.rd(C:jF)(σ:S):ah C.St:=match C.NI σ with
 |some x=>some x
 |none=>C.rd1 (NJ C.rs C.ts σ)
section
variable {P:Program} {w w':World} {w0:Wd} {B N:Nat} {aj aD:bI} {ρ ρ':Nat->Loc} {σ:S} {a:Act} {X:Type} {d:Nat} {r:X} {o:Oper} {Φ:ez} {Λ:mM}
def Lm.pT{m:Lm}{x:Lf}{y:m.T}(h:m.rd x=some y){u:Value}(C:dR w B aj ρ x u):dR w B aj ρ (m.mk y) u:=by
 unfold Lm.rd at h;split at h
 ·split at h
  next D=>subst D;injection h with h;subst h;exact C
  ·cases h
 ·injection h with h;subst h;exact C
 ·injection h with h;subst h;exact C
 ·rename_i E I;cases hb:Nat.beq I E with
  |false=>simp_all
  |true=>obtain rfl:=cB hb;exact C
 ·rename_i t o x;cases hb:Nat.blt o 2 with
  |false=>rw[hb]at h;cases h
  | true=>
   rw[hb]at h;have:=cK hb;exact⟨by simp[V.aI];omega,C.2.wk (V.F3 h)⟩
 ·cases h
def Tm.pT{m:Tm}{x:A}{y:m.T}(h:m.rd x=some y){u:Value}(I:RA w B aj ρ x u):RA w B aj ρ (m.mk y) u:=by
 cases m with
 | lf m=>
  cases x with
  |lf x=>exact Lm.pT h I
  |_=>cases h
 | aO r j=>
  cases x with
  | aO O j'=>
   have h:(bif Nat.beq O r&&Nat.beq j' j then some ()else none)=some y:=h;cases hb:(Nat.beq O r&&Nat.beq j' j)with
   |false=>simp_all
   | true=>
    rw[aQ]at hb;obtain rfl:=cB hb.1;obtain rfl:=cB hb.2;exact I
  |_=>cases h
 | fp t o=>
  cases x with
  | jo cs=>
   have h:(bif Nat.blt o 2 then dec t o cs else none)=some y:=h;cases hb:Nat.blt o 2 with
   |false=>simp_all
   | true=>
    rw[hb,aq]at h;have ho:=cK hb;have D:=lW t o cs y h;obtain⟨b,off,U,Y,Z,h4⟩:=I
    refine⟨b,off,U,Y,Z,λj z C=>?_⟩
    have hj:j<cs.length:=by rw[D.1];exact(dQ.1 C).1
    have E:=bS hj;obtain⟨g1,v,g2,g3⟩:=h4 j _ E;exact⟨pE t o y (by omega) j z C,v,g2,g3.wk (D.2 j _ z E C)⟩
  |_=>cases h
 | fc f t=>
  cases x with
  | ng f' cs=>
   have h:(bif Nat.beq f' f then dec t 0 cs else none)=some y:=h;cases hb:Nat.beq f' f with
   |false=>simp_all
   | true=>
    rw[hb,aq]at h;obtain rfl:=cB hb;have D:=lW t 0 cs y h;obtain⟨pv,e0,b,off,U,Y,Z,h4⟩:=I
    refine⟨pv,e0,b,off,U,Y,Z,λj z C=>?_⟩
    have hj:j<cs.length:=by rw[D.1];exact(dQ.1 C).1
    have E:=bS hj;obtain⟨g1,v,g2,g3⟩:=h4 j _ E;exact⟨pE t 0 y (by omega) j z C,v,g2,g3.wk (D.2 j _ z E C)⟩
  |_=>cases h
 | ag t=>
  cases x with
  | agg cs=>
   have h:(match uK cs with|some L=>dec t 0 L|none=>none)=some y:=h;cases l6:uK cs with
   |none=>simp_all
   | some L=>
    rw[l6]at h;have h:dec t 0 L=some y:=h;have jB:=MB _ _ l6;have D:=lW t 0 L y h;obtain⟨us,U,Y,Z⟩:=I
    refine⟨us,U,?_,λj x hx=>?_⟩
    ·rw[Y,jB,eM,eM,D.1]
    ·rw[eJ]at hx;cases C:(enc t 0 y)[j]? with
     |none=>simp_all
     | some z=>
      rw[C]at hx;injection hx with hx;subst hx;have hj:j<L.length:=by rw[D.1];exact(dQ.1 C).1
      have E:=bS hj;obtain⟨v,g1,g2⟩:=Z j (.v L[j]) (by rw[jB,eJ,E];rfl);exact⟨v,g1,pE t 0 y (by omega) j z C,g2.2.wk (D.2 j _ z E C)⟩
  |_=>cases h
 | pk r n=>
  cases x with
  | pk O n'=>
   have h:(bif Nat.beq O r&&Nat.beq n' n then some ()else none)=some y:=h;cases hb:(Nat.beq O r&&Nat.beq n' n)with
   |false=>simp_all
   | true=>
    rw[aQ]at hb;obtain rfl:=cB hb.1;obtain rfl:=cB hb.2;exact I
  |_=>cases h
def acF:∀ (C:aa Lm) (cs:aa Lf) (y:HG C),NH C cs=some y -> (w5 C y).length=cs.length /\ ∀ (j:Nat) x,(w5 C y)[j]?=some x -> ∃ z,cs[j]?=some z/\(∀ (w:World) (B:Nat) (aj:bI) (ρ:Nat -> Loc) (u:Value),dR w B aj ρ z u -> dR w B aj ρ x u)
 |[],[],y,h=>⟨rfl,λj x D=>by simp[w5]at D⟩
 | m :: C,c :: cs,y,h=>by
  unfold NH at h;split at h
  ·rename_i U ys E I;injection h with h;subst h;obtain⟨L,O⟩:=acF C cs ys I
   refine⟨by simp[w5,L],λj x D=>?_⟩
   cases j with
   |zero=>simp[w5]at D;subst D;exact⟨c,rfl,λw B aj ρ u T=>Lm.pT E T⟩
   |succ j=>exact O j x (by simpa [w5]using D)
  ·cases h
def Rm.pT{m:Rm}{x:aV}{y:m.T}(h:m.rd x=some y){n:Nat}(C:ei w B aj ρ n x):ei w B aj ρ n (m.mk y):=by
 cases m with
 | sl t o=>
  cases C with
  |sl v y' D hr=>exact .sl v _ D (hr.wk (V.F3 h))
  |aC=>cases h
  |mp=>cases h
  |gh=>cases h
 | mp=>
  cases C with
  |gh=>cases h
  |sl=>cases h
  |aC=>cases h
  |mp b c es l D hl I he=>injection h with h;subst h;exact .mp b c es _ D hl I he
 | st t=>
  cases C with
  |sl=>cases h
  |mp=>cases h
  |gh=>cases h
  | aC b off cells e cs us D hl I L Y=>
   have h:(match uK cs with|some E=>dec t 0 E|none=>none)=some y:=h;cases Z:uK cs with
   |none=>simp_all
   | some E=>
    rw[Z]at h;have h:dec t 0 E=some y:=h;have jB:=MB _ _ Z;have U:=lW t 0 E y h
    refine .aC b off cells e _ us D hl I (by rw[eM,<- U.1];rw[jB,eM]at L;exact L) λj x C=>?_
    rw[eJ]at C;cases O:(enc t 0 y)[j]? with
    |none=>simp_all
    | some z=>
     rw[O]at C;injection C with C;subst C;have hj:j<E.length:=by rw[U.1];exact(dQ.1 O).1
     have hv:=bS hj;obtain⟨h1,h2⟩:=Y j (.v E[j]) (by rw[jB,eJ,hv];rfl);exact⟨h1,pE t 0 y (by omega) j z O,h2.2.wk (U.2 j _ z hv O)⟩
 | aC ms=>
  cases C with
  |sl=>cases h
  |mp=>cases h
  |gh=>cases h
  | aC b off cells e cs us D hl I L Y=>
   obtain⟨k1,k2⟩:=acF ms cs y h
   refine .aC b off cells e _ us D hl I (by show off+(w5 ms y).length <= _;rw[k1];exact L) λj x C=>?_
   grind
def Vz:∀ (C:aa (Nat×Tm)) (t:Nat -> A) (y:D2 C),HH C t=some y -> ∀ k,w6 C y k = .undef \/ ∃ m z,(Tm.rd m (t k)=some z/\w6 C y k=m.mk z)
 |[],t,y,h,k=>.inl rfl
 | (n,m) :: C,t,y,h,k=>by
  unfold HH at h;split at h
  ·rename_i x xs D E;injection h with h;subst h;by_cases I:k=n
   ·subst I;exact .inr ⟨m,x,D,by simp[w6]⟩
   ·have hb:Nat.beq k n=false:=by
     cases hb:Nat.beq k n with
     |false=>rfl
     |true=>simp_all
    simp only[w6,hb,au];exact Vz C t xs E k
  ·cases h
def VA:∀ (C:aa (Nat×Rm)) (t:Nat -> ah aV) (y:w7 C),D3 C t=some y -> ∀ k,w8 C y k=none \/ ∃ m x z,t k=some x/\Rm.rd m x=some z/\w8 C y k=some (m.mk z)
 |[],t,y,h,k=>.inl rfl
 | (n,m) :: C,t,y,h,k=>by
  unfold D3 at h;split at h
  ·rename_i x xs D E;injection h with h;subst h;by_cases I:k=n
   ·subst I;cases L:t k with
    |none=>simp_all
    |some z=>rw[L]at D;exact .inr ⟨m,z,x,rfl,D,by simp[w8]⟩
   ·have hb:Nat.beq k n=false:=by
     cases hb:Nat.beq k n with
     |false=>rfl
     |true=>simp_all
    simp only[w8,hb,au];exact VA C t xs E k
  ·cases h
def jF.acG{C:jF}{x:C.St}(h:C.NI σ=some x)(hR:R w0 N σ a w):R w0 N (C.mk' x) a w:=by
 unfold jF.NI at h;split at h
 ·rename_i u v L O;injection h with h;subst h;obtain⟨aj,ρ,hR⟩:=hR
  refine⟨aj,ρ,hR.below,hR.cV,λn y D=>?_,λk=>?_,hR.size,hR.defers,hR.fix,hR.dm⟩
  ·have D:w8 C.rs v n=some y:=D;rcases VA C.rs σ.m v O n with e | ⟨m,x,z,E,I,T⟩
   ·simp_all
   ·rw[T]at D;injection D with D;subst D;exact Rm.pT I (hR.root n x E)
  ·show RA _ _ _ _ (w6 C.ts u k) _;rcases Vz C.ts σ.t u L k with e | ⟨m,z,E,I⟩
   ·rw[e];trivial
   ·rw[I];exact Tm.pT E (hR.tmp k)
 ·cases h
def acH{n:Nat}{o:ah Nat}(h:Vu n o=true):o=some n:=by
 cases o with
 |none=>cases h
 |some m=>rw[cB h]
def acI{rs:Rn}{r n:Nat}(h:rs.lookup r=some n):(r,n)∈rs:=by
 induction rs with
 |nil=>cases h
 |cons p rs C =>grind
def acJ{rs:Rn}{r n:Nat}(h:rs.inv n=some r):(r,n)∈rs:=by
 unfold Rn.inv at h;cases C:rs.find? _ with
 |none=>rw[C]at h;cases h
 | some p=>
  rw[C]at h;injection h with h;subst h;have D:=List.find?_some C;have E:=List.mem_of_find?_eq_some C;rw[<- cB D];exact E
def Rn.eY(rs:Rn)(ρ:Nat->Loc):Nat->Loc:=λn=>match rs.inv n with
 |some r=>ρ r
 |none=>ρ n
def Rn.NL{rs:Rn}(h:rs.ok=true){r n:Nat}(C:(r,n)∈rs):(r=n \/ 60000 <= n)/\rs.lookup r=some n/\rs.inv n=some r:=by
 have:=cv.1 h _ C;rw[aQ,aQ,eA]at this;refine⟨?_,acH this.1.2,acH this.2⟩;simp_all
def dR.ep{rs:Rn}(C:rs.ok=true){x:Lf}{u:Value}(h:dR w B aj ρ x u):dR w B (eF aj rs id) (rs.eY ρ) (x.ep rs) u:=by
 unfold Lf.ep;split
 ·exact⟨h.1,h.2.Me h.1 λb=>zd⟩
 ·rename_i r;split
  next n D=>have hi:=(Rn.NL C (acI D)).2.2;refine⟨h.1,?_⟩;have E:=h.2;simp[cU]at E ⊢;unfold Rn.eY;simp_all
  ·trivial
 ·trivial
def Rl.ep{rs:Rn}(L:rs.ok=true)(h:Rl w0 N aj ρ σ a w):Rl w0 N (eF aj rs id) (rs.eY ρ) (σ.ep rs) a w:=by
 have hl:∀ b r n,aj b=some [r] -> rs.lookup r=some n -> eF aj rs id b=some [n]:=by
  intro b r n E I;simp[eF,E,I]
 refine⟨h.below,λb k D=>?_,λn x C=>?_,λk=>?_,h.size,h.defers,λr l T=>?_,h.dm⟩
 ·unfold eF at D;split at D
  ·cases D
  ·rename_i k0 MW;split at D
   ·cases D
   ·rename_i r T;cases hn:rs.lookup r with
    |none=>grind
    | some n=>
     rw[hn]at D;injection D with D;subst D;obtain⟨E,I,_⟩:=h.cV b k0 MW;simp_all
 ·have C:(match rs.inv n with | some r=>(σ.m r).map (aV.ep rs) | none=>none)=some x:=C;cases hi:rs.inv n with
  |none=>grind
  | some r=>
   rw[hi]at C;have C:(σ.m r).map (aV.ep rs)=some x:=C;have s7:=(Rn.NL L (acJ hi)).2.1;have cO:rs.eY ρ n=ρ r:=by unfold Rn.eY;rw[hi]
   cases hm:σ.m r with
   |none=>grind
   | some y=>
    rw[hm]at C;injection C with C;subst C;cases h.root r y hm with
    | aC b off cells e cs us E I hh hs hc=>
     refine .aC b off cells e _ us (cO.trans E) (hl b r n I s7) hh (by rw[eM];exact hs) λj x C=>?_
     rw[eJ]at C;cases O:cs[j]? with
     |none=>grind
     | some z=>
      rw[O]at C;injection C with C;subst C;exact⟨(hc j z O).1,(hc j z O).2.ep L⟩
    | sl v y E I=>
     exact .sl v y (cO.trans E) (RV.eF (p:=[]) (nm:=id) I s7)
    |mp b c es l E I hh he=>exact .mp b c es l (cO.trans E) (hl b r n I s7) hh he
    |gh us xs E C=>exact .gh us _ (cO.trans E) λj x hj=>by simp at hj
 ·show RA _ _ _ _ ((σ.t k).ep rs) _;have D:=h.tmp k;generalize σ.t k=x at D;unfold A.ep;split
  ·exact D.ep L
  ·rename_i r j;split
   next n hn=>have hi:=(Rn.NL L (acI hn)).2.2;obtain⟨b,off,E,I⟩:=D;exact⟨b,off,by unfold Rn.eY;rw[hi];exact E,I⟩
   ·trivial
  ·obtain⟨b,off,U,Y,Z,g4⟩:=D
   refine⟨b,off,U,Y,zd Z,λj x C=>?_⟩
   obtain⟨f1,v,f2,f3⟩:=g4 j x C;exact⟨f1,v,f2,f3.Me f1 λb=>zd⟩
  ·obtain⟨pv,e0,b,off,U,Y,Z,g4⟩:=D
   refine⟨pv,e0,b,off,U,Y,zd Z,λj x C=>?_⟩
   obtain⟨f1,v,f2,f3⟩:=g4 j x C;exact⟨f1,v,f2,f3.Me f1 λb=>zd⟩
  ·obtain⟨us,U,Y,Z⟩:=D
   refine⟨us,U,by rw[eM];exact Y,λj x C=>?_⟩
   rw[eJ]at C;rename_i cs;cases O:cs[j]? with
   |none=>grind
   | some z=>
    rw[O]at C;injection C with C;subst C;obtain⟨v,f1,f2⟩:=Z j z O;exact⟨v,f1,f2.ep L⟩
  ·trivial
 ·show rs.eY ρ r=l;unfold Rn.eY;split
  ·rename_i r0 hi;rcases(Rn.NL L (acJ hi)).1 with e | e
   ·rw[e];exact h.fix r l T
   ·rw[h.dm r (.inr e)]at T;cases T
  ·exact h.fix r l T
def aqr{rs:aa (Nat×Rm)}{p:Nat×Tm}(hR:R w0 N σ a w):R w0 N (Vw rs p σ) a w:=by
 unfold Vw;split
 ·rename_i n U L;split
  ·rename_i t o hl;cases hb:Nat.ble 60000 n with
   |false=>exact hR
   | true=>
    have O:=cK hb;obtain⟨aj,ρ,hR⟩:=hR;have D:=hR.tmp p.1;rw[L]at D;have T:a.tmps.getD p.1 undef = .slice none 0 0:=by
     have E:=D.2;generalize a.tmps.getD p.1 undef=u at E;cases E;rfl
    have C:=hR.new (d:=n) (x:=.sl (.sl t o false [])) (.dH (.slice none 0 0)) (.sl _ _ (bZ _ _ _) (.eE _ _ _)) (hR.dm n (.inr O))
    refine⟨aj,_,C.below,C.cV,C.root,λk=>?_,C.size,C.defers,C.fix,C.dm⟩
    show RA _ _ _ _ (bW ((σ.drop n).root n (.sl (.sl t o false []))).t p.1 (.lf (.own [n])) k) _;by_cases I:k=p.1
    ·subst I;rw[bZ,T];exact⟨rfl,by simp[cU,bZ]⟩
    ·rw[cH _ _ _ I];exact C.tmp k
  ·exact hR
 ·exact hR
def aqs{n j r:Nat}{y:V}(hR:Rl w0 N aj ρ σ a w)(T:ρ n = .dH (.slice none 0 0)):Rl w0 N aj ρ (Vx n j r σ) a w:=by
 unfold Vx;split
 ·rename_i cs U;split
  ·rename_i L
   refine⟨hR.below,hR.cV,λE x C=>?_,hR.tmp,hR.size,hR.defers,hR.fix,hR.dm⟩
   have C:bW σ.m r (some (.aC (cs.set j (.own [n])))) E=some x:=C;by_cases O:E=r
   ·subst O;rw[bZ]at C;injection C with C;subst C;cases hR.root E _ U with
    | aC b off cells e cs us Y I Z hs hc=>
     refine .aC b off cells e _ us Y I Z (by rw[iY];exact hs) λi z D=>?_
     rw[List.getElem?_set]at D;by_cases hi:j=i
     ·subst hi;have dW:j<cs.length:=(dQ.1 L).1;rw[bN rfl,bN dW]at D;injection D with D;subst D;obtain⟨k1,k2⟩:=hc j _ L;refine⟨k1,?_⟩;have hu:us j = .slice none 0 0:=by
       have I:=k2.2;generalize us j=u at I;cases I;rfl
      rw[hu];exact⟨rfl,by simp only[cU,T]⟩
     ·grind
   ·rw[cH _ _ _ O]at C;exact hR.root E x C
  ·exact hR
 ·exact hR
def aqt{rs:aa (Nat×Rm)}{n j r:Nat}(hR:R w0 N σ a w):R w0 N (Vy rs n j r σ) a w:=by
 unfold Vy;split
 ·rename_i t o hl;cases hb:Nat.ble 60000 n with
  |false=>exact hR
  | true=>
   have C:=cK hb;obtain⟨aj,ρ,hR⟩:=hR;exact⟨aj,_,aqs (y:=.nil) (hR.new _ (.sl _ _ (bZ _ _ _) (.eE _ _ _)) (hR.dm n (.inr C))) (bZ _ _ _)⟩
 ·exact hR
def VB{rs:aa (Nat×Rm)}{r:Nat}:∀ (C:aa Lm) (cs:aa Lf) (j:Nat) (σ:S),R w0 N σ a w -> R w0 N (BH rs r j C cs σ) a w
 |[],cs,j,σ,h=>by unfold BH;exact h
 | m :: C,[],j,σ,h=>by
  unfold BH;simp_all
 | m :: C,c :: cs,j,σ,h=>by
  unfold BH;split
  next D E=>cases D;cases E;exact VB C cs _ _ (aqt h)
  next D E=>cases D;cases E;exact VB C cs _ _ h
  ·exact h
def HI{rs:aa (Nat×Rm)}:∀ (ps:aa (Nat×Rm)) (σ:S),R w0 N σ a w -> R w0 N (NK rs ps σ) a w
 |[],σ,h=>h
 |(r,.sl t o)::ps,σ,h=>HI ps σ h
 |(r,.st t)::ps,σ,h=>HI ps σ h
 |(r,.mp)::ps,σ,h=>HI ps σ h
 | (r,.aC C) :: ps,σ,h=>by
  refine HI ps _ ?_;split
  ·exact VB C _ 0 σ h
  ·exact h
def acK{rs:aa (Nat×Rm)}:∀ (ps:aa (Nat×Tm)) (σ:S),R w0 N σ a w->R w0 N (NJ rs ps σ) a w
 |[],σ,h=>h
 |p::ps,σ,h=>acK ps _ (aqr h)
def jF.pT{C:jF}{x:C.St}(h:C.rd σ=some x)(hR:R w0 N σ a w):R w0 N (C.mk' x) a w:=by
 unfold jF.rd at h;split at h
 next y D=>injection h with h;subst h;exact jF.acG D hR
 ·have hR:=acK (rs:=C.rs) C.ts σ hR;revert h hR;generalize NJ C.rs C.ts σ=E;intro h hR;unfold jF.rd1 at h;cases hb:(C.rn E).ok with
  |false=>simp_all
  | true=>
   rw[hb,aq]at h;obtain⟨aj,ρ,hR⟩:=hR;exact jF.acG h (HI C.rs _ ⟨_,_,hR.ep hb⟩)
end
def xb:aa V->aa Nat->aa Lf
 |[],_=>[]
 | x :: xs,ns=>bif x.plain then .v x :: xb xs ns else (match ns with
  |n::ns=>.own [n]::xb xs ns
  |[]=>.dead::xb xs [])
def BI:aa V->aa Nat->(Nat->ah aV)->Nat->ah aV
 |[],_,m,k=>m k
 | x :: xs,ns,m,k=>bif x.plain then BI xs ns m k else (match ns with
  |n::ns=>bif Nat.beq k n then some (.sl x)else BI xs ns m k
  |[]=>BI xs [] m k)
def kN(m:Nat->ah aV):aa Lf->aa Nat->ah (aa V)
 |[],[]=>some []
 | .v x :: cs,ns=>bif x.plain then (match kN m cs ns with
  |some C=>some (x::C)
  |none=>none)else none
 | .own [r] :: cs,n :: ns=>bif Nat.beq r n then (match m n with
  | some (.sl y)=>bif y.plain then none else (match kN m cs ns with
   |some C=>some (y::C)
   |none=>none)
  |_=>none)else none
 |_,_=>none
abbrev Gp:=Nat×TC×Nat×aa Nat
def HJ:aa Gp->Type->Type
 |[],X=>X
 |g::gs,X=>T g.2.1×HJ gs X
def NM:(gs:aa Gp)->(rs:aa (Nat×Rm))->HJ gs (w7 rs)->Nat->ah aV
 |[],rs,x,k=>w8 rs x k
 |(n,t,o,ns)::gs,rs,x,k=>bif Nat.beq k n then some (.aC (xb (enc t o x.1) ns))else BI (enc t o x.1) ns (NM gs rs x.2) k
def NN:(gs:aa Gp)->(rs:aa (Nat×Rm))->(Nat->ah aV)->ah (HJ gs (w7 rs))
 |[],rs,m=>D3 rs m
 | (n,t,o,ns) :: gs,rs,m=>match m n with
  | some (.aC cs)=>(match kN m cs ns with
   | some C=>(match dec t o C,NN gs rs m with
    |some x,some y=>some (x,y)
    |_,_=>none)
   |none=>none)
  |_=>none
def D4:aa V->aa Nat->aa Lm
 |[],_=>[]
 |.int k _::xs,ns=>.int k::D4 xs ns
 |.bool _::xs,ns=>.bool::D4 xs ns
 |.str _::xs,ns=>.str::D4 xs ns
 |_::xs,n::ns=>.own n::D4 xs ns
 |_::xs,[]=>.bool::D4 xs []
def VC:aa V->aa Nat->aa (Nat×Rm)
 |.sl t o _ _::xs,n::ns=>(n,.sl t o)::VC xs ns
 |_::xs,ns=>VC xs ns
 |[],_=>[]
def VD:aa Gp->aa (Nat×Rm)->aa (Nat×Rm)
 |[],rs=>rs
 |(n,t,o,ns)::gs,rs=>(n,.aC (D4 (Z4 t o) ns))::(VC (Z4 t o) ns++VD gs rs)
structure bU where
 ts:List (Nat×Tm)
 rs:List (Nat×Rm)
 gs:List Gp
def bU.St(C:bU):Type:=D2 C.ts×HJ C.gs (w7 C.rs)
def bU.mk'(C:bU)(x:C.St):S:=⟨w6 C.ts x.1,NM C.gs C.rs x.2⟩
def bU.NO(C:bU)(σ:S):ah C.St:=match HH C.ts σ.t,NN C.gs C.rs σ.m with
 |some x,some y=>some (x,y)
 |_,_=>none
def bU.rd(C:bU)(σ:S):ah C.St:=match C.NO σ with
 |some x=>some x
 | none=>match jF.rd ⟨C.ts,VD C.gs C.rs⟩ σ with
  |some z=>C.NO (jF.mk' ⟨C.ts,VD C.gs C.rs⟩ z)
  |none=>none
section
variable {P:Program} {w w':World} {w0:Wd} {B N:Nat} {aj aD:bI} {ρ ρ':Nat->Loc} {σ:S} {a:Act} {m:Nat->ah aV}
def lu.inv{x:V}{xs ys:aa V}(k:lu (x :: xs) ys):∃ y C,ys=y :: C/\Wk x y/\lu xs C:=by
 obtain⟨D,E⟩:=k;cases ys with
 |nil=>simp at D
 |cons y C=>exact⟨y,C,rfl,E 0 x y rfl rfl,by simpa using D,λj a b I hb=>E (j+1) a b (by simpa using I) (by simpa using hb)⟩
def Wk.acL{x y:V}(h:Wk x y)(C:x.plain=true):y=x:=by
 cases h<;>first|rfl|cases C
def Wk.acM{x y:V}(h:Wk x y)(C:x.plain=false):y.plain=false:=by
 cases h<;>first|exact C|rfl
def VE:∀ (cs:aa Lf) (ns:aa Nat) (C ys:aa V),kN m cs ns=some C -> lu C ys -> (xb ys ns).length=cs.length /\ ∀ (j:Nat) z,(xb ys ns)[j]?=some z -> cs[j]?=some z
 | [],[],C,ys,h,E=>by
  simp only[kN,iQ]at h;subst h;have:ys=[]:=List.eq_nil_of_length_eq_zero E.1.symm;subst this;exact⟨rfl,λj z I=>by simp[xb]at I⟩
 | .v x :: cs,ns,C,ys,h,E=>by
  unfold kN at h;cases D:x.plain with
  |false=>simp_all
  | true=>
   rw[D,aq]at h;split at h
   ·rename_i us L;injection h with h;subst h;obtain⟨y,O,rfl,T,U⟩:=E.inv;obtain rfl:=T.acL D;obtain⟨Y,Z⟩:=VE cs ns us O L U;simp only[xb,D,aq]
    refine⟨by simp[Y],λj z I=>?_⟩
    cases j with
    |zero=>simp_all
    |succ j=>simp_all
   ·cases h
 | .own [r] :: cs,n :: ns,C,ys,h,E=>by
  unfold kN at h;cases hb:Nat.beq r n with
  |false=>simp_all
  | true=>
   rw[hb,aq]at h;obtain rfl:=cB hb;split at h
   ·rename_i y hy;cases D:y.plain with
    |true=>simp_all
    | false=>
     rw[D,au]at h;split at h
     ·rename_i us L;injection h with h;subst h;obtain⟨y',O,rfl,T,U⟩:=E.inv;have hq:=T.acM D;obtain⟨Y,Z⟩:=VE cs ns us O L U;simp only[xb,hq,au]
      refine⟨by simp[Y],λj z I=>?_⟩
      cases j with
      |zero=>simp_all
      |succ j=>simp_all
     ·cases h
   ·cases h
 |[],_::_,C,ys,h,_=>by simp[kN]at h
 |.dead::_,_,C,ys,h,_=>by simp[kN]at h
 |.own []::_,_,C,ys,h,_=>by simp[kN]at h
 |.own (_::_::_)::_,_,C,ys,h,_=>by simp[kN]at h
 |.own [_]::_,[],C,ys,h,_=>by simp[kN]at h
def VF{f:Nat -> ah aV}{k:Nat}{x:aV}:∀ (cs:aa Lf) (ns:aa Nat) (D ys:aa V),kN m cs ns=some D -> lu D ys -> BI ys ns f k=some x -> f k=some x \/ ∃ v y,m k=some (.sl v)/\x = .sl y/\Wk v y
 | [],[],D,ys,h,I,C=>by
  simp only[kN,iQ]at h;subst h;have:ys=[]:=List.eq_nil_of_length_eq_zero I.1.symm;subst this;exact .inl C
 | .v Z :: cs,ns,D,ys,h,I,C=>by
  unfold kN at h;cases E:Z.plain with
  |false=>simp_all
  | true=>
   rw[E,aq]at h;split at h
   next us L=>injection h with h;subst h;obtain⟨y,O,rfl,T,U⟩:=I.inv;obtain rfl:=T.acL E;simp[BI,E]at C;exact VF cs ns us O L U C
   ·cases h
 | .own [r] :: cs,n :: ns,D,ys,h,I,C=>by
  unfold kN at h;cases hb:Nat.beq r n with
  |false=>simp_all
  | true=>
   rw[hb,aq]at h;obtain rfl:=cB hb;split at h
   ·rename_i y hy;cases E:y.plain with
    |true=>simp_all
    | false=>
     rw[E,au]at h;split at h
     ·rename_i us L;injection h with h;subst h;obtain⟨y',O,rfl,T,U⟩:=I.inv;have hq:=T.acM E;simp only[BI,hq,au]at C;cases Y:Nat.beq k r with
      | true=>
       rw[Y]at C;injection C with C;obtain rfl:=cB Y
       grind
      | false=>
       rw[Y]at C;exact VF cs ns us O L U C
     ·cases h
   ·cases h
 |[],_::_,D,ys,h,_,_=>by simp[kN]at h
 |.dead::_,_,D,ys,h,_,_=>by simp[kN]at h
 |.own []::_,_,D,ys,h,_,_=>by simp[kN]at h
 |.own (_::_::_)::_,_,D,ys,h,_,_=>by simp[kN]at h
 |.own [_]::_,[],D,ys,h,_,_=>by simp[kN]at h
def acN:∀ (gs:aa Gp) (rs:aa (Nat×Rm)) (y:HJ gs (w7 rs)),NN gs rs m=some y -> ∀ k x,NM gs rs y k=some x -> ∃ L,m k=some L /\ ∀ (w:World) (B:Nat) (aj:bI) (ρ:Nat -> Loc),ei w B aj ρ k L -> ei w B aj ρ k x
 | [],rs,y,h,k,x,C=>by
  have h:D3 rs m=some y:=h;have C:w8 rs y k=some x:=C;rcases VA rs m y h k with e|⟨m',L,z,E,I,e3⟩
  ·simp_all
  ·rw[e3]at C;injection C with C;subst C;exact⟨L,E,λw B aj ρ D=>Rm.pT I D⟩
 | (n,t,o,ns) :: gs,rs,y,h,k,x,C=>by
  unfold NN at h;split at h
  ·rename_i cs hm;split at h
   ·rename_i O Y;split at h
    ·rename_i x1 y1 h1 h2;injection h with h;subst h;have Z:=lW t o O x1 h1;simp only[NM]at C;cases T:Nat.beq k n with
     | true=>
      rw[T,aq]at C;injection C with C;subst C;obtain rfl:=cB T;obtain⟨E,I⟩:=VE cs ns O _ Y Z
      refine⟨_,hm,λw B aj ρ D=>?_⟩
      cases D with
      |aC b off cells e _ us U hl hh hs hc=>exact .aC b off cells e _ us U hl hh (by rw[E];exact hs) λj z hz=>hc j z (I j z hz)
     | false=>
      rw[T,au]at C;rcases VF cs ns O _ Y Z C with e|⟨v,y',E,rfl,I⟩
      ·exact acN gs rs y1 h2 k x e
      ·refine⟨_,E,λw B aj ρ D=>?_⟩
       cases D with
       |sl u _ U D=>exact .sl u _ U (D.wk I)
    ·cases h
   ·cases h
  ·cases h
def bU.acO{C:bU}{x:C.St}(h:C.NO σ=some x)(hR:R w0 N σ a w):R w0 N (C.mk' x) a w:=by
 unfold bU.NO at h;split at h
 ·rename_i u v I L;injection h with h;subst h;obtain⟨aj,ρ,hR⟩:=hR
  refine⟨aj,ρ,hR.below,hR.cV,λn y O=>?_,λk=>?_,hR.size,hR.defers,hR.fix,hR.dm⟩
  ·obtain⟨T,D,E⟩:=acN C.gs C.rs v L n y O;exact E _ _ _ _ (hR.root n T D)
  ·show RA _ _ _ _ (w6 C.ts u k) _;rcases Vz C.ts σ.t u I k with e | ⟨m,z,D,E⟩
   ·rw[e];trivial
   ·rw[E];exact Tm.pT D (hR.tmp k)
 ·cases h
def bU.pT{C:bU}{x:C.St}(h:C.rd σ=some x)(hR:R w0 N σ a w):R w0 N (C.mk' x) a w:=by
 unfold bU.rd at h;split at h
 next y D=>injection h with h;subst h;exact bU.acO D hR
 ·split at h
  next z E=>exact bU.acO h (jF.pT E hR)
  ·cases h
end
def zI:Exit->ah Nat
 |.normal=>some 0
 |.ret=>some 1
 |.exit n=>some (n+2)
 |_=>none
def VG:Nat->Exit
 |0=>.normal
 |1=>.ret
 |n+2=>.exit n
def sg{e:Exit}{n:Nat}(h:zI e=some n):e=VG n:=by
 cases e<;>simp[zI]at h<;>subst h<;>rfl
def tF:aa (Nat×bU)->Type
 |[]=>Empty
 |(_,C)::r=>C.St⊕tF r
def NP:(l:aa (Nat×bU))->Nat->S->ah (tF l)
 |[],_,_=>none
 | (n,C) :: r,e,σ=>bif Nat.beq n e then (match C.rd σ with
  |some x=>some (.inl x)
  |none=>none)else (match NP r e σ with
  |some x=>some (.inr x)
  |none=>none)
def VH{X:Type}:(l:aa (Nat×bU))->tF l->(Exit->S->ah X)->ah X
 |[],z,_=>nomatch z
 | (n,C) :: r,z,k=>match z with
  |.inl x=>k (VG n) (C.mk' x)
  |.inr z=>VH r z k
def iter{α β:Type}(step:α->ah (α⊕β)):Nat->α->ah β
 |0,_=>none
 | n+1,x=>match step x with
  |some (.inl y)=>iter step n y
  |some (.inr z)=>some z
  |none=>none
def D5(P:Program)(N:Nat)(Φ:ez)(Λ:mM)(body:Code)(C:bU)(D:aa (Nat×bU))(x:C.St):ah (C.St⊕tF D):=
 lI P N Φ Λ body (C.mk' x) λe σ=>match zI e with
  | some 0=>(match C.rd σ with
   |some x=>some (.inl x)
   |none=>none)
  | some n=>(match NP D n σ with
   |some x=>some (.inr x)
   |none=>none)
  |none=>none
def VI{X:Type}(id:Nat)(k:Exit->S->ah X)(e:Exit)(σ:S):ah X:=
 match e with
 |.exit C=>if C=id then k .normal σ else k (.exit C) σ
 |e=>k e σ
def NQ(id:Nat)(C:bU)(D:aa (Nat×bU))(F:C.St->ah (C.St⊕tF D))(fuel:C.St->Nat):r7:=
 ⟨λX σ k=>match C.rd σ with
  | some x=>(match iter F (fuel x) x with
   |some z=>VH D z (VI id k)
   |none=>none)
  |none=>none⟩
def kO:aa (Bool×TC)->Type
 |[]=>af
 |(_,t)::r=>T t×kO r
def gH:(l:aa (Bool×TC))->kO l->aa Pt
 |[],_=>[]
 |(b,t)::r,x=>(b,enc t 0 x.1)::gH r x.2
def xd:(l:aa (Bool×TC))->aa Pt->ah (kO l)
 |[],[]=>some ()
 | (b,t) :: r,(C,D) :: ps=>bif b==C then (match dec t 0 D,xd r ps with
  |some x,some xs=>some (x,xs)
  |_,_=>none)else none
 |_,_=>none
def iI(ai:aa (Bool×TC))(ro:aa (Bool×TC×Nat))(F:kO ai->ah (iV ro)):je:=
 ⟨λX args k=>match xd ai args with
  | some x=>(match F x with
   |some y=>k (eU ro y)
   |none=>none)
  |none=>none⟩
def VJ:Pt->A
 |(false,[x])=>.lf (.v x)
 |(true,xs)=>.agg (xs.map .v)
 |(false,.bool true::c::cs)=>.jo (c::cs)
 |(false,.bool false::.int .i64 (.ofNat g)::c::cs)=>.ng g (c::cs)
 |_=>.undef
def acP(args:aa Pt):S:=⟨λk=>match args[k]? with
 |some p=>VJ p
 |none=>.undef,λ_=>none⟩
def pU{X:Type}(P:Program)(N:Nat)(Φ:ez)(Λ:mM)(code:Code)(C:Array ResultVar)(args:aa Pt)(k:gf->ah X):ah X:=
 lI P N Φ Λ code (acP args) λe σ=>match zI e with
  |some 0=>GH P σ C k
  |some 1=>GH P σ C k
  |_=>none
section
variable {P:Program} {w w':World} {w0:Wd} {B N:Nat} {aj aD:bI} {ρ ρ':Nat->Loc} {σ:S} {a:Act} {X:Type} {d:Nat} {r:X} {o:Oper} {Φ:ez} {Λ:mM}
def acQ:∀ (l:aa (Nat×bU)) (e:Nat) (z:tF l),NP l e σ=some z->∀ (X:Type) (k:Exit->S->ah X),∃ D,VH l z k=k (VG e) D/\∀ a w,R w0 N σ a w->R w0 N D a w
 |[],e,z,h=>by cases h
 | (n,E) :: l,e,z,h=>by
  intro X k;unfold NP at h;cases hb:Nat.beq n e with
  | true=>
   obtain rfl:=cB hb;rw[hb,aq]at h;split at h
   next x C=>injection h with h;subst h;exact⟨E.mk' x,rfl,λa w hR=>bU.pT C hR⟩
   ·cases h
  | false=>
   rw[hb,au]at h;split at h
   next x C=>injection h with h;subst h;exact acQ l e x C X k
   ·cases h
def aqu{id:Nat}{body:Code}{E:bU}{T:aa (Nat×bU)}{F:E.St -> ah (E.St⊕tF T)}{fuel:E.St -> Nat}(dS:fL P Φ)(tG:oU P N Λ (occs body))(hF:∀ x,D5 P N Φ Λ body E T x=F x):Bw P N (.block id (.loop body)) (NQ id E T F fuel):=by
 intro X σ k r w0 h a w hR;simp only[NQ]at h;split at h
 ·rename_i x I;split at h
  ·rename_i z hz;refine wp_block ?_;have key:∀ (n:Nat) (x:E.St),iter F n x=some z -> ∀ (a:Act) (w:World),R w0 N (E.mk' x) a w -> ∀ (b:Frame) (L:aa Item) (cs:aa Frame),
     ∃e O w',Exit.inBlock id (λe O w'=>∃cY,k e cY=some r/\R w0 N cY O w') e O w'/\Arrives P (lone (b.at a (.code body::.inLoop body::L)) cs w) b L cs e O w':=by
    intro n
    induction n with
    |zero=>intro x I;simp[iter]at I
    | succ n ih=>
     intro x I a w hR b L cs;simp only[iter]at I;have ko:∃ y,D5 P N Φ Λ body E T x=some y/\(match y with | .inl y=>iter F n y=some z | .inr z'=>z'=z):=by
      rw[hF];split at I
      ·grind
      ·grind
      ·cases I
     obtain⟨y,hy,U⟩:=ko;unfold D5 at hy;have hwp:=D1 (w0:=w0) dS body _ _ hy tG a w hR;obtain⟨e,Z,w1,⟨pN,D,r4⟩,Y⟩:=hwp b (.inLoop body::L) cs;split at D
     ·rename_i C;have C:=sg C;subst C;split at D
      next x1 T0=>injection D with D;subst D;obtain⟨e2,a2,w2,A9,aqv⟩:=ih x1 U Z w1 (bU.pT T0 r4) b L cs;exact⟨e2,a2,w2,A9,.of_steps (Steps.trans Y (.one step_inLoop)) aqv⟩
      ·cases D
     ·rename_i n' cL C;have C:=sg C;split at D
      ·rename_i z1 VK;injection D with D;subst D;have U:z1=z:=U;subst U;obtain⟨σ2,ni,lE⟩:=acQ (w0:=w0) (N:=N) T n' z1 VK X (VI id k);rw[ni]at h;rw[<- C]at h;refine⟨e,Z,w1,?_,?_⟩
       ·cases e with
        | exit id'=>
         simp only[VI]at h;simp only[Exit.inBlock];split at h
         ·grind
         ·grind
        |_=>exact⟨σ2,h,lE Z w1 r4⟩
       ·refine .pass (x:=.inLoop body) rfl (λ_ _=>.inl ?_) Y
        intro e';rw[e']at C
        match n',cL,C with
        |0,cL,_=>exact cL rfl
        |1,_,C=>cases C
        |n+2,_,C=>cases C
      ·cases D
     ·cases D
   intro b L cs;obtain⟨e,O,w',hq,Y⟩:=key (fuel x) x hz a w (bU.pT I hR) b L cs;exact⟨e,O,w',hq,.of_steps (.one step_loop) Y⟩
  ·cases h
 ·cases h
def PV.th{key:Nat->aa Nat}{b:Bool}{xs ys:aa V}{u:Value}(h:PV w B aj key (b,xs) u)(k:lu xs ys):PV w B aj key (b,ys) u:=by
 obtain⟨us,E,I,L⟩:=h
 refine⟨us,E,I.trans k.1,λj y C=>?_⟩
 have D:j<xs.length:=by rw[k.1];exact(dQ.1 C).1
 obtain⟨v,O,T⟩:=L j _ (bS D);exact⟨v,O,T.wk (k.2 j _ y (bS D) C)⟩
def za.th{cs C:aa V}{u:Value}(h:za w cs u)(k:lu cs C):za w C u:=by
 obtain⟨b,off,I,hb,L⟩:=h
 refine⟨b,off,I,hb,λj y D=>?_⟩
 have E:j<cs.length:=by rw[k.1];exact(dQ.1 D).1
 obtain⟨v,O,T⟩:=L j _ (bS E);exact⟨v,O,T.wk (k.2 j _ y (bS E) D)⟩
def PA.th{b:Bool}{xs ys:aa V}{u:Value}(h:PA w (b,xs) u)(k:lu xs ys):PA w (b,ys) u:=by
 cases h with
 |v _ _ h=>exact .v _ _ (h.th k)
 | p c cs _ h=>
  obtain⟨y,E,rfl,C,D⟩:=k.inv;cases C;have h:=h.th D;obtain⟨L,eV,rfl,_,_⟩:=D.inv;exact .p _ _ _ h
 | f g c cs u h=>
  obtain⟨y,E,rfl,C,D⟩:=k.inv;cases C;obtain⟨y,E,rfl,C,I⟩:=D.inv;cases C;have h:=h.th I;obtain⟨L,eV,rfl,_,_⟩:=I.inv;exact .f _ _ _ _ h
def PA.ra{p:Pt}{u:Value}(h:PA w p u)(D:∀ y∈p.2,y.aI=true):RA w w.heap.size (λ_=>none) ρ (VJ p) u:=by
 have T:∀ {cs:aa V} {u:Value},za w cs u -> (∀ y∈cs,y.aI=true) -> RF w w.heap.size (λ_=>none) cs u:=by
  rintro cs u ⟨b,off,rfl,hb,E⟩ D
  refine⟨b,off,rfl,hb,rfl,λj x U=>⟨D x (gX U),E j x U⟩⟩
 cases h with
 | v _ _ h=>
  obtain⟨us,Y,Z,E⟩:=h;obtain⟨b,xs⟩:=p;cases b with
  | true=>
   refine⟨us,Y,by rw[eM];exact Z,λi y C=>?_⟩
   rw[eJ]at C;cases I:xs[i]? with
   |none=>simp_all
   | some z=>
    rw[I]at C;injection C with C;subst C;obtain⟨v,L,O⟩:=E i z I;exact⟨v,L,D z (gX I),O⟩
  | false=>
   subst Y;have h1:=Z.symm;obtain⟨x,rfl⟩:=List.length_eq_one_iff.1 h1;obtain⟨v,L,O⟩:=E 0 x rfl;have:u=v:=by simpa using L
   subst this;exact⟨D x (by simp),O⟩
 |p c cs _ h=>exact T h λy C=>D y (.tail _ C)
 |f g c cs u h=>exact⟨u,rfl,T h λy C=>D y (.tail _ (.tail _ C))⟩
def VL:∀ (l:aa (Bool×TC)) (ps:aa Pt) (x:kO l),xd l ps=some x -> (gH l x).length=ps.length /\ ∀ (i:Nat) p,(gH l x)[i]?=some p -> ∃ q,ps[i]?=some q/\q.1=p.1/\lu q.2 p.2
 |[],[],x,h=>⟨rfl,λi p C=>by simp[gH]at C⟩
 | (b,t) :: r,(D,E) :: ps,x,h=>by
  unfold xd at h;cases hb:b==D with
  |false=>simp_all
  | true=>
   rw[hb,aq]at h;have hb:b=D:=by simpa using hb
   subst hb;split at h
   ·rename_i y ys I L;injection h with h;subst h;obtain⟨O,T⟩:=VL r ps ys L
    refine⟨by simp[gH,O],λi p C=>?_⟩
    cases i with
    |zero=>simp[gH]at C;subst C;exact⟨(b,E),rfl,rfl,lW t 0 E y I⟩
    |succ i=>exact T i p (by simpa [gH]using C)
   ·cases h
 |[],_::_,x,h=>by simp[xd]at h
 |_::_,[],x,h=>by simp[xd]at h
def mc(l:aa (Bool×TC×Nat)):Bool:=l.all λp=>Nat.ble (full p.2.1) p.2.2
def acR(t:TC)(g:Nat)(x:T t)(h:full t <= g):(enc t g x).all V.loc=true:=by
 rw[cv];intro y D;have E:=yG t g x y D;have hl:=Md t g x y D;cases y with
 | sl I C q l=>
  have L:C=g:=by simpa [V.gr]using E
  subst L;have hl:=cK hl;show zb I C=true
  match C,h with
  |0,h=>omega
  |1,h=>omega
  | n+2,h=>
   simp only[zb,eA];left;exact ja (by omega)
 |_=>rfl
def VM:∀ (l:aa (Bool×TC×Nat)) (ps:aa Pt) (x:iV l),mc l=true -> pK l ps=some x -> (s8 l x).length=ps.length /\ ∀ (nm:Nat -> Nat) (off:Nat) (C:aa Value),jQ w B aj nm off ps C -> jQ w B aj nm off (s8 l x) C
 |[],[],x,_,h=>⟨rfl,λnm off C D=>D⟩
 | [(b,t,g)],[(E,C)],x,L,h=>by
  unfold pK at h;cases hb:b==E with
  |false=>rw[hb]at h;cases h
  | true=>
   rw[hb]at h;have h:dec t g C=some x:=h;have hb:b=E:=by simpa using hb
   subst hb;have T:full t <= g:=by simpa [mc]using L
   refine⟨rfl,λnm off us D=>?_⟩
   match us,D with
   |[u],⟨⟨_,I⟩,_⟩=>exact⟨⟨acR t g x T,I.th (lW t g C x h)⟩,trivial⟩
 | (b,t,g) :: q :: r,(E,C) :: ps,x,L,h=>by
  unfold pK at h;cases hb:b==E with
  |false=>grind
  | true=>
   rw[hb,aq]at h;have hb:b=E:=by simpa using hb
   subst hb;have O:full t <= g/\mc (q :: r)=true:=by
    simp only[mc,List.all_cons,aQ]at L ⊢;simp_all
   split at h
   ·rename_i y ys I U;injection h with h;subst h;obtain⟨Y,k2⟩:=VM (q :: r) ps ys O.2 U
    refine⟨by simp[s8,Y],λnm off us D=>?_⟩
    match us,D with
    | u :: us,⟨⟨_,Z⟩,yY⟩=>
     have hlen:=(lW t g C y I).1;refine⟨⟨acR t g y O.1,Z.th (lW t g C y I)⟩,?_⟩;simp_all
   ·cases h
 |[],_::_,x,_,h=>by simp[pK]at h
 |[_],[],x,_,h=>by simp[pK]at h
 |[_],_::_::_,x,_,h=>by simp[pK]at h
 |_::_::_,[],x,_,h=>by simp[pK]at h
def acS{l:aa (Bool×TC×Nat)}{E:gf}{x:iV l}(L:mc l=true)(h:l7 l E=some x){nm:Nat -> Nat}{v:Value}(D:pJ w B aj nm E v):pJ w B aj nm (eU l x) v:=by
 cases E with
 | one p=>
  obtain⟨C,I⟩:=VM (w:=w) (B:=B) (aj:=aj) l [p] x L h;have D:jQ w B aj nm 0 [p] [v]:=D;have:=I nm 0 [v] D;unfold eU
  match hm:s8 l x,C,this with
  |[q],_,this=>exact this
  |[],C,_=>cases C
  |_::_::_,C,_=>simp at C
 | eX ps=>
  simp only[l7]at h;cases hb:Nat.beq ps.length 1 with
  |true=>simp_all
  | false=>
   rw[hb,au]at h;obtain⟨C,I⟩:=VM (w:=w) (B:=B) (aj:=aj) l ps x L h;obtain⟨O,e,D⟩:=D;have:=I nm 0 _ D;unfold eU
   match hm:s8 l x,C,this with
   |[q],C,this=>simp_all
   |[],_,this=>exact⟨O,e,this⟩
   |_::_::_,_,this=>exact⟨O,e,this⟩
def acT:∀ (l:aa (Bool×TC)) (x:kO l),(gH l x).length=l.length
 |[],x=>rfl
 |(b,t)::l,x=>by simp[gH,acT l]
def acU:∀ (l:aa (Bool×TC)) (x:kO l) (j:Nat) (p:Pt),(gH l x)[j]?=some p->∀ y∈p.2,y.aI=true
 |[],x,j,p,C,_,_=>by simp[gH]at C
 | (b,t) :: l,x,0,p,C,y,D=>by
  simp[gH]at C;subst C;obtain⟨i,hi⟩:=List.mem_iff_getElem?.1 D;exact pE t 0 x.1 (by omega) i y hi
 |(b,t)::l,x,j+1,p,C,y,D=>acU l x.2 j p (by simpa [gH]using C) y D
def HK{f:Nat}{fn:Func}{code:Code}{tH:aa Pt}{ro:aa (Bool×TC×Nat)}{y:iV ro}(hf:P.funcs[f]?=some fn)(hb:fn.body=some code)(hN:fn.ntmps=N)(O:tH.length <= N)(fF:mc ro=true)
  (dS:fL P Φ) (tG:oU P N Λ (occs code)) (aqw:∀(j:Nat) p,tH[j]?=some p -> ∀y∈p.2,y.aI=true) (I:pU P N Φ Λ code fn.results tH (l7 ro)=some y) (nm:Nat -> Nat) (w:World) (bT:Array Value) (T:oP w tH bT) (U:Hd w (λ_=>none)):
  Calls P f bT w λe w'=>∃v aD,e = .returned v/\Below w.heap.size w w'/\(∀b k,aD b=some k -> w.heap.size <= b/\b<w'.heap.size/\k≠[])/\pJ w' w.heap.size aD nm (eU ro y) v:=by
 have O:bT.size <= N:=by rw[T.1];exact O
 refine calls_of_wp hf hb ?_;unfold pU at I;have hR:R (.of w U) N (acP tH) { tmps:=bT++Array.replicate (fn.ntmps-bT.size) undef,defers:=[] } w:=by
  refine⟨λ_=>none,λ_=>.aC 0 0,.of (Below.refl w.heap.size w) (dJ _),(λb k D=>by cases D),(λn y I=>by cases I),λj=>?_,by simp[hN];omega,rfl,(λr l h=>by cases h),(λ_ _=>rfl)⟩
  show RA w w.heap.size _ _ (match tH[j]? with|some p=>VJ p|none=>.undef) _;cases Y:tH[j]? with
  |none=>trivial
  | some p=>
   obtain⟨u,Z,uT⟩:=T.2 j p Y;have hj:=(iO.1 Z).1;have e:(bT++Array.replicate (fn.ntmps-bT.size) undef).getD j undef=u:=by rw[iE,Array.getElem?_append_left hj,Z];rfl
   rw[e];exact uT.ra (aqw j p Y)
 refine wp_mono (D1 (w0:=.of w U) dS code _ _ I tG _ w hR) λe L w' C=>?_
 obtain⟨cY,D,aj,ρ,E⟩:=C;have fin:GH P cY fn.results (l7 ro)=some y -> L.defers=[] /\ ∃ v,(results fn L.tmps).run P w' = .ok v w' /\ ∃ zJ aD,Ending.returned v=Ending.returned zJ/\Below w.heap.size w w'/\(∀ b k,aD b=some k -> w.heap.size <= b/\b<w'.heap.size/\k≠[])/\pJ w' w.heap.size aD nm (eU ro y) zJ:=by
  intro VN;obtain⟨res,kr,eO⟩:=anK VN;obtain⟨v,aD,h1,h2,h3⟩:=eO aj ρ L w' E nm;exact⟨E.defers,v,h1,v,aD,rfl,⟨E.below.os,E.below.tape,E.below.output,E.below.size,λk D=>E.below.block k D rfl⟩,λb k hb=>⟨(h2 b k hb).1.resolve_right (λh=>h rfl),(h2 b k hb).2⟩,acS fF kr h3⟩
 split at D
 next C=>have C:=sg C;subst C;exact fin D
 next C=>have C:=sg C;subst C;exact fin D
 ·cases D
def aqx{ai:aa (Bool×TC)}{args:aa Pt}{x:kO ai}{bT:Array Value}(E:xd ai args=some x)(C:oP w args bT):oP w (gH ai x) bT:=by
 obtain⟨I,L⟩:=VL ai args x E
 refine⟨C.1.trans I.symm,λj p O=>?_⟩
 obtain⟨q,T,D,U⟩:=L j p O;obtain⟨u,Y,Z⟩:=C.2 j q T;refine⟨u,Y,?_⟩;obtain⟨b,ys⟩:=p;obtain⟨b',xs⟩:=q;simp only at D;subst D;exact Z.th U
def VO{f:Nat}{ai:aa (Bool×TC)}{ro:aa (Bool×TC×Nat)}{F:kO ai->ah (iV ro)}(h:∀ x y,F x=some y->∀ (nm:Nat->Nat) (w:World) (bT:Array Value),oP w (gH ai x) bT->Hd w (λ_=>none)->
  Calls P f bT w λe w'=>∃v aD,e = .returned v/\Below w.heap.size w w'/\(∀b k,aD b=some k->w.heap.size<=b/\b<w'.heap.size/\k≠[])/\pJ w' w.heap.size aD nm (eU ro y) v):iF P f (iI ai ro F):=by
 refine⟨λargs X Y k g=>?_,λargs O C nm w bT D E=>?_⟩
 ·unfold iI;dsimp only;split
  ·split<;>rfl
  ·rfl
 ·simp only[iI]at C;split at C
  ·rename_i x I;split at C
   next y L=>injection C with C;subst C;exact h x y L nm w bT (aqx I D) E
   ·cases C
  ·cases C
def aqy{f:Nat}{fn:Func}{code:Code}{ai:aa (Bool×TC)}{ro:aa (Bool×TC×Nat)}{F:kO ai->ah (iV ro)}(C:P.funcs[f]?=some fn)(hb:fn.body=some code)(D:fn.ntmps=N)(E:(fn.name == "runtime.NumGoroutine")=false)(I:Nat.ble ai.length N=true)(L:mc ro=true)
  (O:fL P Φ) (T:oU P N Λ (occs code)) (U:∀x,pU P N Φ Λ code fn.results (gH ai x) (l7 ro)=F x):enters P f/\iF P f (iI ai ro F):=
 ⟨⟨fn,C,E,by rw[hb];rfl⟩,VO λx y Y nm w bT Z hQ=>HK C hb D (by rw[acT];exact cK I) L O T (acU ai x) ((U x).trans Y) nm w bT Z hQ⟩
def aqz{f:Nat}{fn:Func}{code:Code}{t:TC}{g:Nat}{F:aa (T t)->ah (aa (T t))}(E:P.funcs[f]?=some fn)(hb:fn.body=some code)(L:fn.ntmps=N)(BJ:(fn.name == "runtime.NumGoroutine")=false)(VP:Nat.ble 1 N=true)(O:mc [(false,.sl t,g)]=true)
  (U:fL P Φ) (Y:oU P N Λ (occs code)) (hF:∀x:aa (T t),pU P N Φ Λ code fn.results [(false,[.sl t 0 false x])] (l7 [(false,.sl t,g)])=F x)
  (h0:pU P N Φ Λ code fn.results [(false,[.nil])] (l7 [(false,.sl t,g)])=some ([]:aa (T t))) (h1:pU P N Φ Λ code fn.results [(false,[.sl t 0 true []])] (l7 [(false,.sl t,g)])=some ([]:aa (T t))):
  enters P f/\iF P f (iI [(false,.sl t)] [(false,.sl t,g)] λx=>bif jP x.1 then some ([]:aa (T t))else F x.1):=by
 refine⟨⟨fn,E,BJ,by rw[hb];rfl⟩,VO λx y D nm w bT I Z=>?_⟩
 obtain⟨l,_⟩:=x;have I:oP w [(false,[.sl t 0 false l])] bT:=I;have hle:1<=N:=cK VP;have NR:∀ (v:V),v.aI=true->∀ (j:Nat) p,([(false,[v])]:aa Pt)[j]?=some p->∀ y∈p.2,y.aI=true:=by
  intro v hv j p C y D;rcases j with _|j
  ·injection C with C;subst C;rw[oy.1 D];exact hv
  ·cases C
 obtain⟨u,hu,C⟩:=I.2 0 _ rfl;obtain⟨us,e,_,hv⟩:=C.pv;have e:us = #[u]:=e;subst e;obtain⟨v,g1,hr⟩:=hv 0 _ rfl;have g1:u=v:=by simpa using g1
 subst g1;have one:∀ v:V,RV w w.heap.size (λ_=>none) [] v u->oP w [(false,[v])] bT:=λv hr=>⟨I.1,λj p C=>by
  rcases j with _|j
  ·injection C with C;subst C;exact⟨u,hu,.v _ _ ⟨#[u],rfl,rfl,λi x hx=>by
    rcases i with _|i
    ·injection hx with hx;subst hx;exact⟨u,rfl,hr⟩
    ·cases hx⟩⟩
  ·cases C⟩
 cases l with
 |cons a l=>exact HK (tH:=[(false,[.sl t 0 false (a::l)])]) E hb L hle O U Y (NR _ rfl) ((hF _).trans D) nm w bT I Z
 | nil=>
  have D:some ([]:aa (T t))=some y:=D;injection D with D;subst D;cases hr with
  |eE=>exact HK (tH:=[(false,[.nil])]) E hb L hle O U Y (NR _ rfl) h0 nm w bT (one _ (.nil _)) Z
  |fI _ _ _ A c ho=>exact HK (tH:=[(false,[.sl t 0 true []])]) E hb L hle O U Y (NR _ rfl) h1 nm w bT (one _ (.fV _ _ _ _ _ ho)) Z
  |aI _ _ _ qn l b off cap us ho hl Mo hB lX hc qE=>exact HK (tH:=[(false,[.sl t 0 true []])]) E hb L hle O U Y (NR _ rfl) h1 nm w bT (one _ (.fV _ _ _ _ _ ho)) Z
end
def HL(N:Nat)(σ:S)(t:Nat):S:=match σ.t t with
 | .view [q] s 0 j=>bif Nat.blt t N then (match σ.m q with
  |some (.sl (.sl C (o+2) D l))=>bif Nat.beq (full C) 0 then (((σ.drop q).drop t).root t (.sl (.sl C 2 false (l.take j)))).set t (.lf (.own [t]))else σ
  |_=>σ)else σ
 |_=>σ
def vc(N:Nat)(σ:S):aa ResultVar->S
 |[]=>σ
 |.tmp t::r=>vc N (HL N σ t) r
 |_::r=>vc N σ r
def BM{X:Type}(P:Program)(N:Nat)(Φ:ez)(Λ:mM)(code:Code)(C:Array ResultVar)(D:aa In)(args:aa Ar)(k:aa In->gf->ah X):ah X:=
 lI P N Φ Λ code (wN D args) λe σ=>match zI e with
  |some 0=>GN P (vc N σ C.toList) C D k
  |some 1=>GN P (vc N σ C.toList) C D k
  |_=>none
section
variable {P:Program} {w w':World} {w0:Wd} {B N:Nat} {aj aD:bI} {ρ ρ':Nat->Loc} {σ:S} {a:Act} {X:Type} {d:Nat} {r:X} {o:Oper} {Φ:ez} {Λ:mM}
def Rl.HL{t:Nat}(h:Rl w0 N aj ρ σ a w):∃ aD ρ',Rl w0 N aD ρ' (Proofs.YtglnbhiaknohlaaGreat.HL N σ t) a w:=by
 unfold Proofs.YtglnbhiaknohlaaGreat.HL;split
 ·rename_i q s j ht;cases hN:Nat.blt t N with
  |false=>exact⟨aj,ρ,h⟩
  | true=>
   have hN:t<N:=by have:=cK hN;omega
   rw[aq];split
   ·rename_i E g qn l hm;cases U:Nat.beq (full E) 0 with
    |false=>exact⟨aj,ρ,h⟩
    | true=>
     have U:=cB U;rw[aq];have hv:=h.tmp t;rw[ht]at hv;obtain⟨A,n,c,Y,_,hj,hu⟩:=hv;have gx:sliced A 0 j c s = .slice A j c:=by cases A<;>simp[sliced,Addr.add]
     rw[gx]at hu;let D:bI:=λb=>match aj b with
      |some k=>bif cR q k then (bif Nat.beq k.length 1 then some [t]else none)else some k
      |none=>none
     have hrel:Rel q aj D:=⟨h.wC,λb hb=>by simp[D,hb],λb k hb C=>by simp[D,hb,C]⟩
     have h1:=h.rel hrel (λb k C=>by
      simp only[D]at C;cases hl:aj b with
      |none=>rw[hl]at C;cases C
      | some k'=>
       rw[hl]at C;simp only at C;refine⟨⟨_,rfl⟩,?_⟩;cases hq:cR q k' with
       | true=>
        rw[hq,aq]at C;cases hlen:Nat.beq k'.length 1 with
        |true=>rw[hlen,aq]at C;injection C with C;rw[<- C];simp
        |false=>rw[hlen,au]at C;cases C
       | false=>
        rw[hq,au]at C;injection C with C;subst C;exact(h.cV b k' hl).2.2)
     have fF:=h.root q _ hm;generalize L:aV.sl (.sl E (g+2) qn l)=z at fF;cases fF with
     |aC=>cases L
     |mp=>cases L
     |gh=>cases L
     | sl v y cO O=>
      injection L with L;subst L;simp only[cU,cO]at Y;injection Y with Y;subst Y;have hn:n=l.length:=by cases O<;>rfl
      have aqA:RV w w0.heap.size D [t] (.sl E 2 false (l.take j)) (.slice A j c):=by
       cases O with
       | eE=>
        have:j=0:=by simpa using hj
        subst this;exact .eE _ _ _
       |fI _ _ _ _ _ ho=>omega
       |fV _ _ _ _ _ ho=>omega
       |aI _ _ _ _ _ _ _ _ _ ho=>omega
       | own _ _ _ _ _ b cap cs us pG hh hs A5 rN hc O=>
        have hl:(l.take j).length=j:=by rw[gF];omega
        have hle:∀i (hi:i<(l.take j).length),∃Z:i<l.length,(l.take j)[i]=l[i]:=λi hi=>⟨by omega,List.getElem_take⟩
        have:=RV.own (w:=w) (B:=w0.heap.size) (aj:=D) [t] E 0 false (l.take j) b c cs us (by simp[D,pG,cR]) hh hs (by omega) ⟨rN.1,λh=>by cases h⟩ (λi hi k x T=>by
         obtain⟨Z,e⟩:=hle i hi;rw[e,Dn E U 0]at T;exact hc i Z k x T) (λi hi k x T=>by
         obtain⟨Z,e⟩:=hle i hi;rw[e,Dn E U 0]at T;exact(O i Z k x T).sS (yF E g _ U x (gX T)))
        rw[hl]at this;exact this
      have hrm:Dk w w D D t:=⟨dJ _,λ_ _ _=>rfl,λ_ _=>rfl,h1.wC⟩
      have I:=h1.yO (d:=t) (ρ':=bW ρ t (.dH (.slice A j c))) (x:=.sl (.sl E 2 false (l.take j))) (h.dm t (.inl hN)) ⟨rfl,rfl,rfl,dJ _,λ_ _ _=>rfl⟩ hrm (λb k hb C=>by
       have:=(h1.cV b k C).2.1;omega) (λr O=>cH _ _ _ O) (.sl _ _ (bZ _ _ _) aqA)
      refine⟨_,_,I.below,I.cV,I.root,λk=>?_,I.size,I.defers,I.fix,I.dm⟩
      show RA w w0.heap.size D _ (bW _ t _ k) _;by_cases C:k=t
      ·subst C;rw[bZ,hu];exact⟨rfl,by simp only[cU,bZ]⟩
      ·rw[cH _ _ _ C];exact I.tmp k
   ·exact⟨aj,ρ,h⟩
 ·exact⟨aj,ρ,h⟩
def Rl.vc:∀ (l:aa ResultVar) (σ:S) (aj:bI) (ρ:Nat -> Loc),Rl w0 N aj ρ σ a w -> ∃ aD ρ',Rl w0 N aD ρ' (Proofs.YtglnbhiaknohlaaGreat.vc N σ l) a w
 |[],_,aj,ρ,h=>⟨aj,ρ,h⟩
 | .tmp t :: r,_,_,_,h=>by
  obtain⟨C,D,E⟩:=h.HL;exact Rl.vc r _ C D E
 |.cell _ _::r,_,aj,ρ,h=>Rl.vc r _ aj ρ h
def fnM_core{f:Nat}{fn:Func}{code:Code}{C:aa In}{args:aa Ar}{k:aa In -> gf -> ah X}(hf:P.funcs[f]?=some fn)(hb:fn.body=some code)(hN:fn.ntmps=N)(D6:N <= 20000)(hlen:args.length <= N)
  (dS:fL P Φ) (tG:oU P N Λ (occs code)) (h:BM P N Φ Λ code fn.results C args k=some r) (nm:Nat -> Nat) (w:World) (aj:bI) (ρ:Nat -> Loc) (bT:Array Value)
  (hE:oR w w.heap.size aj ρ 0 C) (nW:∀b k,aj b=some k -> b<w.heap.size/\k≠[]) (iN:bT.size=args.length) (hv:∀i,RA w w.heap.size aj ρ ((wN C args).t i) (bT.getD i undef)) (T:Hd w aj):
  Calls P f bT w λe w'=>∃v aD outs D,k outs D=some r/\e = .returned v/\jq ⟨w,aj,λ_=>none,T,λ_ _=>rfl⟩ w w'/\(∀b k,aD b=some k -> (w.heap.size <= b \/ aj b≠none)/\b<w'.heap.size/\k≠[])/\pJ w' w.heap.size aD nm D v/\qL w w' aD ρ nm 0 D.len C outs:=by
 let W:Wd:=⟨w,aj,λr=>if 20000 <= r/\r<60000 then some (ρ r)else none,T,λr hr=>bO⟩
 refine calls_of_wp hf hb ?_;unfold BM at h;have hR:R W N (wN C args) { tmps:=bT++Array.replicate (fn.ntmps-bT.size) undef,defers:=[] } w:=by
  refine⟨aj,ρ,.of (Below.refl w.heap.size w) (dJ _),λb k hb=>⟨.inr (by rw[show W.L b=aj b from rfl,hb];simp),nW b k hb⟩,oR.roots C 0 _ hE (λr x hx=>by cases hx),λj=>?_,by simp[hN];omega,rfl,λr l hr=>?_,λr hr=>?_⟩
  ·by_cases hj:j<bT.size
   ·have e:(bT++Array.replicate (fn.ntmps-bT.size) undef).getD j undef=bT.getD j undef:=by
     rw[iE,Array.getElem?_append_left hj,iE]
    rw[e];exact hv j
   ·have e:(wN C args).t j = .undef:=by
     simp only[wN,List.getElem?_eq_none (by omega:args.length <= j)]
    rw[e];trivial
  ·grind
  ·grind
 refine wp_mono (D1 (w0:=W) dS code _ _ h tG _ w hR) λe U w' E=>?_
 obtain⟨cY,O,DC,DA,I⟩:=E;have fin:GN P (Proofs.YtglnbhiaknohlaaGreat.vc N cY fn.results.toList) fn.results C k=some r -> U.defers=[] /\ ∃ v,(results fn U.tmps).run P w' = .ok v w' /\ ∃ zJ aD outs D,k outs D=some r/\Ending.returned v=Ending.returned zJ/\jq ⟨w,aj,λ_=>none,T,λ_ _=>rfl⟩ w w'/\(∀ b k,aD b=some k -> (w.heap.size <= b \/ aj b≠none)/\b<w'.heap.size/\k≠[])/\pJ w' w.heap.size aD nm D zJ/\qL w w' aD ρ nm 0 D.len C outs:=by
  intro VN;obtain⟨outs,D,hko,eO⟩:=anM (w0:=W) rfl (λr Y Z=>bN ⟨Y,Z⟩) (oR.TR C 0 hE) VN;obtain⟨dA,eZ,lE⟩:=Rl.vc _ cY DC DA I;obtain⟨v,aD,Y,Z,h3,h4⟩:=eO dA eZ U w' lE nm;exact⟨I.defers,v,Y,v,aD,outs,D,hko,rfl,⟨I.below.os,I.below.tape,I.below.output,I.below.size,λk O=>I.below.block k O⟩,Z,h3,h4⟩
 split at O
 next E=>have E:=sg E;subst E;exact fin O
 next E=>have E:=sg E;subst E;exact fin O
 ·cases O
end
def qW:(l:aa (Bool×TC×Nat))->aa In->ah (qM l)
 |[],[]=>some ()
 | (true,t,g) :: r,.aC cs :: is=>match dec t g cs,qW r is with
  |some x,some xs=>some (x,xs)
  |_,_=>none
 | (false,t,g) :: r,.sl y :: is=>match (bif Nat.ble 1000000 g then (bif y.ki then none else y.fl t (g+2))else bif y.ki then y.fl t (g+2)else none),qW r is with
  |some x,some xs=>some (x,xs)
  |_,_=>none
 |_,_=>none
def NS:aa In->aa In->aa In->Prop
 |[],[],[]=>True
 |.aC I::C,.aC cs::r,.aC eV::D=>(lu cs eV/\I.map (λv=>(v.plain,v.aI))=eV.map (λv=>(v.plain,v.aI))/\∀x∈eV,x.ki=true)/\NS C r D
 |.sl _::C,.sl y::r,.sl E::D=>(Wk y E/\(y = .nil->E = .nil))/\NS C r D
 |_,_,_=>False
def NT:∀ (ps:aa PK) (C:lF ps) (is:aa In) (x:qM (eG ps)),qW (eG ps) is=some x -> NS (ny ps C) is (jf (eG ps) x)
 |[],_,[],x,_=>trivial
 |[],_,_::_,x,h=>by simp[qW,eG]at h
 |.v b t::ps,C,is,x,h=>NT ps C.2 is x h
 |.p t g off::ps,C,[],x,h=>by simp[qW,eG]at h
 |.s t g::ps,C,[],x,h=>by simp[qW,eG]at h
 |.p t g off::ps,C,.sl _::_,x,h=>by simp[qW,eG]at h
 |.s t g::ps,C,.aC _::_,x,h=>by simp[qW,eG]at h
 | .p t g off :: ps,C,.aC cs :: is,x,h=>by
  have h:qW ((true,t,g)::eG ps) (.aC cs::is)=some x:=h;unfold qW at h;split at h
  next y ys D I=>injection h with h;subst h;exact⟨⟨lW t g cs y D,amO t g C.1 y,λz L=>SL t g y z L⟩,NT ps C.2 is ys I⟩
  ·cases h
 | .s t g :: ps,C,.sl y :: is,x,h=>by
  have h:qW ((false,t,g)::eG ps) (.sl y::is)=some x:=h;unfold qW at h;split at h
  ·rename_i z O D I;injection h with h;subst h;refine⟨?_,NT ps C.2 is O I⟩;cases hb:Nat.ble 1000000 g with
   | true=>
    cases E:y.ki with
    |true=>simp_all
    | false=>
     have:y = .nil:=by cases y<;>first|rfl|cases E
     subst this;exact⟨.same _,λ_=>rfl⟩
   | false=>
    cases E:y.ki with
    |false=>simp_all
    | true=>
     rw[hb,E]at D;exact⟨V.F3 D,λe=>by subst e;cases E⟩
  ·cases h
def qL.typed{w w':World}{aD:bI}{ρ:Nat -> Loc}{nm:Nat -> Nat}:∀ (E:aa In) (i U:Nat) (outs O:aa In),qL w w' aD ρ nm i U E outs -> NS E outs O -> GM w w' aD ρ nm i U E O
 |[],i,U,[],[],h,C=>trivial
 | .aC cs0 :: E,i,U,.aC cs1 :: outs,.aC cs2 :: O,h,C=>by
  obtain⟨⟨b,off,cells,wO,e,e',Y,Z,h3,h4,h5,h6,h7⟩,hr⟩:=h;obtain⟨⟨T,VQ,hnn⟩,oN⟩:=C
  refine⟨⟨b,off,cells,wO,e,e',Y,Z,h3,h4,by rw[<- T.1];exact h5,by rw[<- T.1];exact h6,λj x hx=>?_⟩,qL.typed E _ _ outs O hr oN⟩
  have hj:j<cs1.length:=by rw[T.1];exact(dQ.1 hx).1
  obtain⟨u,hu,hc⟩:=h7 j _ (bS hj);have C:=T.2 j _ x (bS hj) hx;have VR:∀ I,cs0[j]?=some I -> I.plain=x.plain/\I.aI=x.aI:=by
   intro I h0;have e1:(cs0.map (λv=>(v.plain,v.aI)))[j]?=(cs2.map (λv=>(v.plain,v.aI)))[j]?:=by rw[VQ]
   grind
  have hxn:=hnn x (gX hx);generalize cs1[j]=y at hc C;refine⟨u,hu,?_⟩;rcases hc with ⟨D,L⟩|⟨D,L,I,c3,c4⟩|⟨D,L,c6,⟨I,c3,c4⟩,c5⟩|⟨D,L⟩
  ·cases C with
   |same=>grind
   |nil t o=>cases D
   |q t o l=>cases D
   |gr=>cases D
  ·subst D L;have hf:x.aI=false:=by rw[<- (VR I c3).2];exact c4
   cases C with
   |same=>cases hxn
   |nil t o=>exact .inr (.inr ⟨hf,.eE _ _ _⟩)
  ·cases C with
   |same=>grind
   |nil t o=>cases c6
   |q t o l=>exact .inr (.inl ⟨rfl,L,c5⟩)
   |gr t o o' qn l Y Z=>simp[V.aI]at L;omega
  ·have hf:=C.TX D;exact .inr (.inr ⟨hf,L.wk C⟩)
 | .sl y0 :: E,i,U,.sl y1 :: outs,.sl y2 :: O,h,C=>by
  obtain⟨h,hr⟩:=h;obtain⟨⟨T,hn⟩,oN⟩:=C;exact⟨h.imp hn (λ⟨v,Y,Z⟩=>⟨v,Y,Z.wk T⟩),qL.typed E _ _ outs O hr oN⟩
 |[],_,_,_::_,_,h,_=>h.elim
 |[],_,_,[],_::_,_,h=>h.elim
 |.aC _::_,_,_,[],_,h,_=>h.elim
 |.sl _::_,_,_,[],_,h,_=>h.elim
 |.aC _::_,_,_,.sl _::_,_,h,_=>h.elim
 |.sl _::_,_,_,.aC _::_,_,h,_=>h.elim
 |.aC _::_,_,_,.aC _::_,[],_,h=>h.elim
 |.aC _::_,_,_,.aC _::_,.sl _::_,_,h=>h.elim
 |.sl _::_,_,_,.sl _::_,[],_,h=>h.elim
 |.sl _::_,_,_,.sl _::_,.aC _::_,_,h=>h.elim
def acV:∀ (l:aa (Bool×TC×Nat)) (ps:aa Pt) (x:iV l),pK l ps=some x -> (ps.map λp=>p.2.length)=((s8 l x).map λp=>p.2.length)
 |[],[],x,h=>rfl
 | [(b,t,g)],[(C,D)],x,h=>by
  unfold pK at h;cases hb:b==C with
  |false=>rw[hb]at h;cases h
  | true=>
   rw[hb]at h;simp[s8,(lW t g D x h).1]
 | (b,t,g) :: q :: r,(C,D) :: ps,x,h=>by
  unfold pK at h;cases hb:b==C with
  |false=>simp_all
  | true=>
   rw[hb]at h;split at h
   next y ys E I=>injection h with h;subst h;simp only[s8,List.map_cons];rw[acV _ ps ys I,(lW t g D y E).1]
   ·cases h
def aqB{l:aa (Bool×TC×Nat)}{C:gf}{x:iV l}(h:l7 l C=some x):C.len=(eU l x).len:=by
 have key:∀ ps,pK l ps=some x -> (ps.map λp=>p.2.length).sum=(eU l x).len:=by
  intro ps h;rw[acV l ps x h];unfold eU
  match hm:s8 l x with
  |[q]=>simp[gf.len]
  |[]=>rfl
  |_::_::_=>rfl
 cases C with
 |one p=>have:=key [p] h;simpa [gf.len]using this
 | eX ps=>
  simp only[l7]at h;cases hb:Nat.beq ps.length 1 with
  |true=>simp_all
  |false=>rw[hb]at h;exact key ps h
section
variable {P:Program} {w w':World} {w0:Wd} {B N:Nat} {aj aD:bI} {ρ ρ':Nat->Loc} {σ:S} {a:Act} {X:Type} {d:Nat} {r:X} {o:Oper} {Φ:ez} {Λ:mM}
def D7(l ro:aa (Bool×TC×Nat))(outs:aa In)(C:gf):ah (iV ro×qM l):=
 match l7 ro C,qW l outs with
 |some x,some y=>some (x,y)
 |_,_=>none
def NU{f:Nat}{fn:Func}{code:Code}{ps:aa PK}{ro:aa (Bool×TC×Nat)}{F:lF ps->ah (iV ro×qM (eG ps))}(I:P.funcs[f]?=some fn)(hb:fn.body=some code)(O:fn.ntmps=N)(T:(fn.name == "runtime.NumGoroutine")=false)(U:Nat.ble ps.length N=true)(Y:Nat.ble N 20000=true)(Z:mc ro=true)
  (dS:fL P Φ) (tG:oU P N Λ (occs code)) (hF:∀x,BM P N Φ Λ code fn.results (ny ps x) (ku ps 0 x) (D7 (eG ps) ro)=F x):enters P f/\uP P f ⟨ps,ro,F⟩:=by
 refine⟨⟨fn,I,T,by rw[hb];rfl⟩,λx y h nm w aj ρ bT hE nW D hv hQ=>?_⟩
 have h:F x=some y:=h;rw[<-hF x]at h;have hlen:∀ (ps:aa PK) (i:Nat) (x:lF ps),(ku ps i x).length=ps.length:=by
  intro ps
  induction ps with
  |nil=>intro i x;rfl
  | cons p ps E=>
   intro i x;cases p with
   |v=>exact bx (· + 1) (E _ _)
   |p=>exact bx (· + 1) (E _ _)
   |s=>exact bx (· + 1) (E _ _)
 have D:bT.size=(ku ps 0 x).length:=by rw[hlen];exact D
 refine(fnM_core I hb O (cK Y) (by rw[hlen];exact cK U) dS tG h nm w aj ρ bT hE nW D hv hQ).mono λe w' qI=>?_
 obtain⟨v,aD,outs,res,C,he,rU,hl,kr,T8⟩:=qI;unfold D7 at C;split at C
 next y1 y2 L h2=>injection C with C;subst C;refine⟨v,aD,he,rU,hl,acS Z L kr,?_⟩;rw[<-aqB L];exact qL.typed _ _ _ _ _ T8 (NT ps x outs y2 h2)
 ·cases C
end
set_option maxRecDepth 100000
def NV(σ:S)(C:Array ResultVar):ah Int:=
 match C.toList with
 | [.tmp t]=>(match σ.t t with
  | .aO r 0=>(match σ.m r with
   |some (.aC [.own [n],.v (.int .i64 z),.v (.int .i64 h)])=>bif Nat.beq n 20000&&z==0 then some h else none
   |_=>none)
  |_=>none)
 |_=>none
def acW(P:Program)(N:Nat)(Φ:ez)(Λ:mM)(code:Code)(C:Array ResultVar)(l:aa (T .u8)):ah Int:=
 lI P N Φ Λ code (wN [.sl (.sl .u8 0 false l)] [.mut 0 0]) λe σ=>match zI e with
  |some 0=>NV σ C
  |some 1=>NV σ C
  |_=>none
section
variable {P:Program} {w w':World} {w0:Wd} {B N:Nat} {aj aD:bI} {ρ ρ':Nat->Loc} {σ:S} {a:Act} {X:Type} {d:Nat} {r:X} {o:Oper} {Φ:ez} {Λ:mM}
def aqC{f:Nat}{fn:Func}{code:Code}{F:aa Int->ah Int}(hf:P.funcs[f]?=some fn)(hb:fn.body=some code)(hN:fn.ntmps=N)(BJ:(fn.name == "runtime.NumGoroutine")=false)(hN1:Nat.ble 1 N=true)(D6:Nat.ble N 20000=true)
  (dS:fL P Φ) (tG:oU P N Λ (occs code)) (hF:∀l,acW P N Φ Λ code fn.results l=F l):enters P f/\M5 P f F:=by
 refine⟨⟨fn,hf,BJ,by rw[hb];rfl⟩,λw l h v hh hv hQ=>?_⟩
 rw[<-hF l]at hh;unfold acW at hh;have hN1:=cK hN1;have D6:=cK D6;let W:Wd:=⟨w,λ_=>none,λr=>if 20000<=r/\r<60000 then some (.dH v)else none,hQ,λr E=>bO⟩
 refine calls_of_wp hf hb ?_;have hR:R W N (wN [.sl (.sl .u8 0 false l)] [.mut 0 0]) { tmps:=#[v]++Array.replicate (fn.ntmps-(#[v]:Array Value).size) undef,defers:=[] } w:=by
  refine⟨λ_=>none,λ_=>.dH v,.of (Below.refl w.heap.size w) (dJ _),(λb k hb=>by cases hb),λn y L=>?_,λj=>?_,by simp[hN];omega,rfl,λr l E=>?_,λr E=>?_⟩
  ·have L:bW (λ_=>none) (nF 0) (some (.sl (.sl .u8 0 false l))) n=some y:=L;by_cases Y:n=nF 0
   ·subst Y;rw[bZ]at L;injection L with L;subst L;exact .sl v _ rfl (hv.key rfl)
   ·rw[cH _ _ _ Y]at L;cases L
  ·cases j with
   | zero=>
    have e:(#[v]++Array.replicate (fn.ntmps-(#[v]:Array Value).size) undef).getD 0 undef=v:=by
     rw[iE,Array.getElem?_append_left (by simp)];rfl
    show RA w w.heap.size _ _ (.lf (.own [nF 0])) ((#[v]++Array.replicate (fn.ntmps-(#[v]:Array Value).size) undef).getD 0 undef);rw[e];exact⟨hv.mD rfl rfl,rfl⟩
   |succ j=>exact trivial
  ·have E:(if 20000<=r/\r<60000 then some (Loc.dH v)else none)=some l:=E;split at E
   ·injection E
   ·cases E
  ·show (if 20000<=r/\r<60000 then some (Loc.dH v)else none)=none;rw[bO]
 refine wp_mono (D1 (w0:=W) dS code _ _ hh tG _ w hR) λe Z w' I=>?_
 obtain⟨cY,O,DC,DA,D⟩:=I;have fin:NV cY fn.results=some h->Z.defers=[]/\∃ u,(results fn Z.tmps).run P w' = .ok u w'/\∃ b off cells t,Ending.returned u = .returned (.pointer (some ⟨b,off,none⟩))/\Below w.heap.size w w'/\w.heap.size<=b/\w'.heap[b]?=some (.cells cells t (0,0))/\cells[off]?=some v/\cells[off+1]?=some (.int .i64 0)/\cells[off+2]?=some (.int .i64 h):=by
  intro C;unfold NV at C;split at C
  ·rename_i t ht;split at C
   ·rename_i r E;split at C
    ·rename_i n z h' hm;cases hb:(Nat.beq n 20000&&z==0)with
     |false=>rw[hb]at C;cases C
     | true=>
      rw[hb,aq]at C;injection C with C;subst C;rw[aQ]at hb;have Y:=cB hb.1;have hz:z=0:=by simpa using hb.2
      subst Y hz;have h1:=D.tmp t;rw[E]at h1;obtain⟨b,off,e1,e2⟩:=h1;have h2:=D.root r _ hm;generalize T:aV.aC _=x at h2;cases h2 with
      |sl=>cases T
      |mp=>cases T
      |gh=>cases T
      | aC b' A0 cells e cs us cO hl Dw hs hc=>
       injection T with T;subst T;rw[cO]at e1;injection e1 with e3 e4;subst e3 e4;obtain⟨c0,U⟩:=hc 0 _ rfl;obtain⟨c1,d1⟩:=hc 1 _ rfl;obtain⟨c2,d2⟩:=hc 2 _ rfl;have U:=U.2;have VS:=D.fix 20000 (.dH v) rfl;simp only[cU,VS]at U;injection U with U;rw[<-U]at c0;rw[d1.2.gU]at c1;rw[d2.2.gU]at c2
       refine⟨D.defers,_,?_,b',A0,cells,e,rfl,⟨D.below.os,D.below.tape,D.below.output,D.below.size,λk O=>D.below.block k O rfl⟩,?_,Dw,c0,c1,c2⟩
       ·have kr:results fn Z.tmps=(do let vs <-fn.results.mapM (qK Z.tmps);pure (if h:vs.size=1 then vs[0]else .tuple vs)):=by
         unfold results;congr 1
        have pS:fn.results = #[.tmp t]:=by apply Array.ext';exact ht
        rw[kr,pS,Array.mapM_eq_mapM_toList];simp[qK,e2]
       ·have:=(D.cV b' _ hl).1;exact this.resolve_right (λh=>h rfl)
    ·cases C
   ·cases C
  ·cases C
 split at O
 next I=>have I:=sg I;subst I;exact fin O
 next I=>have I:=sg I;subst I;exact fin O
 ·cases O
end
def nV(i j:Nat):Nat:=20001+1000*i+j
def D8(i j:Nat)(x:V):Lf:=match x with
 |.sl ..=>.own [nV i j]
 |x=>.v x
def xe(i:Nat):Nat->aa V->aa Lf
 |_,[]=>[]
 |j,x::xs=>D8 i j x::xe i (j+1) xs
def VT(args:aa Pt)(n:Nat):ah aV:=bif Nat.ble 20001 n&&Nat.blt n 60000 then (match args[(n-20001) / 1000]? with
 | some (_,xs)=>(match xs[(n-20001) % 1000]? with
  |some (.sl t g q l)=>some (.sl (.sl t g q l))
  |_=>none)
 |none=>none)else none
def acX(args:aa Pt):S:=⟨λi=>match args[i]? with
 |some (false,[x])=>.lf (D8 i 0 x)
 |some (true,xs)=>.agg (xe i 0 xs)
 |_=>.undef,VT args⟩
def NW(σ:S)(C:Array ResultVar)(a j:Nat)(t:TC):ah (Nat×Nat):=match C.toList with
 | [.tmp s]=>(match σ.t s with
  |.view [n] D i k=>bif Nat.beq n (nV a j)&&Nat.beq D (aG t)then some (i,k)else none
  |_=>none)
 |_=>none
def acY(P:Program)(N:Nat)(Φ:ez)(Λ:mM)(code:Code)(C:Array ResultVar)(a j:Nat)(t:TC)(args:aa Pt):ah (Nat×Nat):=
 lI P N Φ Λ code (acX args) λe σ=>match zI e with
  |some 0=>NW σ C a j t
  |some 1=>NW σ C a j t
  |_=>none
def VU(ai:aa (Bool×TC))(a j:Nat)(t:TC)(F:kO ai->ah (Nat×Nat)):Bo:=⟨a,j,t,λargs=>match xd ai args with
 |some x=>F x
 |none=>none⟩
section
variable {P:Program} {w w':World} {w0:Wd} {B N:Nat} {aj aD:bI} {ρ ρ':Nat->Loc} {σ:S} {a:Act} {X:Type} {d:Nat} {r:X} {o:Oper} {Φ:ez} {Λ:mM}
def acZ(i:Nat):∀ (xs:aa V) (C j:Nat),(xe i C xs)[j]?=(xs[j]?).map λx=>D8 i (C+j) x
 |[],C,j=>by simp[xe]
 |x::xs,C,0=>by simp[xe]
 | x :: xs,C,j+1=>by
  simp[xe,List.getElem?_cons_succ,acZ]
  grind
def ac0(i:Nat):∀ (xs:aa V) (C:Nat),(xe i C xs).length=xs.length
 |[],_=>rfl
 |x::xs,C=>by simp[xe,ac0 i xs (C+1)]
def ac1{i j:Nat}(h:j<1000):(nV i j-20001) / 1000=i/\(nV i j-20001) % 1000=j:=by
 unfold nV;omega
def zK(bT:Array Value)(n:Nat):Loc:=.dH ((tw bT ((n-20001) / 1000) ((n-20001) % 1000)).getD undef)
def ac2{bT:Array Value}{i j:Nat}{x:V}{u:Value}(D:j<1000)(E:tw bT i j=some u)(I:x.aI=true)(C:RV w B (λ_=>none) [] x u):dR w B (λ_=>none) (zK bT) (D8 i j x) u:=by
 unfold D8;split
 ·refine⟨C.mD rfl rfl,?_⟩;obtain⟨L,O⟩:=ac1 (i:=i) D;simp only[cU,zK,L,O,E];rfl
 ·exact⟨I,C⟩
def aqD{f:Nat}{fn:Func}{code:Code}{ai:aa (Bool×TC)}{L O:Nat}{t:TC}{F:kO ai -> ah (Nat×Nat)}(hf:P.funcs[f]?=some fn)(hb:fn.body=some code)(hN:fn.ntmps=N)(BJ:(fn.name == "runtime.NumGoroutine")=false)(VP:Nat.ble ai.length N=true)(D6:Nat.ble N 20000=true)(iN:(ai.all λp=>Nat.blt (aG p.2) 1000&&(p.1 || Nat.beq (aG p.2) 1))=true)(hjj:Nat.blt O 1000=true)(haa:Nat.blt L 30=true)
  (dS:fL P Φ) (tG:oU P N Λ (occs code)) (hF:∀x,acY P N Φ Λ code fn.results L O t (gH ai x)=F x):enters P f/\M6 P f (VU ai L O t F):=by
 refine⟨⟨fn,hf,BJ,by rw[hb];rfl⟩,λargs p h w bT oQ hQ=>?_⟩
 simp only[VU]at h;split at h
 ·rename_i x hx;obtain⟨k1,k2⟩:=VL ai args x hx;have hlen:∀ (l:aa (Bool×TC)) (x:kO l),(gH l x).length=l.length:=by
   intro l
   induction l with
   |nil=>intro x;rfl
   |cons p l ih=>obtain⟨b,t⟩:=p;intro x;simp[gH,ih]
  have lC:bT.size=ai.length:=by rw[oQ.1,<- k1,hlen]
  have hle:bT.size <= N:=by rw[lC];exact cK VP
  have D6:=cK D6;have pS:∀ (l:aa (Bool×TC)) (x:kO l),(l.all λp=>Nat.blt (aG p.2) 1000&&(p.1 || Nat.beq (aG p.2) 1))=true -> ∀ (j:Nat) p,(gH l x)[j]?=some p -> (∀ y∈p.2,y.aI=true)/\p.2.length<1000/\(p.1=true \/ p.2.length=1):=by
   intro l
   induction l with
   |nil=>intro x _ j p T;simp[gH]at T
   | cons c l ih=>
    obtain⟨b,t⟩:=c;intro x hs j p T;rw[List.all_cons,aQ]at hs;cases j with
    | zero=>
     simp[gH]at T;subst T
     refine⟨λy C=>?_,?_⟩
     ·obtain⟨i,hi⟩:=List.mem_iff_getElem?.1 C;exact pE t 0 x.1 (by omega) i y hi
     ·show (enc t 0 x.1).length<1000/\(b=true \/ (enc t 0 x.1).length=1);rw[kL];have h8:=hs.1;rw[aQ,eA]at h8;have h9:=cK h8.1;exact⟨h9,h8.2.imp id cB⟩
    |succ j=>exact ih x.2 hs.2 j p (by simpa [gH]using T)
  have qB:∀ (i:Nat) (p:Pt),(gH ai x)[i]?=some p -> ∃ u:Value,bT[i]?=some u/\PV w w.heap.size (λ_=>none) (λ_=>[]) p u/\(∀ y∈p.2,y.aI=true)/\p.2.length<1000:=by
   intro i p T;obtain⟨q,hq,Dp,A9⟩:=k2 i p T;obtain⟨u,U,uT⟩:=oQ.2 i q hq;obtain⟨g1,g2,g3⟩:=pS ai x iN i p T;refine⟨u,U,?_,g1,g2⟩;obtain⟨b,ys⟩:=p;obtain⟨b',xs⟩:=q;simp only at Dp;subst Dp;have hw:=uT.th A9;rcases g3 with g3|g3
   ·simp only at g3;subst g3;exact hw.pvS
   ·obtain⟨y,rfl⟩:=List.length_eq_one_iff.1 g3;cases b' with
    |true=>exact hw.pvS
    |false=>exact hw.pv
  have VV:∀ (i:Nat) (p:Pt),(gH ai x)[i]?=some p -> ∀ (j:Nat) y,p.2[j]?=some y -> ∃ u,tw bT i j=some u/\RV w w.heap.size (λ_=>none) [] y u/\y.aI=true/\j<1000:=by
   intro i p T j y C;obtain⟨u,U,⟨us,D,h2,h3⟩,h4,h5⟩:=qB i p T;obtain⟨v,E,I⟩:=h3 j y C;refine⟨v,?_,I,h4 y (gX C),by have:=(dQ.1 C).1;omega⟩;unfold tw;rw[U];obtain⟨b,ys⟩:=p;cases b with
   | true=>
    have D:u = .agg us:=D;subst D;exact E
   | false=>
    have D:us = #[u]:=D;subst D;have hj:j=0:=by
     have:=(iO.1 E).1
     simpa using this
    subst hj;have:u=v:=by simpa using E
    subst this;have Bz:∀ us,u ≠ .agg us:=by
     rintro us rfl;cases I
    cases u<;>first|exact absurd rfl (Bz _)|rfl
  let W:Wd:=⟨w,λ_=>none,λr=>if 20000 <= r/\r<60000 then some (zK bT r)else none,hQ,λr I=>bO⟩
  refine calls_of_wp hf hb ?_;rw[<- hF x]at h;unfold acY at h;have hR:R W N (acX (gH ai x)) { tmps:=bT++Array.replicate (fn.ntmps-bT.size) undef,defers:=[] } w:=by
   refine⟨λ_=>none,zK bT,.of (Below.refl w.heap.size w) (dJ _),(λb k hk=>by cases hk),(λn y C=>?_),λi=>?_,by simp[hN];omega,rfl,λr l I=>?_,λr I=>?_⟩
   ·have C:VT (gH ai x) n=some y:=C;unfold VT at C;cases hb:(Nat.ble 20001 n&&Nat.blt n 60000)with
    |false=>rw[hb]at C;cases C
    | true=>
     rw[hb,aq]at C;split at C
     ·rename_i b xs T;split at C
      next t' g q l hl=>injection C with C;subst C;obtain⟨u,U,I,rR,_⟩:=VV _ _ T _ _ hl;refine .sl u _ ?_ (I.key rR);unfold zK;simp[*]
      ·cases C
     ·cases C
   ·show RA w w.heap.size _ _ (match (gH ai x)[i]? with | some (false,[x])=>A.lf (D8 i 0 x) | some (true,xs)=>.agg (xe i 0 xs) | _=>.undef) _;have De:∀ p:Pt,(gH ai x)[i]?=some p -> ∃ u:Value,bT[i]?=some u/\(bT++Array.replicate (fn.ntmps-bT.size) undef).getD i undef=u:=by
     intro p T;obtain⟨u,U,_⟩:=qB i p T;have hi:=(iO.1 U).1;exact⟨u,U,by rw[iE,Array.getElem?_append_left hi,U];rfl⟩
    split
    ·rename_i x' l5;obtain⟨u,U,e⟩:=De _ l5;rw[e];obtain⟨v,E,I,rR,_⟩:=VV i _ l5 0 x' rfl;have GK:u=v:=by
      unfold tw at E;rw[U]at E;obtain⟨u2,qG,⟨us,D,h2,h3⟩,_⟩:=qB i _ l5;rw[U]at qG;injection qG with qG;subst qG;have D:us = #[u]:=D;subst D;obtain⟨v3,hv3,hr3⟩:=h3 0 x' rfl;have:u=v3:=by simpa using hv3
      subst this;have Bz:∀ us,u ≠ .agg us:=by
       rintro us rfl;cases hr3
      cases u<;>first|exact absurd rfl (Bz _)|(simp only[show Nat.beq 0 0=true from rfl,aq,iQ]at E;exact E)
     subst GK;exact ac2 (by omega) E rR I
    ·rename_i xs l5;obtain⟨u,U,e⟩:=De _ l5;rw[e];obtain⟨u2,qG,⟨us,D,h2,h3⟩,_⟩:=qB i _ l5;rw[U]at qG;injection qG with qG;subst qG;have D:u = .agg us:=D
     refine⟨us,D,by rw[ac0];exact h2,λj y C=>?_⟩
     rw[acZ]at C;cases hz:xs[j]? with
     |none=>rw[hz]at C;cases C
     | some z=>
      rw[hz]at C;injection C with C;subst C;obtain⟨v,E,I,rR,hj⟩:=VV i _ l5 j z hz;have huj:us[j]?=some v:=by
       unfold tw at E;rw[U,D]at E;exact E
      refine⟨v,huj,?_⟩;rw[fh];exact ac2 hj E rR I
    ·trivial
   ·have I:(if 20000 <= r/\r<60000 then some (zK bT r)else none)=some l:=I;split at I
    ·injection I
    ·cases I
   ·show (if 20000 <= r/\r<60000 then some (zK bT r)else none)=none;rw[bO]
  refine wp_mono (D1 (w0:=W) dS code _ _ h tG _ w hR) λe a' w' he=>?_
  obtain⟨cY,hk,DC,DA,dX⟩:=he;have fin:NW cY fn.results L O t=some p -> a'.defers=[] /\ ∃ u,(results fn a'.tmps).run P w' = .ok u w' /\ ∃ A n cap,tw bT L O=some (.slice A n cap)/\p.1 <= p.2/\p.2 <= n/\Ending.returned u = .returned (sliced A p.1 p.2 cap (aG t))/\Below w.heap.size w w':=by
   intro Z;unfold NW at Z;split at Z
   ·rename_i s hs;split at Z
    ·rename_i n sz i k E;cases gT:(Nat.beq n (nV L O)&&Nat.beq sz (aG t))with
     |false=>rw[gT]at Z;cases Z
     | true=>
      rw[gT,aq]at Z;injection Z with Z;subst Z;rw[aQ]at gT;have hn:=cB gT.1;have aqE:=cB gT.2;subst hn aqE;have D:=dX.tmp s;rw[E]at D;obtain⟨A,m,c,Y,e2,e3,e4⟩:=D;have hjj:=cK hjj;have Bz:20000 <= nV L O:=by unfold nV;omega
      by_cases dW:nV L O<60000
      ·have VS:=dX.fix (nV L O) (zK bT (nV L O)) (bN ⟨Bz,dW⟩);have Y:(match DA (nV L O)with | .dH v=>some v | _=>none)=some (Value.slice A m c):=Y;rw[VS]at Y;obtain⟨d1,d2⟩:=ac1 (i:=L) (j:=O) (by omega);have Y:some ((tw bT ((nV L O-20001) / 1000) ((nV L O-20001) % 1000)).getD undef)=some (Value.slice A m c):=Y;rw[d1,d2]at Y;injection Y with Y
       refine⟨dX.defers,_,?_,A,m,c,?_,e2,e3,bx Ending.returned e4,⟨dX.below.os,dX.below.tape,dX.below.output,dX.below.size,λk hk=>dX.below.block k hk rfl⟩⟩
       ·have kr:results fn a'.tmps=(do let vs <- fn.results.mapM (qK a'.tmps);pure (if h:vs.size=1 then vs[0]else .tuple vs)):=by
         unfold results;congr 1
        have pS:fn.results = #[.tmp s]:=by apply Array.ext';exact hs
        rw[kr,pS];simp[qK]
       ·cases hl:tw bT L O with
        |none=>rw[hl]at Y;cases Y
        |some u=>rw[hl]at Y;exact bx some Y
      ·exfalso;have:=cK haa;unfold nV at dW;omega
    ·cases Z
   ·cases Z
  split at hk
  next he=>have he:=sg he;subst he;exact fin hk
  next he=>have he:=sg he;subst he;exact fin hk
  ·cases hk
 ·cases h
end
def Wd.pin(d:Wd)(g:Nat)(l:ah Loc)(D:20000<=g):Wd:=⟨d.w,d.L,λr=>if r=g then l else d.F r,d.held,λr C=>by
 show (if r=g then l else d.F r)=none;rw[bO];exact d.low r C⟩
def BN(g:Nat):aa (Bool×aa Lf)->A
 |[(false,[x])]=>.lf (x.drop g)
 |[(true,cs)]=>.agg (cs.map (Lf.drop g))
 |[(false,_)]=>.undef
 |ps=>.eX (ps.map λp=>(p.1,p.2.map (Lf.drop g)))
def BO{X:Type}(P:Program)(g:Nat)(D:Array ResultVar)(C:S)(k:S->A->ah X):ah X:=
 rY P C D.toList λps=>match C.m g with
  |some (.gh ys)=>k ⟨λj=>((ys.map (A.drop g))[j]?).getD .undef,(C.drop g).m⟩ (BN g ps)
  |_=>none
def ac3(g N:Nat)(σ:S)(xs:aa A):S:=⟨λj=>((xs.map (A.drop g))[j]?).getD .undef,bW (σ.drop g).m g (some (.gh ((List.range N).map λj=>(σ.t j).drop g)))⟩
def noB:mM:=λ_=>none
def HM{X:Type}(P:Program)(M g:Nat)(Φ:ez)(code:Code)(C:Array ResultVar)(N:Nat)(σ:S)(xs:aa A)(k:S->A->ah X):ah X:=
 bif Nat.ble xs.length M then lI P M Φ noB code (ac3 g N σ xs) λe D=>match zI e with
  |some 0=>BO P g C D k
  |some 1=>BO P g C D k
  |_=>none
 else none
def ac4(P:Program)(M g:Nat)(Φ:ez)(code:Code)(C:Array ResultVar):tA:=⟨λX N σ xs k=>HM P M g Φ code C N σ xs k⟩
section
variable {P:Program} {w w':World} {w0:Wd} {B M N g:Nat} {aj aD:bI} {ρ ρ':Nat->Loc} {σ:S} {a:Act} {X:Type} {d:Nat} {r:X} {o:Oper} {Φ:ez} {Λ:mM}
def VW{C:ah Tmp}{D:Bool}:cI λX k=>r5 (X:=X) σ C D k:=λX Y k g=>by
 unfold r5
 repeat' first|rfl|refine dc ?_ ?_|split
def aqF{ops:Array Oper}{L i:Nat}:cI λX k=>Ho (X:=X) P N Φ ops L i σ o k:=λX Y k g=>by
 unfold Ho;split
 ·refine(UK _ _ _ _).trans (bx _ (funext λv=>?_))
  exact dc (wS _ _ _ _) rfl
 ·exact wS _ _ _ _
 ·rfl
def VX(D:fL P Φ){ops:Array Oper}:∀ (f L:Nat) (σ:S),cI λX k=>qQ (X:=X) P N Φ ops f L σ k
 | 0,L,σ=>λX Y k g=>by
  unfold qQ;split<;>rfl
 | f+1,L,σ=>λX Y k g=>by
  have st:∀E o O,cI λX k=>dw (X:=X) P N Φ ops σ o λI=>r5 I o.dst O λC=>qQ P N Φ ops f E C k:=λE o O=>(abS D).comp λI=>VW.comp λC=>VX D f E C
  unfold qQ
  repeat' first
   |rfl
   |exact st _ _ _ _ _ _ _
   |exact(aqF.comp λI=>VW.comp λC=>VX D f _ C) X Y k g
   |split
def aqG{t:TypeId}{x lo hi C:A}{X Y:Type}(k:ah X)(g:X->ah Y):(DR P σ t x lo hi C k).bind g=DR P σ t x lo hi C (k.bind g):=by
 unfold DR
 repeat' first
  |rfl
  |refine(wR _ _ _ _ _).trans (bx _ (funext λy=>?_))
  |split
def aqH(C:fL P Φ):cI λX k=>Hh (X:=X) P N Φ σ o k:=λX Y k g=>by
 unfold Hh
 repeat' first
  |exact abP C _ _ _ _
  |exact ao3 _ _ _ _
  |exact(aqG _ _).trans (bx _ (dc rfl rfl))
  |split
def VY(C:fL P Φ){ops:Array Oper}:∀ (rest:aa Oper) (j:Nat) (σ:S),cI λX k=>Bu (X:=X) P N Φ ops j rest σ k
 |[],j,σ=>λ_ _ _ _=>rfl
 | o :: rest,j,σ=>λX Y k g=>by
  unfold Bu;split
  ·exact((aqH C).comp λD=>VW.comp λE=>VY C rest _ E) X Y k g
  ·exact(wS.comp λD=>VY C rest _ D) X Y k g
  ·rfl
def ac5(E:fL P Φ):∀ (c:Code) (σ:S),DP λX k=>lI (X:=X) P N Φ noB c σ k:=by
 intro c
 induction c with
 | region id ops draw=>
  intro σ X Y k g;cases draw with
  |true=>exact dc (VX E _ _ _ _ _ _ _) rfl
  |false=>exact VY E _ _ _ _ _ _ _
 | seq x y C D=>
  intro σ X Y k g
  refine(C σ _ _ _ _).trans (bx _ (funext λe=>funext λI=>?_))
  cases e with
  |normal=>exact D I _ _ _ _
  |_=>rfl
 | cond c x y C D=>
  intro σ X Y k g;simp only[lI];split
  ·exact dc (C σ _ _ _ _) (D σ _ _ _ _)
  ·rfl
 | block id c L=>
  intro σ X Y k g
  refine(L σ _ _ _ _).trans (bx _ (funext λe=>funext λI=>?_))
  cases e with
  | exit O=>
   simp only;split<;>rfl
  |_=>rfl
 |_=>intro σ X Y k g;rfl
def NX:∀ (l:aa ResultVar),cI λX k=>rY (X:=X) P σ l k
 |[]=>λ_ _ _ _=>rfl
 | .tmp t :: rest=>λX Y k g=>by
  simp only[rY];split
  ·exact NX rest _ _ _ _
  ·rfl
 | .cell c ty :: rest=>λX Y k g=>by
  simp only[rY]
  refine(abd _ _ _ _).trans (bx _ (funext λy=>?_))
  split
  ·exact NX rest _ _ _ _
  ·rfl
def ac6{C:Array ResultVar}:DP λX k=>BO (X:=X) P g C σ k:=λX Y k f=>by
 unfold BO
 refine(NX _ _ _ _ _).trans (bx _ (funext λps=>?_))
 split<;>rfl
def aqI(C:fL P Φ){code:Code}{D:Array ResultVar}{xs:aa A}:DP λX k=>HM (X:=X) P M g Φ code D N σ xs k:=λX Y k f=>by
 unfold HM
 refine dc ((ac5 C _ _ _ _ _ _).trans (bx _ (funext λe=>funext λE=>?_))) rfl
 split
 ·exact ac6 _ _ _ _
 ·exact ac6 _ _ _ _
 ·rfl
def aqJ{D:Array ResultVar}{E:S}{y:A}(h:BO P g D σ (λσ y=>some (σ,y))=some (E,y)):∃ ys ps,σ.m g=some (.gh ys)/\rY P σ D.toList some=some ps/\⟨λj=>((ys.map (A.drop g))[j]?).getD .undef,(σ.drop g).m⟩=E/\BN g ps=y:=by
 unfold BO at h;obtain⟨ps,C,I⟩:=(NX _).lZ h;split at C
 next ys L=>injection C with C;injection C with O T;exact⟨ys,ps,L,I.at_ _,O,T⟩
 ·cases C
def List.ac7(xs:aa A)(g j:Nat):((xs.map (A.drop g))[j]?).getD .undef=A.drop g ((xs[j]?).getD .undef):=by
 rw[eJ];cases xs[j]?<;>rfl
def RP.BN{ps:aa (Bool×aa Lf)}{C:aa Value}(I:∀ r,r≠g->ρ' r=ρ r)(hl:C.length=ps.length)(h:∀ (i:Nat) p v,ps[i]?=some p->C[i]?=some v->RP w B aj ρ p v):
  RA w B aj ρ' (BN g ps) (if h:C.toArray.size=1 then C.toArray[0]else .tuple C.toArray):=by
 have eX:ps.length≠1->RA w B aj ρ' (.eX (ps.map λp=>(p.1,p.2.map (Lf.drop g)))) (if h:C.toArray.size=1 then C.toArray[0]else .tuple C.toArray):=by
  intro O;rw[dif_neg (by simpa [hl]using O)]
  refine⟨C.toArray,rfl,by simpa using hl,λj p D=>?_⟩
  rw[eJ]at D;cases E:ps[j]? with
  |none=>rw[E]at D;cases D
  | some q=>
   rw[E]at D;injection D with D;subst D;have L:j<C.length:=by rw[hl];exact(dQ.1 E).1
   exact⟨C[j],by simp[L],(h j q C[j] E (bS L)).eY I⟩
 unfold Proofs.YtglnbhiaknohlaaGreat.BN;split
 ·rename_i x
  match C,hl,h with
  | [v],_,h=>
   have:=h 0 _ v rfl rfl;obtain⟨u,T,U⟩:=this.2 0 x rfl;have:v=u:=by simpa using T
   subst this;exact U.eY I
 ·rename_i cs
  match C,hl,h with
  |[v],_,h=>exact RP.eY I (p:=(true,cs)) (h 0 _ v rfl rfl)
 ·trivial
 ·rename_i h1 Y Z
  refine eX λe=>?_
  obtain⟨⟨b,cs⟩,rfl⟩:=List.length_eq_one_iff.1 e;cases b with
  |true=>exact Y cs rfl
  |false=>exact Z cs rfl
def aqK{f:Nat}{fn:Func}{code:Code}(hf:P.funcs[f]?=some fn)(hb:fn.body=some code)(hN:fn.ntmps=M)(hM:M<=20000)(BJ:(fn.name == "runtime.NumGoroutine")=false)(hg:20000<=g/\g<60000)(dS:fL P Φ):
  enters P f/\pP P f (ac4 P M g Φ code fn.results):=by
 refine⟨⟨fn,hf,BJ,by rw[hb];rfl⟩,λN σ xs=>aqI dS,λN σ xs τ0 y0 h w0 aj ρ a w bT hR iN hv=>?_⟩
 have h:HM P M g Φ code fn.results N σ xs _=_:=h;unfold HM at h;cases hl:Nat.ble xs.length M with
 |false=>rw[hl]at h;cases h
 | true=>
  rw[hl,aq]at h;have Bb:=cK hl;obtain⟨e,τ,Z,h2⟩:=(ac5 dS _ _).lZ h;have h3:(e = .normal\/e = .ret)/\BO P g fn.results τ (λσ y=>some (σ,y))=some (τ0,y0):=by
   split at Z
   next T=>exact⟨.inl (sg T),Z⟩
   next T=>exact⟨.inr (sg T),Z⟩
   ·cases Z
  obtain⟨hex,h3⟩:=h3;obtain⟨ys,ps,hy,qJ,rfl,rfl⟩:=aqJ h3;let us:=a.tmps.toList
  let W:Wd:=w0.pin g (some (.bT us)) hg.1
  let U:=bW ρ g (.bT us)
  have cO:∀r,r≠g->U r=ρ r:=λr hr=>cH _ _ _ hr
  have mE:∀ j,us.getD j undef=a.tmps.getD j undef:=λj=>by
   show a.tmps.toList.getD j undef=_;rw[fj,Array.getElem?_toList,iE]
  have hle:bT.size<=M:=by rw[iN];exact Bb
  have r4:Rl W M aj U (ac3 g N σ xs) { tmps:=bT++Array.replicate (fn.ntmps-bT.size) undef,defers:=[] } w:=by
   refine⟨⟨hR.below.os,hR.below.tape,hR.below.output,hR.below.size,hR.below.block⟩,hR.cV,λr x C=>?_,λj=>?_,by simp[hN];omega,rfl,λr l hr=>?_,λr hr=>?_⟩
   ·have C:bW (σ.drop g).m g (some (.gh ((List.range N).map λj=>(σ.t j).drop g))) r=some x:=C;by_cases D:r=g
    ·subst D;rw[bZ]at C;injection C with C;subst C
     refine .gh us _ (bZ _ _ _) λj x I=>?_
     rw[eJ]at I;cases hr:(List.range N)[j]? with
     |none=>rw[hr]at I;cases I
     | some j'=>
      rw[hr]at I;injection I with I;obtain⟨dW,rM⟩:=dQ.1 hr;rw[jM]at rM;subst rM I;rw[mE];exact(hR.tmp j).eY cO
    ·rw[cH _ _ _ D]at C;have C:(bif Nat.beq r g then none else (σ.m r).map (aV.drop g))=some x:=C;cases hb:Nat.beq r g with
     |true=>rw[hb]at C;cases C
     | false=>
      rw[hb,au]at C;cases hm:σ.m r with
      |none=>rw[hm]at C;cases C
      | some y=>
       rw[hm]at C;injection C with C;subst C;exact(hR.root r y hm).eY cO D
   ·show RA w w0.heap.size aj U (((xs.map (A.drop g))[j]?).getD .undef) _;rw[List.ac7];by_cases I:j<bT.size
    ·have e1:(bT++Array.replicate (fn.ntmps-bT.size) undef).getD j undef=bT.getD j undef:=by
      rw[iE,Array.getElem?_append_left I,iE]
     show RA w w0.heap.size aj U _ ((bT++Array.replicate (fn.ntmps-bT.size) undef).getD j undef);rw[e1];exact(hv j).eY cO
    ·rw[List.getElem?_eq_none (by omega:xs.length<=j)];trivial
   ·have hr:(if r=g then some (Loc.bT us)else w0.F r)=some l:=hr;by_cases D:r=g
    ·rw[bN D]at hr;injection hr with hr;rw[D,<-hr];exact bZ _ _ _
    ·rw[bO D]at hr;rw[cO r D];exact hR.fix r l hr
   ·show (if r=g then some (Loc.bT us)else w0.F r)=none;rw[bO];rcases hr with hr | hr
    ·exact w0.low r (by omega)
    ·exact hR.dm r (.inr hr)
  refine calls_of_wp hf hb ?_
  refine wp_mono (D1 (w0:=W) dS code _ (λe τ=>some (e,τ)) (h2 _ _) (λp hp b hb=>by cases hb) _ w ⟨aj,U,r4⟩) λe' L w' T=>?_
  obtain⟨cY,oN,aD,ρ',E⟩:=T;injection oN with oN;injection oN with k1 k2;subst k1 k2;have GV:ρ' g = .bT us:=E.fix g _ (bN rfl);let eZ:=bW ρ' g ((w0.F g).getD (.aC 0 0))
  have DI:∀r,r≠g->eZ r=ρ' r:=λr hr=>cH _ _ _ hr
  obtain⟨GX,VZ,kj⟩:=GL (w0:=W) (N:=M) _ _ qJ;injection VZ with VZ;subst VZ;obtain⟨Y,eO,hlen,l6⟩:=kj aD ρ' L w' E;have aqL:(fn.results.mapM (qK L.tmps)).run P w' = .ok Y.toArray w':=by
   rw[Array.mapM_eq_mapM_toList];simp[eO]
  have kr:results fn L.tmps=(do let Y <-fn.results.mapM (qK L.tmps);pure (if h:Y.size=1 then Y[0]else .tuple Y)):=by
   unfold results;congr 1
  have hRf:Rl w0 N aD eZ ⟨λj=>((ys.map (A.drop g))[j]?).getD .undef,(cY.drop g).m⟩ a w':=by
   refine⟨⟨E.below.os,E.below.tape,E.below.output,E.below.size,E.below.block⟩,E.cV,λr x C=>?_,λj=>?_,hR.size,hR.defers,λr l hr=>?_,hR.dm⟩
   ·have C:(bif Nat.beq r g then none else (cY.m r).map (aV.drop g))=some x:=C;cases hb:Nat.beq r g with
    |true=>rw[hb]at C;cases C
    | false=>
     have D:r≠g:=by rintro rfl;simp at hb
     rw[hb,au]at C;cases hm:cY.m r with
     |none=>rw[hm]at C;cases C
     | some y=>
      rw[hm]at C;injection C with C;subst C;exact(E.root r y hm).eY DI D
   ·show RA w' w0.heap.size aD eZ (((ys.map (A.drop g))[j]?).getD .undef) _;rw[List.ac7];cases hyj:ys[j]? with
    |none=>trivial
    | some y=>
     have fF:=E.root g _ hy;generalize O:aV.gh ys=z at fF;cases fF with
     |aC=>cases O
     |sl=>cases O
     |mp=>cases O
     | gh Mr xs' wQ V0=>
      injection O with O;subst O;rw[GV]at wQ;injection wQ with wQ;subst wQ;have:=V0 j y hyj;rw[mE]at this;exact this.eY DI
   ·by_cases D:r=g
    ·subst D;show bW ρ' r ((w0.F r).getD (.aC 0 0)) r=l;rw[bZ,hr];rfl
    ·rw[DI r D];exact E.fix r l ((bO D).trans hr)
  have fin:L.defers=[]/\∃ v,(results fn L.tmps).run P w' = .ok v w'/\∃ zJ aD ρ',Ending.returned v=Ending.returned zJ/\Rl w0 N aD ρ' ⟨λj=>((ys.map (A.drop g))[j]?).getD .undef,(cY.drop g).m⟩ a w'/\RA w' w0.heap.size aD ρ' (BN g GX) zJ:=
   ⟨E.defers,_,by rw[kr,gk,aqL,mz,Sem.run_pure],_,aD,eZ,rfl,hRf,RP.BN DI hlen l6⟩
  rcases hex with rfl|rfl
  ·exact fin
  ·exact fin
end
def tJ:Nat:=1000000000
def stays(n:Nat):Bool:=Nat.ble 20000 (n % tJ)
def aqM:60000<=tJ:=cK rfl
def pV(n:Nat):Nat:=bif stays n then n else n+tJ
def zL(n:Nat):ah Nat:=bif stays n then some n else bif Nat.ble tJ n && !stays (n-tJ)then some (n-tJ)else none
def lJ:aa Nat->aa Nat
 |[]=>[]
 |[r]=>[pV r]
 |x::y::k=>x::lJ (y::k)
def Lf.up:Lf->Lf
 |.v x=>.v x
 |.own k=>.own (lJ k)
 |.dead=>.dead
def A.up:A->A
 |.undef=>.undef
 |.skip=>.skip
 |.lf x=>.lf x.up
 |.agg cs=>.agg (cs.map Lf.up)
 |.eX xs=>.eX (xs.map λp=>(p.1,p.2.map Lf.up))
 |.ptr k=>.ptr (lJ k)
 |.aO r j=>.aO (pV r) j
 |.jo cs=>.jo cs
 |.ng f cs=>.ng f cs
 |.pk r n=>.pk (pV r) n
 |.view k s i j=>.view (lJ k) s i j
 |.fn f cap=>.fn f (cap.map λp=>(pV p.1,p.2))
def aV.up:aV->aV
 |.aC cs=>.aC (cs.map Lf.up)
 |.sl y=>.sl y
 |.mp l=>.mp l
 |.gh xs=>.gh (xs.map A.up)
def S.up(σ:S):S:=⟨λk=>(σ.t k).up,λn=>match zL n with
 |some r=>(σ.m r).map aV.up
 |none=>none⟩
def upI(c:tA):tA:=⟨λX N σ xs k=>c.run X N σ.up (xs.map A.up) λC y=>k C.up y.up⟩
section
variable {P:Program} {w w':World} {w0:Wd} {B N:Nat} {aj aD:bI} {ρ ρ':Nat->Loc} {σ:S} {a:Act} {X:Type}
def aqN(r:Nat):zL (pV r)=some r:=by
 unfold zL pV;cases h:stays r with
 |true=>simp_all
 | false=>
  have C:stays (r+tJ)=false:=by
   unfold stays at h ⊢;simp_all
  have D:Nat.ble tJ (r+tJ)=true:=ja (Nat.le_add_left _ _);simp[*]
def aqO{n r:Nat}(h:zL n=some r):n=pV r:=by
 unfold zL at h;cases D:stays n with
 | true=>
  rw[D]at h;injection h with h;subst h;simp[pV,D]
 | false=>
  rw[D,au]at h;cases C:(Nat.ble tJ n && !stays (n-tJ))with
  |false=>simp_all
  | true=>
   rw[C]at h;have h:=Option.some.inj h;rw[aQ]at C;have I:=cK C.1;have E:stays r=false:=by rw[<- h];simpa using C.2
   simp[pV,E,au];omega
def mP(aj:bI):bI:=λb=>(aj b).map lJ
def ve(ρ:Nat->Loc):Nat->Loc:=λn=>match zL n with
 |some r=>ρ r
 |none=>ρ n
def BP(r:Nat):ve ρ (pV r)=ρ r:=by unfold ve;rw[aqN]
def aqP{k:aa Nat}(h:k≠[]):lJ k≠[]:=by
 match k with
 |[r]=>simp[lJ]
 |x::y::k=>simp[lJ]
def D9{x:Nat}{k:aa Nat}(h:k≠[]):lJ (x :: k)=x :: lJ k:=by
 match k with
 |[]=>exact absurd rfl h
 |y::k=>rfl
def ac8(x y:Nat)(k:aa Nat):∃ C D,lJ (x :: y :: k)=x :: C :: D:=by
 match k with
 |[]=>exact⟨_,_,rfl⟩
 |z::k=>exact⟨y,_,rfl⟩
def V1:∀ (k:aa Nat) (ad:Addr),addrAt w aj ρ k=some ad -> addrAt w (mP aj) (ve ρ) (lJ k)=some ad
 |[],_,h=>by simp[addrAt]at h
 | [j,i,s,r],ad,h=>by
  simp only[addrAt]at h;simp only[lJ,addrAt,BP];split at h
  ·rename_i b n c C;split at h
   next hl=>rw[bN (by simp[mP,hl,lJ])];exact h
   ·cases h
  ·cases h
 | j :: i :: s :: x :: y :: q,ad,h=>by
  simp only[addrAt]at h;split at h
  ·rename_i b n c C;split at h
   ·rename_i hl;cases D:addrAt w aj ρ (x :: y :: q)with
    |none=>simp_all
    | some I=>
     have E:=V1 (x::y::q) I D;have e:mP aj b=some (lJ (x::y::q)):=by simp[mP,hl]
     rw[D9 (by simp),D9 (by simp),D9 (by simp)];rw[D]at C;obtain⟨O,T,L⟩:=ac8 x y q;rw[L]at E e ⊢;simp only[addrAt,E,C,e,if_true];exact h
   ·cases h
  ·cases h
def ac9{k:aa Nat}{u:Value}(h:cU w aj ρ k=some u):cU w (mP aj) (ve ρ) (lJ k)=some u:=by
 match k with
 | [r]=>
  simp[lJ,cU,BP];exact h
 | x :: y :: k=>
  simp[cU]at h;cases C:addrAt w aj ρ _ with
  |none=>rw[C]at h;cases h
  | some ad=>
   have:=V1 _ _ C;obtain⟨E,I,D⟩:=ac8 x y k;rw[D]at this ⊢;simp[cU,this];simp_all
def V2{b:Nat}(h:aj b=none):mP aj b=none:=by simp[mP,h]
def RV.up(D:∀ b k,aj b=some k->k≠[]){k:aa Nat}{x:V}{v:Value}(h:RV w B aj k x v):RV w B (mP aj) (lJ k) x v:=
 h.map (Q:=λk C=>C=lJ k) (dJ _) (λb _ h=>⟨rfl,V2 h⟩) (λb k C _ hl e=>by
  subst e;exact⟨rfl,by simp[mP,hl],λj i s=>by rw[D9 (by simp),D9 (by simp),D9 (D b k hl)]⟩) (.inr rfl)
def dR.up(C:∀ b k,aj b=some k->k≠[]){x:Lf}{u:Value}(h:dR w B aj ρ x u):dR w B (mP aj) (ve ρ) x.up u:=by
 cases x with
 |v x=>exact⟨h.1,RV.up C h.2⟩
 |own k=>exact⟨h.1,ac9 h.2⟩
 |dead=>trivial
def eK.up(E:∀ b k,aj b=some k -> k≠[]){cs:aa Lf}{us:Array Value}(h:eK w B aj ρ cs us):eK w B (mP aj) (ve ρ) (cs.map Lf.up) us:=by
 refine⟨by rw[eM];exact h.1,λj x C=>?_⟩
 rw[eJ]at C;cases D:cs[j]? with
 |none=>simp_all
 | some z=>
  rw[D]at C;injection C with C;subst C;obtain⟨u,I,L⟩:=h.2 j z D;exact⟨u,I,L.up E⟩
def RP.up(C:∀ b k,aj b=some k->k≠[]){p:Bool×aa Lf}{u:Value}(h:RP w B aj ρ p u):RP w B (mP aj) (ve ρ) (p.1,p.2.map Lf.up) u:=by
 obtain⟨b,cs⟩:=p;cases b with
 | true=>
  obtain⟨us,rfl,h⟩:=h;exact⟨us,rfl,eK.up C h⟩
 |false=>exact eK.up C h
def RA.up(I:∀ b k,aj b=some k -> k≠[]){x:A}{u:Value}(h:RA w B aj ρ x u):RA w B (mP aj) (ve ρ) x.up u:=by
 cases x with
 |undef=>trivial
 |skip=>exact h
 |lf x=>exact dR.up I h
 |agg cs=>exact RP.up I (p:=(true,cs)) h
 | eX xs=>
  obtain⟨us,rfl,D,E⟩:=h
  refine⟨us,rfl,by rw[eM];exact D,λj p C=>?_⟩
  rw[eJ]at C;cases L:xs[j]? with
  |none=>simp_all
  | some z=>
   rw[L]at C;injection C with C;subst C;obtain⟨v,O,T⟩:=E j z L;exact⟨v,O,T.up I⟩
 | ptr k=>
  obtain⟨ad,rfl,h⟩:=h;exact⟨ad,rfl,V1 _ _ h⟩
 | aO r j=>
  obtain⟨b,off,D,E⟩:=h;exact⟨b,off,(BP r).trans D,E⟩
 | jo cs=>
  obtain⟨b,off,U,Y,Z,g4⟩:=h
  refine⟨b,off,U,Y,V2 Z,λj x hx=>?_⟩
  obtain⟨f1,v,f2,f3⟩:=g4 j x hx;exact⟨f1,v,f2,RV.up I f3⟩
 | ng f cs=>
  obtain⟨pv,e0,h⟩:=h;refine⟨pv,e0,?_⟩;obtain⟨b,off,U,Y,Z,g4⟩:=h
  refine⟨b,off,U,Y,V2 Z,λj x hx=>?_⟩
  obtain⟨f1,v,f2,f3⟩:=g4 j x hx;exact⟨f1,v,f2,RV.up I f3⟩
 | pk r n=>
  obtain⟨b,D,E⟩:=h;exact⟨b,(BP r).trans D,E⟩
 | view k s i j=>
  obtain⟨A,n,c,D,E⟩:=h;exact⟨A,n,c,ac9 D,E⟩
 | fn f cap=>
  obtain⟨vs,rfl,D,E⟩:=h
  refine⟨vs,rfl,by rw[eM];exact D,λj p C=>?_⟩
  rw[eJ]at C;cases L:cap[j]? with
  |none=>simp_all
  | some z=>
   rw[L]at C;injection C with C;subst C;obtain⟨b,off,O,T⟩:=E j z L;exact⟨b,off,(BP _).trans O,T⟩
def ei.up(T:∀ b k,aj b=some k -> k≠[]){r:Nat}{x:aV}(h:ei w B aj ρ r x):ei w B (mP aj) (ve ρ) (pV r) x.up:=by
 have O:=BP (ρ:=ρ) r;have hl:∀{b},aj b=some [r] -> mP aj b=some [pV r]:=λh=>by simp[mP,h,lJ]
 cases h with
 | aC b off cells e cs us C I U Z Y=>
  refine .aC b off cells e _ us (O.trans C) (hl I) U (by rw[eM];exact Z) λj x D=>?_
  rw[eJ]at D;cases E:cs[j]? with
  |none=>simp_all
  | some z=>
   rw[E]at D;injection D with D;subst D;exact⟨(Y j z E).1,(Y j z E).2.up T⟩
 |sl v y C I=>exact .sl v y (O.trans C) (RV.up T I)
 |mp b c es l C I U he=>exact .mp b c es l (O.trans C) (hl I) U he
 | gh us xs C D=>
  refine .gh us _ (O.trans C) λj x L=>?_
  rw[eJ]at L;cases E:xs[j]? with
  |none=>simp_all
  | some z=>
   rw[E]at L;injection L with L;subst L;exact RA.up T (D j z E)
def Rl.up(h:Rl w0 N aj ρ σ a w):Rl w0 N (mP aj) (ve ρ) σ.up a w:=by
 have O:=λb k D=>(h.cV b k D).2.2
 refine⟨h.below,λb k D=>?_,λn x C=>?_,λk=>RA.up O (h.tmp k),h.size,h.defers,λr l E=>?_,h.dm⟩
 ·unfold mP at D;cases hl:aj b with
  |none=>simp_all
  | some q=>
   rw[hl]at D;injection D with D;obtain⟨I,L,U⟩:=h.cV b q hl;exact⟨I,L,by rw[<- D];exact aqP U⟩
 ·have C:(match zL n with | some r=>(σ.m r).map _ | none=>none)=some x:=C;cases T:zL n with
  |none=>simp_all
  | some r=>
   rw[T]at C;have C:(σ.m r).map _=some x:=C;cases hm:σ.m r with
   |none=>simp_all
   | some y=>
    rw[hm]at C;injection C with C;subst C;rw[aqO T];exact(h.root r y hm).up O
 ·have Y:stays r=true:=by
   have I:20000 <= r:=Nat.le_of_not_lt λZ=>by rw[w0.low r Z]at E;cases E
   have L:r<60000:=Nat.lt_of_not_le λhle=>by rw[h.dm r (.inr hle)]at E;cases E
   unfold stays;rw[Nat.mod_eq_of_lt (Nat.lt_of_lt_of_le L aqM)];exact ja I
  have hu:pV r=r:=by simp[pV,Y]
  have:=BP (ρ:=ρ) r;rw[hu]at this;rw[this];exact h.fix r l E
def aqQ{f:Nat}{c:tA}(h:pP P f c):pP P f (upI c):=by
 refine⟨λN σ xs X Y k g=>h.1 N σ.up (xs.map A.up) X Y _ g,λN σ xs τ z I w0 aj ρ a w bT hR L O=>?_⟩
 obtain⟨T,y,C,U⟩:=(h.1 N σ.up (xs.map A.up)).lZ I;injection C with C;injection C with Z h5;subst Z h5;have h3:=h.2 N σ.up (xs.map A.up) T y (U _ _);have cL:∀b k,aj b=some k->k≠[]:=λb k D=>(hR.cV b k D).2.2
 refine(h3 w0 _ _ a w bT hR.up (by rw[eM];exact L) λi=>?_).mono λe w' hp=>?_
 ·rw[eJ];have:=O i;cases hx:xs[i]? with
  |none=>trivial
  | some x=>
   rw[hx]at this;exact RA.up cL this
 ·obtain⟨v,aD,ρ',he,E,hy⟩:=hp;exact⟨v,_,_,he,E.up,RA.up (λb k D=>(E.cV b k D).2.2) hy⟩
end
def aS:Nat:=4611686018427387904
def sj(c:Code)(id:Nat):Code:=match (occs c).lookup id with
 |some (.loop b)=>b
 |_=>.skip
def bw(fn:Func):Code:=fn.body.getD .skip
def me(l:aa (Nat×pQ)):ez:=λf=>l.lookup f
def BQ(P:Program):aa (Nat×pQ)->Prop
 |[]=>True
 |(f,c)::l=>(enters P f/\Uu P f c)/\BQ P l
def tK{P:Program}:∀ (l:aa (Nat×pQ)),BQ P l -> fL P (me l)
 |[],_=>λf c h=>by cases h
 | (E,I) :: l,⟨L,D⟩=>λf c h=>by
  have C:List.lookup f _=some c:=h;rw[List.lookup_cons]at C;split at C
  ·simp_all
  ·exact tK l D f c C
def jV(l:aa (Nat×r7)):mM:=λid=>l.lookup id
def V3(P:Program)(N:Nat)(code:Code):aa (Nat×r7)->Prop
 |[]=>True
 |(id,b)::l=>(∃c,(occs code).lookup id=some c/\Bw P N (.block id c) b)/\V3 P N code l
def ids(l:aa (Nat×Code)):Bool:=(l.map (·.1)).all λi=>Nat.beq ((l.filter λp=>Nat.beq p.1 i).length) 1
def ada:∀ (l:aa (Nat×Code)) (p:Nat×Code),(∀ q∈l,q.1=p.1 -> q=p) -> p∈l -> l.lookup p.1=some p.2
 |[],p,_,h=>by cases h
 | q :: l,p,C,h=>by
  rw[List.lookup_cons];by_cases D:p.1=q.1
  ·simp_all
  ·have hb:(p.1==q.1)=false:=by simpa using D
   rw[hb];rcases gJ.1 h with rfl|h
   ·simp_all
   ·exact ada l p (λq E=>C q (.tail _ E)) h
def aqR{l:aa (Nat×Code)}(h:ids l=true){p q:Nat×Code}(D:p∈l)(E:q∈l)(I:q.1=p.1):q=p:=by
 have C:=cv.1 h p.1 (List.mem_map_of_mem D);have C:=cB C;have L:p∈l.filter λr=>Nat.beq r.1 p.1:=List.mem_filter.2 ⟨D,by simp⟩
 have O:q∈l.filter λr=>Nat.beq r.1 p.1:=List.mem_filter.2 ⟨E,by simp[I]⟩
 obtain⟨z,T⟩:=List.length_eq_one_iff.1 C
 grind
def V4{P:Program}{N:Nat}{code:Code}(hi:ids (occs code)=true):∀ (l:aa (Nat×r7)),V3 P N code l -> oU P N (jV l) (occs code)
 |[],_=>λp D b h=>by cases h
 | (id,O) :: l,⟨⟨c,T,U⟩,I⟩=>λp D b h=>by
  have C:List.lookup p.1 _=some b:=h;rw[List.lookup_cons]at C;split at C
  ·rename_i E;have E:p.1=id:=by simpa using E
   injection C with C;subst C;have:=ada _ p (λq L e=>aqR hi D L e) D;simp_all
  ·exact V4 hi l I p D b C
def qX{P:Program}{N:Nat}{l:aa (Nat×Code)}:oU P N (jV []) l:=λp C b h=>by cases h
def ci(P:Program)(fn:Func)(C:Nat)(l:aa (Nat×pQ)):tA:=ac4 P fn.ntmps (59000+C) (me l) (bw fn) fn.results
def Ea{P:Program}{f:Nat}{fn:Func}(C:Nat)(l:aa (Nat×pQ))(D:P.funcs[f]?=some fn)(hl:BQ P l)(hb:fn.body=some (bw fn):=by kernel_rfl)(E:Nat.ble fn.ntmps 20000=true:=by kernel_rfl)(I:Nat.ble C 900=true:=by kernel_rfl)(L:(fn.name == "runtime.NumGoroutine")=false:=by kernel_rfl):enters P f/\pP P f (ci P fn C l):=
 aqK D hb rfl (cK E) L ⟨by omega,by have:=cK I;omega⟩ (tK l hl)
def cj(P:Program)(fn:Func)(C:Nat)(l:aa (Nat×pQ)):tA:=upI (ci P fn C l)
def HN{P:Program}{f:Nat}{fn:Func}{C:Nat}{l:aa (Nat×pQ)}(h:enters P f/\pP P f (ci P fn C l)):enters P f/\pP P f (cj P fn C l):=⟨h.1,aqQ h.2⟩
def NY{P:Program}{f:Nat}{fn:Func}{ai:aa (Bool×TC)}{ro:aa (Bool×TC×Nat)}{F:kO ai->ah (iV ro)}(N:Nat)(l:aa (Nat×pQ))(b:aa (Nat×r7))(C:P.funcs[f]?=some fn)(hl:BQ P l)(D:oU P N (jV b) (occs (bw fn)))(E:∀x,pU P N (me l) (jV b) (bw fn) fn.results (gH ai x) (l7 ro)=F x)(hb:fn.body=some (bw fn):=by kernel_rfl)(I:fn.ntmps=N:=by kernel_rfl)(L:(fn.name == "runtime.NumGoroutine")=false:=by kernel_rfl)(O:Nat.ble ai.length N=true:=by kernel_rfl)(T:mc ro=true:=by kernel_rfl):enters P f/\iF P f (iI ai ro F):=aqy C hb I L O T (tK l hl) D E
def BR{P:Program}{f:Nat}{fn:Func}{t:TC}{g:Nat}{F:aa (T t)->ah (aa (T t))}(N:Nat)(l:aa (Nat×pQ))(b:aa (Nat×r7))(C:P.funcs[f]?=some fn)(hl:BQ P l)(D:oU P N (jV b) (occs (bw fn)))(E:∀ x:aa (T t),pU P N (me l) (jV b) (bw fn) fn.results [(false,[.sl t 0 false x])] (l7 [(false,.sl t,g)])=F x)
  (I:pU P N (me l) (jV b) (bw fn) fn.results [(false,[.nil])] (l7 [(false,.sl t,g)])=some ([]:aa (T t)):=by kernel_rfl) (L:pU P N (me l) (jV b) (bw fn) fn.results [(false,[.sl t 0 true []])] (l7 [(false,.sl t,g)])=some ([]:aa (T t)):=by kernel_rfl)
  (hb:fn.body=some (bw fn):=by kernel_rfl) (O:fn.ntmps=N:=by kernel_rfl) (U:(fn.name == "runtime.NumGoroutine")=false:=by kernel_rfl) (Y:Nat.ble 1 N=true:=by kernel_rfl) (Z:mc [(false,.sl t,g)]=true:=by kernel_rfl):enters P f/\iF P f (iI [(false,.sl t)] [(false,.sl t,g)] λx=>bif jP x.1 then some ([]:aa (T t))else F x.1):=aqz C hb O U Y Z (tK l hl) D E I L
def aqS{α β:Type}(a:α)(f:α->β):β:=f a
def adb{P:Program}{id:Nat}{body:Code}{C:bU}{D:aa (Nat×bU)}{F:C.St->ah (C.St⊕tF D)}{fuel:C.St->Nat}(N:Nat)(l:aa (Nat×pQ))(b:aa (Nat×r7))(hl:BQ P l)(E:oU P N (jV b) (occs body))(I:∀x,D5 P N (me l) (jV b) body C D x=F x):Bw P N (.block id (.loop body)) (NQ id C D F fuel):=aqu (tK l hl) E I
abbrev W6 (x:Int):Int:=IntKind.i64.wrap x
/-! Words for what printed functions say often. -/
def xI{α β:Type}(l:aa α)(i:Int)(k:α->ah β):ah β:=if h:0<=i/\i.toNat<l.length then (let e:=l[i.toNat]'h.2;k e)else none
def xC{α β:Type}(l:aa α)(i:Int)(k:ah β):ah β:=if h:0<=i/\i.toNat<l.length then k else none
def xM{α β:Type}(l:aa α)(i:Int)(k:α->ah β):ah β:=if h:i.toNat<l.length then (let e:=l[i.toNat]'h;k e)else none
def xL{α β:Type}(l:aa α)(i:Int)(k:α->ah β):ah β:=if h:0<=i/\i.toNat<l.length then (if h:i.toNat<l.length then (let e:=l[i.toNat]'h;k e)else none)else none
def xZ{α:Type}(l:aa α):Bool:=bF (([]:aa α).length+l.length)
def xA{α:Type}(l:aa α):aa α:=([]:aa α)++l
def bA{S A C:Type}(L:S->ah (S⊕(A⊕Empty)))(s:S)(f:A->ah C):ah C:=(iter L aS s).bind (Sum.elim f (λz=>nomatch z))
def bM{S A B C:Type}(L:S->ah (S⊕(A⊕(B⊕Empty))))(s:S)(f:A->ah C)(g:B->ah C):ah C:=(iter L aS s).bind (Sum.elim f (Sum.elim g (λz=>nomatch z)))
def xG{S E:Type}(s:S):ah (S⊕E):=some (.inl s)
def az{S A E:Type}(v:A):ah (S⊕(A⊕E)):=some (.inr (.inl v))
def aT{S A B E:Type}(v:B):ah (S⊕(A⊕(B⊕E))):=some (.inr (.inr (.inl v)))
abbrev tI:Tm:=.lf (.int .i64)
abbrev tB:Tm:=.lf (.bool)
structure KC (P:Program) where
 f:Nat
 c:pQ
 ok:enters P f/\Uu P f c
def KL{P:Program}(l:aa (KC P)):aa (Nat×pQ):=l.map λk=>(k.f,k.c)
def tL{P:Program}:∀ l:aa (KC P),BQ P (KL l)
 |[]=>trivial
 |k::l=>⟨k.ok,tL l⟩
structure BK (P:Program) (N:Nat) (code:Code) where
 id:Nat
 b:r7
 ok:Bw P N (.block id (.loop (sj code id))) b
section
variable {P:Program} {f N:Nat} {fn:Func} {code:Code}
def BL(l:aa (BK P N code)):aa (Nat×r7):=l.map λk=>(k.id,k.b)
def BC(l:aa (BK P N code)):aa (ah Code):=l.map λk=>(occs code).lookup k.id
def BD(l:aa (BK P N code)):aa (ah Code):=l.map λk=>some (.loop (sj code k.id))
def ade:∀ l:aa (BK P N code),BC l=BD l -> V3 P N code (BL l)
 |[],_=>trivial
 | k :: l,h=>by
  unfold BC BD at h;injection h with C D;exact⟨⟨_,C,k.ok⟩,ade l D⟩
def BT(l:aa (BK P N code))(C:BC l=BD l)(hi:ids (occs code)=true):oU P N (jV (BL l)) (occs code):=V4 hi _ (ade l C)
def lB(id:Nat)(C:bU)(D:aa (Nat×bU))(F:C.St->ah (C.St⊕tF D)):r7:=NQ id C D F λ_=>aS
def lp{body:Code}{id:Nat}{C:bU}{D:aa (Nat×bU)}{F:C.St->ah (C.St⊕tF D)}(l:aa (KC P))(E:∀x,D5 P N (me (KL l)) (jV []) body C D x=F x:=by intro x;kernel_rfl):Bw P N (.block id (.loop body)) (lB id C D F):=adb N (KL l) [] (tL l) qX E
def lq{id:Nat}{C:bU}{D:aa (Nat×bU)}{F:C.St->ah (C.St⊕tF D)}(l:aa (KC P))(b:aa (BK P N code))(E:BC b=BD b:=by kernel_rfl)(hi:ids (occs code)=true:=by kernel_rfl)(I:∀x,D5 P N (me (KL l)) (jV (BL b)) code C D x=F x:=by intro x;kernel_rfl):Bw P N (.block id (.loop code)) (lB id C D F):=adb N (KL l) (BL b) (tL l) (BT b E hi) I
def kp{ai:aa (Bool×TC)}{ro:aa (Bool×TC×Nat)}{F:kO ai->ah (iV ro)}(N:Nat)(l:aa (KC P))(C:P.funcs[f]?=some fn)(D:∀x,pU P N (me (KL l)) (jV []) (bw fn) fn.results (gH ai x) (l7 ro)=F x:=by intro x;kernel_rfl)(hb:fn.body=some (bw fn):=by kernel_rfl)(E:fn.ntmps=N:=by kernel_rfl)(I:(fn.name == "runtime.NumGoroutine")=false:=by kernel_rfl)(L:Nat.ble ai.length N=true:=by kernel_rfl)(O:mc ro=true:=by kernel_rfl):enters P f/\iF P f (iI ai ro F):=NY N (KL l) [] C (tL l) qX D hb E I L O
def kq{ai:aa (Bool×TC)}{ro:aa (Bool×TC×Nat)}{F:kO ai->ah (iV ro)}(N:Nat)(l:aa (KC P))(b:aa (BK P N (bw fn)))(C:P.funcs[f]?=some fn)(D:BC b=BD b:=by kernel_rfl)(hi:ids (occs (bw fn))=true:=by kernel_rfl)(E:∀x,pU P N (me (KL l)) (jV (BL b)) (bw fn) fn.results (gH ai x) (l7 ro)=F x:=by intro x;kernel_rfl)(hb:fn.body=some (bw fn):=by kernel_rfl)(I:fn.ntmps=N:=by kernel_rfl)(L:(fn.name == "runtime.NumGoroutine")=false:=by kernel_rfl)(O:Nat.ble ai.length N=true:=by kernel_rfl)(T:mc ro=true:=by kernel_rfl):enters P f/\iF P f (iI ai ro F):=NY N (KL l) (BL b) C (tL l) (BT b D hi) E hb I L O T
def km{ps:aa PK}{ro:aa (Bool×TC×Nat)}{F:lF ps->ah (iV ro×qM (eG ps))}(N:Nat)(l:aa (KC P))(C:P.funcs[f]?=some fn)(D:∀x,BM P N (me (KL l)) (jV []) (bw fn) fn.results (ny ps x) (ku ps 0 x) (D7 (eG ps) ro)=F x:=by intro x;kernel_rfl)(hb:fn.body=some (bw fn):=by kernel_rfl)(E:fn.ntmps=N:=by kernel_rfl)(I:(fn.name == "runtime.NumGoroutine")=false:=by kernel_rfl)(L:Nat.ble ps.length N=true:=by kernel_rfl)(O:Nat.ble N 20000=true:=by kernel_rfl)(T:mc ro=true:=by kernel_rfl):enters P f/\uP P f ⟨ps,ro,F⟩:=NU C hb E I L O T (tK _ (tL l)) qX D
def kn{ps:aa PK}{ro:aa (Bool×TC×Nat)}{F:lF ps->ah (iV ro×qM (eG ps))}(N:Nat)(l:aa (KC P))(b:aa (BK P N (bw fn)))(C:P.funcs[f]?=some fn)(D:BC b=BD b:=by kernel_rfl)(hi:ids (occs (bw fn))=true:=by kernel_rfl)(E:∀x,BM P N (me (KL l)) (jV (BL b)) (bw fn) fn.results (ny ps x) (ku ps 0 x) (D7 (eG ps) ro)=F x:=by intro x;kernel_rfl)(hb:fn.body=some (bw fn):=by kernel_rfl)(I:fn.ntmps=N:=by kernel_rfl)(L:(fn.name == "runtime.NumGoroutine")=false:=by kernel_rfl)(O:Nat.ble ps.length N=true:=by kernel_rfl)(T:Nat.ble N 20000=true:=by kernel_rfl)(U:mc ro=true:=by kernel_rfl):enters P f/\uP P f ⟨ps,ro,F⟩:=NU C hb I L O T U (tK _ (tL l)) (BT b D hi) E
def bD(ai:aa (Bool×TC))(ro:aa (Bool×TC×Nat))(F:kO ai->ah (iV ro))(N:Nat)(l:aa (KC P))(C:P.funcs[f]?=some fn)(D:∀x,pU P N (me (KL l)) (jV []) (bw fn) fn.results (gH ai x) (l7 ro)=F x:=by intro x;kernel_rfl)(hb:fn.body=some (bw fn):=by kernel_rfl)(E:fn.ntmps=N:=by kernel_rfl)(I:(fn.name == "runtime.NumGoroutine")=false:=by kernel_rfl)(L:Nat.ble ai.length N=true:=by kernel_rfl)(O:mc ro=true:=by kernel_rfl):KC P:=⟨f,.p (iI ai ro F),NY N (KL l) [] C (tL l) qX D hb E I L O⟩
def cu(ai:aa (Bool×TC))(ro:aa (Bool×TC×Nat))(F:kO ai->ah (iV ro))(N:Nat)(l:aa (KC P))(b:aa (BK P N (bw fn)))(C:P.funcs[f]?=some fn)(D:BC b=BD b:=by kernel_rfl)(hi:ids (occs (bw fn))=true:=by kernel_rfl)(E:∀x,pU P N (me (KL l)) (jV (BL b)) (bw fn) fn.results (gH ai x) (l7 ro)=F x:=by intro x;kernel_rfl)(hb:fn.body=some (bw fn):=by kernel_rfl)(I:fn.ntmps=N:=by kernel_rfl)(L:(fn.name == "runtime.NumGoroutine")=false:=by kernel_rfl)(O:Nat.ble ai.length N=true:=by kernel_rfl)(T:mc ro=true:=by kernel_rfl):KC P:=⟨f,.p (iI ai ro F),NY N (KL l) (BL b) C (tL l) (BT b D hi) E hb I L O T⟩
def gV(ps:aa PK)(ro:aa (Bool×TC×Nat))(F:lF ps->ah (iV ro×qM (eG ps)))(N:Nat)(l:aa (KC P))(C:P.funcs[f]?=some fn)(D:∀x,BM P N (me (KL l)) (jV []) (bw fn) fn.results (ny ps x) (ku ps 0 x) (D7 (eG ps) ro)=F x:=by intro x;kernel_rfl)(hb:fn.body=some (bw fn):=by kernel_rfl)(E:fn.ntmps=N:=by kernel_rfl)(I:(fn.name == "runtime.NumGoroutine")=false:=by kernel_rfl)(L:Nat.ble ps.length N=true:=by kernel_rfl)(O:Nat.ble N 20000=true:=by kernel_rfl)(T:mc ro=true:=by kernel_rfl):KC P:=⟨f,.m ⟨ps,ro,F⟩,NU C hb E I L O T (tK _ (tL l)) qX D⟩
def n6(ps:aa PK)(ro:aa (Bool×TC×Nat))(F:lF ps->ah (iV ro×qM (eG ps)))(N:Nat)(l:aa (KC P))(b:aa (BK P N (bw fn)))(C:P.funcs[f]?=some fn)(D:BC b=BD b:=by kernel_rfl)(hi:ids (occs (bw fn))=true:=by kernel_rfl)(E:∀x,BM P N (me (KL l)) (jV (BL b)) (bw fn) fn.results (ny ps x) (ku ps 0 x) (D7 (eG ps) ro)=F x:=by intro x;kernel_rfl)(hb:fn.body=some (bw fn):=by kernel_rfl)(I:fn.ntmps=N:=by kernel_rfl)(L:(fn.name == "runtime.NumGoroutine")=false:=by kernel_rfl)(O:Nat.ble ps.length N=true:=by kernel_rfl)(T:Nat.ble N 20000=true:=by kernel_rfl)(U:mc ro=true:=by kernel_rfl):KC P:=⟨f,.m ⟨ps,ro,F⟩,NU C hb I L O T U (tK _ (tL l)) (BT b D hi) E⟩
def V5{A R:Type}(F:R)(_:A):R:=F
def bP{A Z R:Type}(F:A->R)(x:A×Z):R:=F x.1
def bV{A B Z R:Type}(F:A->B->R)(x:A×B×Z):R:=F x.1 x.2.1
def gA{A B C Z R:Type}(F:A->B->C->R)(x:A×B×C×Z):R:=F x.1 x.2.1 x.2.2.1
def oY{A B C D Z R:Type}(F:A->B->C->D->R)(x:A×B×C×D×Z):R:=F x.1 x.2.1 x.2.2.1 x.2.2.2.1
def NZ{A B C D E Z R:Type}(F:A->B->C->D->E->R)(x:A×B×C×D×E×Z):R:=F x.1 x.2.1 x.2.2.1 x.2.2.2.1 x.2.2.2.2.1
end
end Go.Proofs.YtglnbhiaknohlaaGreat
