/-
  Running the program over pure contents, and that it follows (part Z). Nothing here is a claim.
-/
import Derived.Test.YtnilicojgkhpnaaGreatV4
set_option linter.unusedSimpArgs false
namespace Go.Proofs.YtnilicojgkhpnaaGreat
set_option linter.defProp false
open Go.RowKit
set_option linter.unusedVariables false
section
variable {P:Program} {w w':World} {w0:Wd} {B N:Nat} {aj aD:bM} {ρ ρ':Nat->Loc} {σ:S} {a:Act} {X:Type} {d:Nat} {r:X} {o:Oper} {Φ:eX} {Λ:ot}
def asz{E:ah Tmp}{g:Bool}{k:S -> ah X}(h:tj σ E g k=some r):∃ C,k C=some r /\ ∀ a w,R w0 N σ a w -> R w0 N C a w:=by
 unfold tj at h;cases g with
 |false=>grind
 | true=>
  rw[au]at h;split at h
  ·rename_i d;split at h
   ·rename_i b hb;have key:∀ c:Bool,b=c -> ∀ a w,R w0 N σ a w -> R w0 N (σ.set d (.lf (.v (.bool c)))) a w:=by
     rintro c rfl a w ⟨aj,ρ,hR⟩
     refine⟨aj,ρ,hR.below,hR.dD,hR.root,λk=>?_,hR.size,hR.defers,hR.fix,hR.dN⟩
     show RA w w0.heap.size aj ρ (ck σ.t d (.lf (.v (.bool b))) k) _;by_cases D:k=d
     ·subst D;rw[cu,<- hb];exact hR.tmp k
     ·rw[cU _ _ _ D];exact hR.tmp k
    grind
   ·grind
  ·grind
def Qv(U:gu P Φ)(ops:Array Oper):∀ (rest:aa Oper) (j:Nat) (σ:S) (k:S -> ah X),C1 P N Φ ops j rest σ k=some r -> ∃ dz,k dz=some r /\ ∀ a w,R w0 N σ a w -> ∀ Q,(∀ E w',R w0 N dz E w' -> Q Exit.normal E w') -> wpList P ops Q rest a w
 |[],j,σ,k,h=>⟨σ,h,λa w hR Q D=>D a w hR⟩
 | o :: rest,j,σ,k,h=>by
  unfold C1 at h;split at h
  ·rename_i Y;obtain⟨qN,h1,wD⟩:=ary U h;obtain⟨σ2,h2,vS⟩:=asz h1;obtain⟨L,O,T⟩:=Qv U ops rest (j+1) σ2 k h2
   refine⟨L,O,λa w hR Q D=>?_⟩
   obtain⟨aj,ρ,C⟩:=hR;simp only[wpList,FN Y C,if_true];exact .inl (wD a w _ Q ⟨aj,ρ,C⟩ λE w' wu=>T E w' (vS E w' wu) Q D)
  ·rename_i Y;unfold iH at h;split at h
   ·rename_i Z;obtain⟨L,O,T⟩:=Qv U ops rest _ σ k h
    refine⟨L,O,λa w hR Q D=>?_⟩
    obtain⟨aj,ρ,C⟩:=hR;simp[wpList,FN Y C,Z];exact T a w ⟨aj,ρ,C⟩ Q D
   ·rename_i d Z;cases hN:Nat.blt d N with
    |false=>simp_all
    | true=>
     rw[hN,au]at h;obtain⟨L,O,T⟩:=Qv U ops rest (j+1) _ k h
     refine⟨L,O,λa w hR Q D=>?_⟩
     obtain⟨aj,ρ,C⟩:=hR;simp only[wpList,FN Y C,Z];exact T _ w ⟨aj,ρ,C.set rfl (by have:=cX hN;omega)⟩ Q D
  ·cases h
def J1(eP:gu P Φ):∀ (c:Code) (σ:S) (k:Exit->S->ah X),mN P N Φ Λ c σ k=some r->qQ P N Λ (occs c)->AW P w0 N c σ λe D=>k e D=some r:=by
 intro c
 induction c with
 |skip=>exact λσ k h _ a w hR=>wp_skip ⟨σ,h,hR⟩
 |label l=>exact λσ k h _ a w hR=>wp_label ⟨σ,h,hR⟩
 |ret=>exact λσ k h _ a w hR=>wp_ret ⟨σ,h,hR⟩
 |exit id=>exact λσ k h _ a w hR=>wp_exit ⟨σ,h,hR⟩
 | region id ops draw=>
  intro σ k h _ a w hR;cases draw with
  | true=>
   simp only[mN]at h;cases hm:P.follows .mixedOrders with
   |false=>rw[hm]at h;cases h
   | true=>
    rw[hm,au]at h
    haveI:Inhabited Wd:=⟨w0⟩
    exact asy eP hm h (λτ iS a w hR=>⟨τ,iS,hR⟩) hR
  | false=>
   simp only[mN]at h;obtain⟨D,h',hw⟩:=Qv (w0:=w0) eP ops _ _ _ _ h;exact wp_region_list (hw a w hR _ λT w' C=>⟨D,h',C⟩)
 | seq x y U Y=>
  intro σ k h L a w hR;simp only[mN]at h;have Z:=U σ _ h (λp E=>L p (List.mem_append_left _ E))
  refine wp_seq (wp_mono (Z a w hR) λe T w' he=>?_)
  obtain⟨D,O,C⟩:=he;cases e with
  |normal=>exact Y D k O (λp E=>L p (List.mem_append_right _ E)) T w' C
  |_=>exact⟨D,O,C⟩
 | cond c x y U Y=>
  intro σ k h L a w hR;simp only[mN]at h;split at h
  ·rename_i b hb;obtain⟨aj,ρ,C⟩:=hR;have hc:=C.aP c;rw[hb]at hc;have hcv:=hc.2.zZ;cases b with
   |true=>exact wp_cond_true hcv (U σ k h (λp E=>L p (List.mem_append_left _ E)) a w ⟨aj,ρ,C⟩)
   |false=>exact wp_cond_false hcv (Y σ k h (λp E=>L p (List.mem_append_right _ E)) a w ⟨aj,ρ,C⟩)
  ·cases h
 | block id c ih=>
  intro σ k h L a w hR;simp only[mN]at h;split at h
  next b hb=>exact L (id,c) (.head _) b hb X σ k r w0 h a w hR
  ·have Z:=ih σ _ h (λp E=>L p (.tail _ E))
   refine wp_block (wp_mono (Z a w hR) λe T w' he=>?_)
   obtain⟨D,O,C⟩:=he;cases e with
   | exit id'=>
    simp only[Exit.inBlock];by_cases hid:id'=id
    ·simp only[hid,if_true]at O ⊢;exact⟨D,O,C⟩
    ·simp only[hid,if_false]at O ⊢;exact⟨D,O,C⟩
   |_=>exact⟨D,O,C⟩
 |_=>exact λσ k h=>by simp[mN]at h
end
/-! What a loop carries. -/
inductive Lm where
 |int (k:IntKind)
 |bool
 |str
 |own (r:Nat)
 |aF (t:TC) (o:Nat)
def Lm.T:Lm->Type
 |.int _=>Int
 |.bool=>Bool
 |.str=>ByteArray
 |.own _=>af
 |.aF t _=>aa (Proofs.YtnilicojgkhpnaaGreat.T t)
def Lm.mk:(m:Lm)->m.T->Lf
 |.int k,n=>.v (.int k n)
 |.bool,b=>.v (.bool b)
 |.str,s=>.v (.str s)
 |.own r,_=>.own [r]
 |.aF t o,l=>.v (.sl t o false l)
def Lm.rd:(m:Lm)->Lf->ah m.T
 |.int k,.v (.int C n)=>if C=k then some n else none
 |.bool,.v (.bool b)=>some b
 |.str,.v (.str s)=>some s
 |.own r,.own [D]=>bif Nat.beq D r then some ()else none
 |.aF t o,.v x=>bif Nat.blt o 2 then x.fP t o else none
 |_,_=>none
inductive Tm where
 |lf (m:Lm)
 |aG (r j:Nat)
 |fp (t:TC) (o:Nat)
 |fc (f:Nat) (t:TC)
 |ag (t:TC)
 |pk (r n:Nat)
def Tm.T:Tm->Type
 |.lf m=>m.T
 |.aG _ _=>af
 |.fp t _=>Proofs.YtnilicojgkhpnaaGreat.T t
 |.fc _ t=>Proofs.YtnilicojgkhpnaaGreat.T t
 |.ag t=>Proofs.YtnilicojgkhpnaaGreat.T t
 |.pk _ _=>af
def Tm.mk:(m:Tm)->m.T->A
 |.lf m,x=>.lf (m.mk x)
 |.aG r j,_=>.aG r j
 |.fp t o,x=>.jy (enc t o x)
 |.fc f t,x=>.n8 f (enc t 0 x)
 |.ag t,x=>.agg ((enc t 0 x).map .v)
 |.pk r n,_=>.pk r n
def Tm.rd:(m:Tm)->A->ah m.T
 |.lf m,.lf x=>m.rd x
 |.aG r j,.aG C D=>bif Nat.beq C r&&Nat.beq D j then some ()else none
 |.fp t o,.jy cs=>bif Nat.blt o 2 then dec t o cs else none
 |.fc f t,.n8 E cs=>bif Nat.beq E f then dec t 0 cs else none
 | .ag t,.agg cs=>(match v5 cs with
  |some L=>dec t 0 L
  |none=>none)
 |.pk r n,.pk C O=>bif Nat.beq C r&&Nat.beq O n then some ()else none
 |_,_=>none
def J2:aa Lm->Type
 |[]=>af
 |m::C=>m.T×J2 C
def yu:(C:aa Lm)->J2 C->aa Lf
 |[],_=>[]
 |m::C,x=>m.mk x.1::yu C x.2
def Qx:(C:aa Lm)->aa Lf->ah (J2 C)
 |[],[]=>some ()
 | m :: C,x :: xs=>match m.rd x,Qx C xs with
  |some y,some ys=>some (y,ys)
  |_,_=>none
 |_,_=>none
inductive Rm where
 |sl (t:TC) (o:Nat)
 |st (t:TC)
 |aB (ms:List Lm)
 |mp
def Rm.T:Rm->Type
 |.sl t _=>aa (Proofs.YtnilicojgkhpnaaGreat.T t)
 |.st t=>Proofs.YtnilicojgkhpnaaGreat.T t
 |.aB C=>J2 C
 |.mp=>aa (Int×Bool)
def Rm.mk:(m:Rm)->m.T->bu
 |.sl t o,l=>.sl (.sl t o false l)
 |.st t,x=>.aB ((enc t 0 x).map .v)
 |.aB C,x=>.aB (yu C x)
 |.mp,l=>.mp l
def Rm.rd:(m:Rm)->bu->ah m.T
 |.sl t o,.sl y=>y.fP t o
 | .st t,.aB cs=>(match v5 cs with
  |some C=>dec t 0 C
  |none=>none)
 |.aB D,.aB cs=>Qx D cs
 |.mp,.mp l=>some l
 |_,_=>none
def FO:aa (Nat×Tm)->Type
 |[]=>af
 |(_,m)::C=>m.T×FO C
def yw:(C:aa (Nat×Tm))->FO C->Nat->A
 |[],_,_=>.undef
 |(n,m)::C,x,k=>bif Nat.beq k n then m.mk x.1 else yw C x.2 k
def J3:(C:aa (Nat×Tm))->(Nat->A)->ah (FO C)
 |[],_=>some ()
 | (n,m) :: C,t=>match m.rd (t n),J3 C t with
  |some x,some xs=>some (x,xs)
  |_,_=>none
def yx:aa (Nat×Rm)->Type
 |[]=>af
 |(_,m)::C=>m.T×yx C
def yz:(C:aa (Nat×Rm))->yx C->Nat->ah bu
 |[],_,_=>none
 |(n,m)::C,x,k=>bif Nat.beq k n then some (m.mk x.1)else yz C x.2 k
def FP:(C:aa (Nat×Rm))->(Nat->ah bu)->ah (yx C)
 |[],_=>some ()
 | (n,m) :: C,t=>match (t n).bind m.rd,FP C t with
  |some x,some xs=>some (x,xs)
  |_,_=>none
structure jR where
 ts:List (Nat×Tm)
 rs:List (Nat×Rm)
def jR.St(C:jR):Type:=FO C.ts×yx C.rs
def jR.mk'(C:jR)(x:C.St):S:=⟨yw C.ts x.1,yz C.rs x.2⟩
def jR.Qy(C:jR)(σ:S):ah C.St:=match J3 C.ts σ.t,FP C.rs σ.m with
 |some x,some y=>some (x,y)
 |_,_=>none
/-! Roots by other names. -/
abbrev Rn:=aa (Nat×Nat)
def Rn.inv(rs:Rn)(n:Nat):ah Nat:=(rs.find? λp=>Nat.beq p.2 n).map (·.1)
def Rn.add(rs:Rn)(r n:Nat):Rn:=bif rs.any (λp=>Nat.beq p.1 r&&Nat.beq p.2 n)then rs else (r,n)::rs
def Ya(n:Nat):ah Nat->Bool
 |some m=>Nat.beq m n
 |none=>false
def Rn.ok(rs:Rn):Bool:=rs.all λp=>(Nat.beq p.1 p.2 ||Nat.ble 60000 p.2)&&Ya p.2 (rs.lookup p.1)&&Ya p.1 (rs.inv p.2)
def Lf.eO(rs:Rn):Lf->Lf
 |.v x=>.v x
 | .own [r]=>(match rs.lookup r with
  |some n=>.own [n]
  |none=>.dead)
 |_=>.dead
def A.eO(rs:Rn):A->A
 |.lf x=>.lf (x.eO rs)
 | .aG r j=>(match rs.lookup r with
  |some n=>.aG n j
  |none=>.undef)
 |.jy cs=>.jy cs
 |.n8 f cs=>.n8 f cs
 |.agg cs=>.agg (cs.map (Lf.eO rs))
 |_=>.undef
def bu.eO(rs:Rn):bu->bu
 |.aB cs=>.aB (cs.map (Lf.eO rs))
 |.sl y=>.sl y
 |.mp l=>.mp l
 |.gh _=>.gh []
def S.eO(rs:Rn)(σ:S):S:=⟨λk=>(σ.t k).eO rs,λn=>match rs.inv n with
 |some r=>(σ.m r).map (bu.eO rs)
 |none=>none⟩
def rnL:Lm->Lf->Rn->Rn
 |.own n,.own [r],rs=>rs.add r n
 |_,_,rs=>rs
def Yb:aa Lm->aa Lf->Rn->Rn
 |m::C,x::xs,rs=>Yb C xs (rnL m x rs)
 |_,_,rs=>rs
def rnT:Tm->A->Rn->Rn
 |.lf m,.lf x,rs=>rnL m x rs
 |.aG n j,.aG r C,rs=>rs.add r n
 |_,_,rs=>rs
def aeW(t:Nat->A):aa (Nat×Tm)->Rn->Rn
 |[],rs=>rs
 |(k,m)::C,rs=>aeW t C (rnT m (t k) rs)
def aeX(m:Nat->ah bu):aa (Nat×Rm)->Rn->Rn
 |[],rs=>rs
 | (n,x) :: xs,rs=>aeX m xs (match x,rs.inv n with
  | .aB C,some r=>(match m r with
   |some (.aB cs)=>Yb C cs rs
   |_=>rs)
  | .aB C,none=>(match m n with
   |some (.aB cs)=>Yb C cs (rs.add n n)
   |_=>rs)
  |_,some _=>rs
  |_,none=>rs.add n n)
def jR.rn(C:jR)(σ:S):Rn:=aeX σ.m C.rs (aeW σ.t C.ts [])
def Yc(rs:aa (Nat×Rm))(p:Nat×Tm)(σ:S):S:=match p.2,σ.t p.1 with
 | .lf (.own n),.lf (.v .nil)=>(match rs.lookup n with
  |some (.sl t o)=>bif Nat.ble 60000 n then ⟨ck ((σ.drop n).root n (.sl (.sl t o false []))).t p.1 (.lf (.own [n])),((σ.drop n).root n (.sl (.sl t o false []))).m⟩else σ
  |_=>σ)
 |_,_=>σ
def Qz(rs:aa (Nat×Rm)):aa (Nat×Tm)->S->S
 |[],σ=>σ
 |p::ps,σ=>Qz rs ps (Yc rs p σ)
def Yd(n j r:Nat)(σ:S):S:=match σ.m r with
 | some (.aB cs)=>(match cs[j]? with
  |some (.v .nil)=>⟨σ.t,ck σ.m r (some (.aB (cs.set j (.own [n]))))⟩
  |_=>σ)
 |_=>σ
def Ye(rs:aa (Nat×Rm))(n j r:Nat)(σ:S):S:=match rs.lookup n with
 |some (.sl t o)=>bif Nat.ble 60000 n then Yd n j r ((σ.drop n).root n (.sl (.sl t o false [])))else σ
 |_=>σ
def Dc(rs:aa (Nat×Rm))(r:Nat):Nat->aa Lm->aa Lf->S->S
 |j,.own n::C,.v .nil::cs,σ=>Dc rs r (j+1) C cs (Ye rs n j r σ)
 |j,_::C,_::cs,σ=>Dc rs r (j+1) C cs σ
 |_,_,_,σ=>σ
def QA(rs:aa (Nat×Rm)):aa (Nat×Rm)->S->S
 |[],σ=>σ
 | (r,.aB C) :: ps,σ=>QA rs ps (match σ.m r with
  |some (.aB cs)=>Dc rs r 0 C cs σ
  |_=>σ)
 |_::ps,σ=>QA rs ps σ
def jR.rd1(C:jR)(σ:S):ah C.St:=bif (C.rn σ).ok then C.Qy (QA C.rs C.rs (σ.eO (C.rn σ)))else none
def jR.rd(C:jR)(σ:S):ah C.St:=match C.Qy σ with
 |some x=>some x
 |none=>C.rd1 (Qz C.rs C.ts σ)
section
variable {P:Program} {w w':World} {w0:Wd} {B N:Nat} {aj aD:bM} {ρ ρ':Nat->Loc} {σ:S} {a:Act} {X:Type} {d:Nat} {r:X} {o:Oper} {Φ:eX} {Λ:ot}
def Lm.qS{m:Lm}{x:Lf}{y:m.T}(h:m.rd x=some y){u:Value}(C:eE w B aj ρ x u):eE w B aj ρ (m.mk y) u:=by
 unfold Lm.rd at h;split at h
 ·split at h
  next D=>subst D;injection h with h;subst h;exact C
  ·cases h
 ·injection h with h;subst h;exact C
 ·injection h with h;subst h;exact C
 ·rename_i E L;cases hb:Nat.beq L E with
  |false=>simp_all
  |true=>obtain rfl:=cK hb;exact C
 ·rename_i t o x;cases hb:Nat.blt o 2 with
  |false=>rw[hb]at h;cases h
  | true=>
   rw[hb]at h;have:=cX hb;exact⟨by simp[V.aF];omega,C.2.wk (V.It h)⟩
 ·cases h
def Tm.qS{m:Tm}{x:A}{y:m.T}(h:m.rd x=some y){u:Value}(L:RA w B aj ρ x u):RA w B aj ρ (m.mk y) u:=by
 cases m with
 | lf m=>
  cases x with
  |lf x=>exact Lm.qS h L
  |_=>cases h
 | aG r j=>
  cases x with
  | aG U j'=>
   have h:(bif Nat.beq U r&&Nat.beq j' j then some ()else none)=some y:=h;cases hb:(Nat.beq U r&&Nat.beq j' j)with
   |false=>simp_all
   | true=>
    rw[aS]at hb;obtain rfl:=cK hb.1;obtain rfl:=cK hb.2;exact L
  |_=>cases h
 | fp t o=>
  cases x with
  | jy cs=>
   have h:(bif Nat.blt o 2 then dec t o cs else none)=some y:=h;cases hb:Nat.blt o 2 with
   |false=>simp_all
   | true=>
    rw[hb,au]at h;have ho:=cX hb;have D:=mZ t o cs y h;obtain⟨b,off,Y,Z,h3,h4⟩:=L
    refine⟨b,off,Y,Z,h3,λj z C=>?_⟩
    have hj:j<cs.length:=by rw[D.1];exact(eo.1 C).1
    have E:=bY hj;obtain⟨g1,v,g2,g3⟩:=h4 j _ E;exact⟨sR t o y (by omega) j z C,v,g2,g3.wk (D.2 j _ z E C)⟩
  |_=>cases h
 | fc f t=>
  cases x with
  | n8 f' cs=>
   have h:(bif Nat.beq f' f then dec t 0 cs else none)=some y:=h;cases hb:Nat.beq f' f with
   |false=>simp_all
   | true=>
    rw[hb,au]at h;obtain rfl:=cK hb;have D:=mZ t 0 cs y h;obtain⟨pv,e0,b,off,Y,Z,h3,h4⟩:=L
    refine⟨pv,e0,b,off,Y,Z,h3,λj z C=>?_⟩
    have hj:j<cs.length:=by rw[D.1];exact(eo.1 C).1
    have E:=bY hj;obtain⟨g1,v,g2,g3⟩:=h4 j _ E;exact⟨sR t 0 y (by omega) j z C,v,g2,g3.wk (D.2 j _ z E C)⟩
  |_=>cases h
 | ag t=>
  cases x with
  | agg cs=>
   have h:(match v5 cs with|some O=>dec t 0 O|none=>none)=some y:=h;cases kM:v5 cs with
   |none=>simp_all
   | some O=>
    rw[kM]at h;have h:dec t 0 O=some y:=h;have gP:=Pr _ _ kM;have D:=mZ t 0 O y h;obtain⟨us,Y,Z,h3⟩:=L
    refine⟨us,Y,?_,λj x hx=>?_⟩
    ·rw[Z,gP,eK,eK,D.1]
    ·rw[ff]at hx;cases C:(enc t 0 y)[j]? with
     |none=>simp_all
     | some z=>
      rw[C]at hx;injection hx with hx;subst hx;have hj:j<O.length:=by rw[D.1];exact(eo.1 C).1
      have E:=bY hj;obtain⟨v,g1,g2⟩:=h3 j (.v O[j]) (by rw[gP,ff,E];rfl);exact⟨v,g1,sR t 0 y (by omega) j z C,g2.2.wk (D.2 j _ z E C)⟩
  |_=>cases h
 | pk r n=>
  cases x with
  | pk U n'=>
   have h:(bif Nat.beq U r&&Nat.beq n' n then some ()else none)=some y:=h;cases hb:(Nat.beq U r&&Nat.beq n' n)with
   |false=>simp_all
   | true=>
    rw[aS]at hb;obtain rfl:=cK hb.1;obtain rfl:=cK hb.2;exact L
  |_=>cases h
def aeY:∀ (C:aa Lm) (cs:aa Lf) (y:J2 C),Qx C cs=some y -> (yu C y).length=cs.length /\ ∀ (j:Nat) x,(yu C y)[j]?=some x -> ∃ z,cs[j]?=some z/\(∀ (w:World) (B:Nat) (aj:bM) (ρ:Nat -> Loc) (u:Value),eE w B aj ρ z u -> eE w B aj ρ x u)
 |[],[],y,h=>⟨rfl,λj x D=>by simp[yu]at D⟩
 | m :: C,c :: cs,y,h=>by
  unfold Qx at h;split at h
  ·rename_i Y ys E L;injection h with h;subst h;obtain⟨O,T⟩:=aeY C cs ys L
   refine⟨by simp[yu,O],λj x D=>?_⟩
   cases j with
   |zero=>simp[yu]at D;subst D;exact⟨c,rfl,λw B aj ρ u U=>Lm.qS E U⟩
   |succ j=>exact T j x (by simpa [yu]using D)
  ·cases h
def Rm.qS{m:Rm}{x:bu}{y:m.T}(h:m.rd x=some y){n:Nat}(C:eH w B aj ρ n x):eH w B aj ρ n (m.mk y):=by
 cases m with
 | sl t o=>
  cases C with
  |sl v y' D hr=>exact .sl v _ D (hr.wk (V.It h))
  |aB=>cases h
  |mp=>cases h
  |gh=>cases h
 | mp=>
  cases C with
  |gh=>cases h
  |sl=>cases h
  |aB=>cases h
  |mp b c es l D hl L he=>injection h with h;subst h;exact .mp b c es _ D hl L he
 | st t=>
  cases C with
  |sl=>cases h
  |mp=>cases h
  |gh=>cases h
  | aB b off cells e cs us D hl L O Z=>
   have h:(match v5 cs with|some E=>dec t 0 E|none=>none)=some y:=h;cases kM:v5 cs with
   |none=>simp_all
   | some E=>
    rw[kM]at h;have h:dec t 0 E=some y:=h;have gP:=Pr _ _ kM;have Y:=mZ t 0 E y h
    refine .aB b off cells e _ us D hl L (by rw[eK,<- Y.1];rw[gP,eK]at O;exact O) λj x C=>?_
    rw[ff]at C;cases U:(enc t 0 y)[j]? with
    |none=>simp_all
    | some z=>
     rw[U]at C;injection C with C;subst C;have hj:j<E.length:=by rw[Y.1];exact(eo.1 U).1
     have hv:=bY hj;obtain⟨h1,h2⟩:=Z j (.v E[j]) (by rw[gP,ff,hv];rfl);exact⟨h1,sR t 0 y (by omega) j z U,h2.2.wk (Y.2 j _ z hv U)⟩
 | aB ms=>
  cases C with
  |sl=>cases h
  |mp=>cases h
  |gh=>cases h
  | aB b off cells e cs us D hl L O Z=>
   obtain⟨k1,k2⟩:=aeY ms cs y h
   refine .aB b off cells e _ us D hl L (by show off+(yu ms y).length <= _;rw[k1];exact O) λj x C=>?_
   grind
def Yf:∀ (C:aa (Nat×Tm)) (t:Nat -> A) (y:FO C),J3 C t=some y -> ∀ k,yw C y k = .undef \/ ∃ m z,(Tm.rd m (t k)=some z/\yw C y k=m.mk z)
 |[],t,y,h,k=>.inl rfl
 | (n,m) :: C,t,y,h,k=>by
  unfold J3 at h;split at h
  ·rename_i x xs D E;injection h with h;subst h;by_cases L:k=n
   ·subst L;exact .inr ⟨m,x,D,by simp[yw]⟩
   ·have hb:Nat.beq k n=false:=by
     cases hb:Nat.beq k n with
     |false=>rfl
     |true=>simp_all
    simp only[yw,hb,aq];exact Yf C t xs E k
  ·cases h
def Yg:∀ (C:aa (Nat×Rm)) (t:Nat -> ah bu) (y:yx C),FP C t=some y -> ∀ k,yz C y k=none \/ ∃ m x z,t k=some x/\Rm.rd m x=some z/\yz C y k=some (m.mk z)
 |[],t,y,h,k=>.inl rfl
 | (n,m) :: C,t,y,h,k=>by
  unfold FP at h;split at h
  ·rename_i x xs D E;injection h with h;subst h;by_cases L:k=n
   ·subst L;cases O:t k with
    |none=>simp_all
    |some z=>rw[O]at D;exact .inr ⟨m,z,x,rfl,D,by simp[yz]⟩
   ·have hb:Nat.beq k n=false:=by
     cases hb:Nat.beq k n with
     |false=>rfl
     |true=>simp_all
    simp only[yz,hb,aq];exact Yg C t xs E k
  ·cases h
def jR.aeZ{C:jR}{x:C.St}(h:C.Qy σ=some x)(hR:R w0 N σ a w):R w0 N (C.mk' x) a w:=by
 unfold jR.Qy at h;split at h
 ·rename_i u v O T;injection h with h;subst h;obtain⟨aj,ρ,hR⟩:=hR
  refine⟨aj,ρ,hR.below,hR.dD,λn y D=>?_,λk=>?_,hR.size,hR.defers,hR.fix,hR.dN⟩
  ·have D:yz C.rs v n=some y:=D;rcases Yg C.rs σ.m v T n with e | ⟨m,x,z,E,L,U⟩
   ·simp_all
   ·rw[U]at D;injection D with D;subst D;exact Rm.qS L (hR.root n x E)
  ·show RA _ _ _ _ (yw C.ts u k) _;rcases Yf C.ts σ.t u O k with e | ⟨m,z,E,L⟩
   ·rw[e];trivial
   ·rw[L];exact Tm.qS E (hR.tmp k)
 ·cases h
def ae0{n:Nat}{o:ah Nat}(h:Ya n o=true):o=some n:=by
 cases o with
 |none=>cases h
 |some m=>rw[cK h]
def ae1{rs:Rn}{r n:Nat}(h:rs.lookup r=some n):(r,n)∈rs:=by
 induction rs with
 |nil=>cases h
 |cons p rs C =>grind
def ae2{rs:Rn}{r n:Nat}(h:rs.inv n=some r):(r,n)∈rs:=by
 unfold Rn.inv at h;cases C:rs.find? _ with
 |none=>rw[C]at h;cases h
 | some p=>
  rw[C]at h;injection h with h;subst h;have D:=List.find?_some C;have E:=List.mem_of_find?_eq_some C;rw[<- cK D];exact E
def Rn.fC(rs:Rn)(ρ:Nat->Loc):Nat->Loc:=λn=>match rs.inv n with
 |some r=>ρ r
 |none=>ρ n
def Rn.QB{rs:Rn}(h:rs.ok=true){r n:Nat}(C:(r,n)∈rs):(r=n \/ 60000 <= n)/\rs.lookup r=some n/\rs.inv n=some r:=by
 have:=cw.1 h _ C;rw[aS,aS,eR]at this;refine⟨?_,ae0 this.1.2,ae0 this.2⟩;simp_all
def eE.eO{rs:Rn}(C:rs.ok=true){x:Lf}{u:Value}(h:eE w B aj ρ x u):eE w B (eV aj rs id) (rs.fC ρ) (x.eO rs) u:=by
 unfold Lf.eO;split
 ·exact⟨h.1,h.2.O1 h.1 λb=>As⟩
 ·rename_i r;split
  next n D=>have hi:=(Rn.QB C (ae1 D)).2.2;refine⟨h.1,?_⟩;have E:=h.2;simp[dm]at E ⊢;unfold Rn.fC;simp_all
  ·trivial
 ·trivial
def Rl.eO{rs:Rn}(O:rs.ok=true)(h:Rl w0 N aj ρ σ a w):Rl w0 N (eV aj rs id) (rs.fC ρ) (σ.eO rs) a w:=by
 have hl:∀ b r n,aj b=some [r] -> rs.lookup r=some n -> eV aj rs id b=some [n]:=by
  intro b r n E L;simp[eV,E,L]
 refine⟨h.below,λb k D=>?_,λn x C=>?_,λk=>?_,h.size,h.defers,λr l U=>?_,h.dN⟩
 ·unfold eV at D;split at D
  ·cases D
  ·rename_i k0 PT;split at D
   ·cases D
   ·rename_i r U;cases hn:rs.lookup r with
    |none=>grind
    | some n=>
     rw[hn]at D;injection D with D;subst D;obtain⟨E,L,_⟩:=h.dD b k0 PT;simp_all
 ·have C:(match rs.inv n with | some r=>(σ.m r).map (bu.eO rs) | none=>none)=some x:=C;cases hi:rs.inv n with
  |none=>grind
  | some r=>
   rw[hi]at C;have C:(σ.m r).map (bu.eO rs)=some x:=C;have uv:=(Rn.QB O (ae2 hi)).2.1;have cG:rs.fC ρ n=ρ r:=by unfold Rn.fC;rw[hi]
   cases hm:σ.m r with
   |none=>grind
   | some y=>
    rw[hm]at C;injection C with C;subst C;cases h.root r y hm with
    | aB b off cells e cs us E L hh hs hc=>
     refine .aB b off cells e _ us (cG.trans E) (hl b r n L uv) hh (by rw[eK];exact hs) λj x C=>?_
     rw[ff]at C;cases T:cs[j]? with
     |none=>grind
     | some z=>
      rw[T]at C;injection C with C;subst C;exact⟨(hc j z T).1,(hc j z T).2.eO O⟩
    | sl v y E L=>
     exact .sl v y (cG.trans E) (RV.eV (p:=[]) (nm:=id) L uv)
    |mp b c es l E L hh he=>exact .mp b c es l (cG.trans E) (hl b r n L uv) hh he
    |gh us xs E C=>exact .gh us _ (cG.trans E) λj x hj=>by simp at hj
 ·show RA _ _ _ _ ((σ.t k).eO rs) _;have D:=h.tmp k;generalize σ.t k=x at D;unfold A.eO;split
  ·exact D.eO O
  ·rename_i r j;split
   next n hn=>have hi:=(Rn.QB O (ae1 hn)).2.2;obtain⟨b,off,E,L⟩:=D;exact⟨b,off,by unfold Rn.fC;rw[hi];exact E,L⟩
   ·trivial
  ·obtain⟨b,off,Y,Z,g3,g4⟩:=D
   refine⟨b,off,Y,Z,As g3,λj x C=>?_⟩
   obtain⟨f1,v,f2,f3⟩:=g4 j x C;exact⟨f1,v,f2,f3.O1 f1 λb=>As⟩
  ·obtain⟨pv,e0,b,off,Y,Z,g3,g4⟩:=D
   refine⟨pv,e0,b,off,Y,Z,As g3,λj x C=>?_⟩
   obtain⟨f1,v,f2,f3⟩:=g4 j x C;exact⟨f1,v,f2,f3.O1 f1 λb=>As⟩
  ·obtain⟨us,Y,Z,g3⟩:=D
   refine⟨us,Y,by rw[eK];exact Z,λj x C=>?_⟩
   rw[ff]at C;rename_i cs;cases T:cs[j]? with
   |none=>grind
   | some z=>
    rw[T]at C;injection C with C;subst C;obtain⟨v,f1,f2⟩:=g3 j z T;exact⟨v,f1,f2.eO O⟩
  ·trivial
 ·show rs.fC ρ r=l;unfold Rn.fC;split
  ·rename_i r0 hi;rcases(Rn.QB O (ae2 hi)).1 with e | e
   ·rw[e];exact h.fix r l U
   ·rw[h.dN r (.inr e)]at U;cases U
  ·exact h.fix r l U
def asA{rs:aa (Nat×Rm)}{p:Nat×Tm}(hR:R w0 N σ a w):R w0 N (Yc rs p σ) a w:=by
 unfold Yc;split
 ·rename_i n Y O;split
  ·rename_i t o hl;cases hb:Nat.ble 60000 n with
   |false=>exact hR
   | true=>
    have T:=cX hb;obtain⟨aj,ρ,hR⟩:=hR;have D:=hR.tmp p.1;rw[O]at D;have U:a.tmps.getD p.1 undef = .slice none 0 0:=by
     have E:=D.2;generalize a.tmps.getD p.1 undef=u at E;cases E;rfl
    have C:=hR.new (d:=n) (x:=.sl (.sl t o false [])) (.eG (.slice none 0 0)) (.sl _ _ (cu _ _ _) (.eU _ _ _)) (hR.dN n (.inr T))
    refine⟨aj,_,C.below,C.dD,C.root,λk=>?_,C.size,C.defers,C.fix,C.dN⟩
    show RA _ _ _ _ (ck ((σ.drop n).root n (.sl (.sl t o false []))).t p.1 (.lf (.own [n])) k) _;by_cases L:k=p.1
    ·subst L;rw[cu,U];exact⟨rfl,by simp[dm,cu]⟩
    ·rw[cU _ _ _ L];exact C.tmp k
  ·exact hR
 ·exact hR
def asC{n j r:Nat}{y:V}(hR:Rl w0 N aj ρ σ a w)(U:ρ n = .eG (.slice none 0 0)):Rl w0 N aj ρ (Yd n j r σ) a w:=by
 unfold Yd;split
 ·rename_i cs Y;split
  ·rename_i O
   refine⟨hR.below,hR.dD,λE x C=>?_,hR.tmp,hR.size,hR.defers,hR.fix,hR.dN⟩
   have C:ck σ.m r (some (.aB (cs.set j (.own [n])))) E=some x:=C;by_cases T:E=r
   ·subst T;rw[cu]at C;injection C with C;subst C;cases hR.root E _ Y with
    | aB b off cells e cs us Z L hh hs hc=>
     refine .aB b off cells e _ us Z L hh (by rw[eM];exact hs) λi z D=>?_
     rw[List.getElem?_set]at D;by_cases hi:j=i
     ·subst hi;have dQ:j<cs.length:=(eo.1 O).1;rw[bJ rfl,bJ dQ]at D;injection D with D;subst D;obtain⟨k1,k2⟩:=hc j _ O;refine⟨k1,?_⟩;have hu:us j = .slice none 0 0:=by
       have L:=k2.2;generalize us j=u at L;cases L;rfl
      rw[hu];exact⟨rfl,by simp only[dm,U]⟩
     ·grind
   ·rw[cU _ _ _ T]at C;exact hR.root E x C
  ·exact hR
 ·exact hR
def asD{rs:aa (Nat×Rm)}{n j r:Nat}(hR:R w0 N σ a w):R w0 N (Ye rs n j r σ) a w:=by
 unfold Ye;split
 ·rename_i t o hl;cases hb:Nat.ble 60000 n with
  |false=>exact hR
  | true=>
   have C:=cX hb;obtain⟨aj,ρ,hR⟩:=hR;exact⟨aj,_,asC (y:=.nil) (hR.new _ (.sl _ _ (cu _ _ _) (.eU _ _ _)) (hR.dN n (.inr C))) (cu _ _ _)⟩
 ·exact hR
def Yh{rs:aa (Nat×Rm)}{r:Nat}:∀ (C:aa Lm) (cs:aa Lf) (j:Nat) (σ:S),R w0 N σ a w -> R w0 N (Dc rs r j C cs σ) a w
 |[],cs,j,σ,h=>by unfold Dc;exact h
 | m :: C,[],j,σ,h=>by
  unfold Dc;simp_all
 | m :: C,c :: cs,j,σ,h=>by
  unfold Dc;split
  next D E=>cases D;cases E;exact Yh C cs _ _ (asD h)
  next D E=>cases D;cases E;exact Yh C cs _ _ h
  ·exact h
def J4{rs:aa (Nat×Rm)}:∀ (ps:aa (Nat×Rm)) (σ:S),R w0 N σ a w -> R w0 N (QA rs ps σ) a w
 |[],σ,h=>h
 |(r,.sl t o)::ps,σ,h=>J4 ps σ h
 |(r,.st t)::ps,σ,h=>J4 ps σ h
 |(r,.mp)::ps,σ,h=>J4 ps σ h
 | (r,.aB C) :: ps,σ,h=>by
  refine J4 ps _ ?_;split
  ·exact Yh C _ 0 σ h
  ·exact h
def ae3{rs:aa (Nat×Rm)}:∀ (ps:aa (Nat×Tm)) (σ:S),R w0 N σ a w->R w0 N (Qz rs ps σ) a w
 |[],σ,h=>h
 |p::ps,σ,h=>ae3 ps _ (asA h)
def jR.qS{C:jR}{x:C.St}(h:C.rd σ=some x)(hR:R w0 N σ a w):R w0 N (C.mk' x) a w:=by
 unfold jR.rd at h;split at h
 next y D=>injection h with h;subst h;exact jR.aeZ D hR
 ·have hR:=ae3 (rs:=C.rs) C.ts σ hR;revert h hR;generalize Qz C.rs C.ts σ=E;intro h hR;unfold jR.rd1 at h;cases hb:(C.rn E).ok with
  |false=>simp_all
  | true=>
   rw[hb,au]at h;obtain⟨aj,ρ,hR⟩:=hR;exact jR.aeZ h (J4 C.rs _ ⟨_,_,hR.eO hb⟩)
end
def yA:aa V->aa Nat->aa Lf
 |[],_=>[]
 | x :: xs,ns=>bif x.plain then .v x :: yA xs ns else (match ns with
  |n::ns=>.own [n]::yA xs ns
  |[]=>.dead::yA xs [])
def Dd:aa V->aa Nat->(Nat->ah bu)->Nat->ah bu
 |[],_,m,k=>m k
 | x :: xs,ns,m,k=>bif x.plain then Dd xs ns m k else (match ns with
  |n::ns=>bif Nat.beq k n then some (.sl x)else Dd xs ns m k
  |[]=>Dd xs [] m k)
def lJ(m:Nat->ah bu):aa Lf->aa Nat->ah (aa V)
 |[],[]=>some []
 | .v x :: cs,ns=>bif x.plain then (match lJ m cs ns with
  |some C=>some (x::C)
  |none=>none)else none
 | .own [r] :: cs,n :: ns=>bif Nat.beq r n then (match m n with
  | some (.sl y)=>bif y.plain then none else (match lJ m cs ns with
   |some C=>some (y::C)
   |none=>none)
  |_=>none)else none
 |_,_=>none
abbrev Gp:=Nat×TC×Nat×aa Nat
def J5:aa Gp->Type->Type
 |[],X=>X
 |g::gs,X=>T g.2.1×J5 gs X
def QC:(gs:aa Gp)->(rs:aa (Nat×Rm))->J5 gs (yx rs)->Nat->ah bu
 |[],rs,x,k=>yz rs x k
 |(n,t,o,ns)::gs,rs,x,k=>bif Nat.beq k n then some (.aB (yA (enc t o x.1) ns))else Dd (enc t o x.1) ns (QC gs rs x.2) k
def QD:(gs:aa Gp)->(rs:aa (Nat×Rm))->(Nat->ah bu)->ah (J5 gs (yx rs))
 |[],rs,m=>FP rs m
 | (n,t,o,ns) :: gs,rs,m=>match m n with
  | some (.aB cs)=>(match lJ m cs ns with
   | some C=>(match dec t o C,QD gs rs m with
    |some x,some y=>some (x,y)
    |_,_=>none)
   |none=>none)
  |_=>none
def FQ:aa V->aa Nat->aa Lm
 |[],_=>[]
 |.int k _::xs,ns=>.int k::FQ xs ns
 |.bool _::xs,ns=>.bool::FQ xs ns
 |.str _::xs,ns=>.str::FQ xs ns
 |_::xs,n::ns=>.own n::FQ xs ns
 |_::xs,[]=>.bool::FQ xs []
def Yi:aa V->aa Nat->aa (Nat×Rm)
 |.sl t o _ _::xs,n::ns=>(n,.sl t o)::Yi xs ns
 |_::xs,ns=>Yi xs ns
 |[],_=>[]
def Yj:aa Gp->aa (Nat×Rm)->aa (Nat×Rm)
 |[],rs=>rs
 |(n,t,o,ns)::gs,rs=>(n,.aB (FQ (shp t o) ns))::(Yi (shp t o) ns++Yj gs rs)
structure bG where
 ts:List (Nat×Tm)
 rs:List (Nat×Rm)
 gs:List Gp
def bG.St(C:bG):Type:=FO C.ts×J5 C.gs (yx C.rs)
def bG.mk'(C:bG)(x:C.St):S:=⟨yw C.ts x.1,QC C.gs C.rs x.2⟩
def bG.QE(C:bG)(σ:S):ah C.St:=match J3 C.ts σ.t,QD C.gs C.rs σ.m with
 |some x,some y=>some (x,y)
 |_,_=>none
def bG.rd(C:bG)(σ:S):ah C.St:=match C.QE σ with
 |some x=>some x
 | none=>match jR.rd ⟨C.ts,Yj C.gs C.rs⟩ σ with
  |some z=>C.QE (jR.mk' ⟨C.ts,Yj C.gs C.rs⟩ z)
  |none=>none
section
variable {P:Program} {w w':World} {w0:Wd} {B N:Nat} {aj aD:bM} {ρ ρ':Nat->Loc} {σ:S} {a:Act} {m:Nat->ah bu}
def lX.inv{x:V}{xs ys:aa V}(k:lX (x :: xs) ys):∃ y C,ys=y :: C/\Wk x y/\lX xs C:=by
 obtain⟨D,E⟩:=k;cases ys with
 |nil=>simp at D
 |cons y C=>exact⟨y,C,rfl,E 0 x y rfl rfl,by simpa using D,λj a b L hb=>E (j+1) a b (by simpa using L) (by simpa using hb)⟩
def Wk.ae4{x y:V}(h:Wk x y)(C:x.plain=true):y=x:=by
 cases h<;>first|rfl|cases C
def Wk.ae5{x y:V}(h:Wk x y)(C:x.plain=false):y.plain=false:=by
 cases h<;>first|exact C|rfl
def Yk:∀ (cs:aa Lf) (ns:aa Nat) (C ys:aa V),lJ m cs ns=some C -> lX C ys -> (yA ys ns).length=cs.length /\ ∀ (j:Nat) z,(yA ys ns)[j]?=some z -> cs[j]?=some z
 | [],[],C,ys,h,E=>by
  simp only[lJ,iX]at h;subst h;have:ys=[]:=List.eq_nil_of_length_eq_zero E.1.symm;subst this;exact⟨rfl,λj z L=>by simp[yA]at L⟩
 | .v x :: cs,ns,C,ys,h,E=>by
  unfold lJ at h;cases D:x.plain with
  |false=>simp_all
  | true=>
   rw[D,au]at h;split at h
   ·rename_i us O;injection h with h;subst h;obtain⟨y,T,rfl,U,Y⟩:=E.inv;obtain rfl:=U.ae4 D;obtain⟨Z,e2⟩:=Yk cs ns us T O Y;simp only[yA,D,au]
    refine⟨by simp[Z],λj z L=>?_⟩
    cases j with
    |zero=>simp_all
    |succ j=>simp_all
   ·cases h
 | .own [r] :: cs,n :: ns,C,ys,h,E=>by
  unfold lJ at h;cases hb:Nat.beq r n with
  |false=>simp_all
  | true=>
   rw[hb,au]at h;obtain rfl:=cK hb;split at h
   ·rename_i y hy;cases D:y.plain with
    |true=>simp_all
    | false=>
     rw[D,aq]at h;split at h
     ·rename_i us O;injection h with h;subst h;obtain⟨y',T,rfl,U,Y⟩:=E.inv;have hq:=U.ae5 D;obtain⟨Z,e2⟩:=Yk cs ns us T O Y;simp only[yA,hq,aq]
      refine⟨by simp[Z],λj z L=>?_⟩
      cases j with
      |zero=>simp_all
      |succ j=>simp_all
     ·cases h
   ·cases h
 |[],_::_,C,ys,h,_=>by simp[lJ]at h
 |.dead::_,_,C,ys,h,_=>by simp[lJ]at h
 |.own []::_,_,C,ys,h,_=>by simp[lJ]at h
 |.own (_::_::_)::_,_,C,ys,h,_=>by simp[lJ]at h
 |.own [_]::_,[],C,ys,h,_=>by simp[lJ]at h
def Yl{f:Nat -> ah bu}{k:Nat}{x:bu}:∀ (cs:aa Lf) (ns:aa Nat) (D ys:aa V),lJ m cs ns=some D -> lX D ys -> Dd ys ns f k=some x -> f k=some x \/ ∃ v y,m k=some (.sl v)/\x = .sl y/\Wk v y
 | [],[],D,ys,h,L,C=>by
  simp only[lJ,iX]at h;subst h;have:ys=[]:=List.eq_nil_of_length_eq_zero L.1.symm;subst this;exact .inl C
 | .v x' :: cs,ns,D,ys,h,L,C=>by
  unfold lJ at h;cases E:x'.plain with
  |false=>simp_all
  | true=>
   rw[E,au]at h;split at h
   next us O=>injection h with h;subst h;obtain⟨y,T,rfl,U,Y⟩:=L.inv;obtain rfl:=U.ae4 E;simp[Dd,E]at C;exact Yl cs ns us T O Y C
   ·cases h
 | .own [r] :: cs,n :: ns,D,ys,h,L,C=>by
  unfold lJ at h;cases hb:Nat.beq r n with
  |false=>simp_all
  | true=>
   rw[hb,au]at h;obtain rfl:=cK hb;split at h
   ·rename_i y hy;cases E:y.plain with
    |true=>simp_all
    | false=>
     rw[E,aq]at h;split at h
     ·rename_i us O;injection h with h;subst h;obtain⟨y',T,rfl,U,Y⟩:=L.inv;have hq:=U.ae5 E;simp only[Dd,hq,aq]at C;cases Z:Nat.beq k r with
      | true=>
       rw[Z]at C;injection C with C;obtain rfl:=cK Z
       grind
      | false=>
       rw[Z]at C;exact Yl cs ns us T O Y C
     ·cases h
   ·cases h
 |[],_::_,D,ys,h,_,_=>by simp[lJ]at h
 |.dead::_,_,D,ys,h,_,_=>by simp[lJ]at h
 |.own []::_,_,D,ys,h,_,_=>by simp[lJ]at h
 |.own (_::_::_)::_,_,D,ys,h,_,_=>by simp[lJ]at h
 |.own [_]::_,[],D,ys,h,_,_=>by simp[lJ]at h
def ae6:∀ (gs:aa Gp) (rs:aa (Nat×Rm)) (y:J5 gs (yx rs)),QD gs rs m=some y -> ∀ k x,QC gs rs y k=some x -> ∃ O,m k=some O /\ ∀ (w:World) (B:Nat) (aj:bM) (ρ:Nat -> Loc),eH w B aj ρ k O -> eH w B aj ρ k x
 | [],rs,y,h,k,x,C=>by
  have h:FP rs m=some y:=h;have C:yz rs y k=some x:=C;rcases Yg rs m y h k with e|⟨m',O,z,E,L,e3⟩
  ·simp_all
  ·rw[e3]at C;injection C with C;subst C;exact⟨O,E,λw B aj ρ D=>Rm.qS L D⟩
 | (n,t,o,ns) :: gs,rs,y,h,k,x,C=>by
  unfold QD at h;split at h
  ·rename_i cs hm;split at h
   ·rename_i T Z;split at h
    ·rename_i x1 y1 h1 h2;injection h with h;subst h;have hw:=mZ t o T x1 h1;simp only[QC]at C;cases U:Nat.beq k n with
     | true=>
      rw[U,au]at C;injection C with C;subst C;obtain rfl:=cK U;obtain⟨E,L⟩:=Yk cs ns T _ Z hw
      refine⟨_,hm,λw B aj ρ D=>?_⟩
      cases D with
      |aB b off cells e _ us Y hl hh hs hc=>exact .aB b off cells e _ us Y hl hh (by rw[E];exact hs) λj z hz=>hc j z (L j z hz)
     | false=>
      rw[U,aq]at C;rcases Yl cs ns T _ Z hw C with e|⟨v,y',E,rfl,L⟩
      ·exact ae6 gs rs y1 h2 k x e
      ·refine⟨_,E,λw B aj ρ D=>?_⟩
       cases D with
       |sl u _ Y D=>exact .sl u _ Y (D.wk L)
    ·cases h
   ·cases h
  ·cases h
def bG.ae7{C:bG}{x:C.St}(h:C.QE σ=some x)(hR:R w0 N σ a w):R w0 N (C.mk' x) a w:=by
 unfold bG.QE at h;split at h
 ·rename_i u v L O;injection h with h;subst h;obtain⟨aj,ρ,hR⟩:=hR
  refine⟨aj,ρ,hR.below,hR.dD,λn y T=>?_,λk=>?_,hR.size,hR.defers,hR.fix,hR.dN⟩
  ·obtain⟨U,D,E⟩:=ae6 C.gs C.rs v O n y T;exact E _ _ _ _ (hR.root n U D)
  ·show RA _ _ _ _ (yw C.ts u k) _;rcases Yf C.ts σ.t u L k with e | ⟨m,z,D,E⟩
   ·rw[e];trivial
   ·rw[E];exact Tm.qS D (hR.tmp k)
 ·cases h
def bG.qS{C:bG}{x:C.St}(h:C.rd σ=some x)(hR:R w0 N σ a w):R w0 N (C.mk' x) a w:=by
 unfold bG.rd at h;split at h
 next y D=>injection h with h;subst h;exact bG.ae7 D hR
 ·split at h
  next z E=>exact bG.ae7 h (jR.qS E hR)
  ·cases h
end
def De:Exit->ah Nat
 |.normal=>some 0
 |.ret=>some 1
 |.exit n=>some (n+2)
 |_=>none
def Ym:Nat->Exit
 |0=>.normal
 |1=>.ret
 |n+2=>.exit n
def wE{e:Exit}{n:Nat}(h:De e=some n):e=Ym n:=by
 cases e<;>simp[De]at h<;>subst h<;>rfl
def uK:aa (Nat×bG)->Type
 |[]=>Empty
 |(_,C)::r=>C.St⊕uK r
def QF:(l:aa (Nat×bG))->Nat->S->ah (uK l)
 |[],_,_=>none
 | (n,C) :: r,e,σ=>bif Nat.beq n e then (match C.rd σ with
  |some x=>some (.inl x)
  |none=>none)else (match QF r e σ with
  |some x=>some (.inr x)
  |none=>none)
def Yn{X:Type}:(l:aa (Nat×bG))->uK l->(Exit->S->ah X)->ah X
 |[],z,_=>nomatch z
 | (n,C) :: r,z,k=>match z with
  |.inl x=>k (Ym n) (C.mk' x)
  |.inr z=>Yn r z k
def iter{α β:Type}(step:α->ah (α⊕β)):Nat->α->ah β
 |0,_=>none
 | n+1,x=>match step x with
  |some (.inl y)=>iter step n y
  |some (.inr z)=>some z
  |none=>none
def FR(P:Program)(N:Nat)(Φ:eX)(Λ:ot)(body:Code)(C:bG)(D:aa (Nat×bG))(x:C.St):ah (C.St⊕uK D):=
 mN P N Φ Λ body (C.mk' x) λe σ=>match De e with
  | some 0=>(match C.rd σ with
   |some x=>some (.inl x)
   |none=>none)
  | some n=>(match QF D n σ with
   |some x=>some (.inr x)
   |none=>none)
  |none=>none
def Yo{X:Type}(id:Nat)(k:Exit->S->ah X)(e:Exit)(σ:S):ah X:=
 match e with
 |.exit C=>if C=id then k .normal σ else k (.exit C) σ
 |e=>k e σ
def QG(id:Nat)(C:bG)(D:aa (Nat×bG))(F:C.St->ah (C.St⊕uK D))(fuel:C.St->Nat):tu:=
 ⟨λX σ k=>match C.rd σ with
  | some x=>(match iter F (fuel x) x with
   |some z=>Yn D z (Yo id k)
   |none=>none)
  |none=>none⟩
def lK:aa (Bool×TC)->Type
 |[]=>af
 |(_,t)::r=>T t×lK r
def gL:(l:aa (Bool×TC))->lK l->aa Pt
 |[],_=>[]
 |(b,t)::r,x=>(b,enc t 0 x.1)::gL r x.2
def yB:(l:aa (Bool×TC))->aa Pt->ah (lK l)
 |[],[]=>some ()
 | (b,t) :: r,(C,D) :: ps=>bif b==C then (match dec t 0 D,yB r ps with
  |some x,some xs=>some (x,xs)
  |_,_=>none)else none
 |_,_=>none
def gW(ai:aa (Bool×TC))(ro:aa (Bool×TC×Nat))(F:lK ai->ah (ja ro)):jl:=
 ⟨λX args k=>match yB ai args with
  | some x=>(match F x with
   |some y=>k (fV ro y)
   |none=>none)
  |none=>none⟩
def Yp:Pt->A
 |(false,[x])=>.lf (.v x)
 |(true,xs)=>.agg (xs.map .v)
 |(false,.bool true::c::cs)=>.jy (c::cs)
 |(false,.bool false::.int .i64 (.ofNat g)::c::cs)=>.n8 g (c::cs)
 |_=>.undef
def ae8(args:aa Pt):S:=⟨λk=>match args[k]? with
 |some p=>Yp p
 |none=>.undef,λ_=>none⟩
def qT{X:Type}(P:Program)(N:Nat)(Φ:eX)(Λ:ot)(code:Code)(C:Array ResultVar)(args:aa Pt)(k:gC->ah X):ah X:=
 mN P N Φ Λ code (ae8 args) λe σ=>match De e with
  |some 0=>I8 P σ C k
  |some 1=>I8 P σ C k
  |_=>none
section
variable {P:Program} {w w':World} {w0:Wd} {B N:Nat} {aj aD:bM} {ρ ρ':Nat->Loc} {σ:S} {a:Act} {X:Type} {d:Nat} {r:X} {o:Oper} {Φ:eX} {Λ:ot}
def ae9:∀ (l:aa (Nat×bG)) (e:Nat) (z:uK l),QF l e σ=some z->∀ (X:Type) (k:Exit->S->ah X),∃ D,Yn l z k=k (Ym e) D/\∀ a w,R w0 N σ a w->R w0 N D a w
 |[],e,z,h=>by cases h
 | (n,E) :: l,e,z,h=>by
  intro X k;unfold QF at h;cases hb:Nat.beq n e with
  | true=>
   obtain rfl:=cK hb;rw[hb,au]at h;split at h
   next x C=>injection h with h;subst h;exact⟨E.mk' x,rfl,λa w hR=>bG.qS C hR⟩
   ·cases h
  | false=>
   rw[hb,aq]at h;split at h
   next x C=>injection h with h;subst h;exact ae9 l e x C X k
   ·cases h
def asE{id:Nat}{body:Code}{E:bG}{U:aa (Nat×bG)}{F:E.St -> ah (E.St⊕uK U)}{fuel:E.St -> Nat}(eP:gu P Φ)(yC:qQ P N Λ (occs body))(hF:∀ x,FR P N Φ Λ body E U x=F x):C5 P N (.block id (.loop body)) (QG id E U F fuel):=by
 intro X σ k r w0 h a w hR;simp only[QG]at h;split at h
 ·rename_i x L;split at h
  ·rename_i z hz;refine wp_block ?_;have key:∀ (n:Nat) (x:E.St),iter F n x=some z -> ∀ (a:Act) (w:World),R w0 N (E.mk' x) a w -> ∀ (b:Frame) (O:aa Item) (cs:aa Frame),
     ∃e T w',Exit.inBlock id (λe T w'=>∃dz,k e dz=some r/\R w0 N dz T w') e T w'/\Arrives P (lone (b.at a (.code body::.inLoop body::O)) cs w) b O cs e T w':=by
    intro n
    induction n with
    |zero=>intro x L;simp[iter]at L
    | succ n ih=>
     intro x L a w hR b O cs;simp only[iter]at L;have kP:∃ y,FR P N Φ Λ body E U x=some y/\(match y with | .inl y=>iter F n y=some z | .inr z'=>z'=z):=by
      rw[hF];split at L
      ·grind
      ·grind
      ·cases L
     obtain⟨y,hy,Y⟩:=kP;unfold FR at hy;have hwp:=J1 (w0:=w0) eP body _ _ hy yC a w hR;obtain⟨e,a1,w1,⟨qN,D,wu⟩,Z⟩:=hwp b (.inLoop body::O) cs;split at D
     ·rename_i C;have C:=wE C;subst C;split at D
      next x1 hx1=>injection D with D;subst D;obtain⟨e2,a2,w2,CB,asF⟩:=ih x1 Y a1 w1 (bG.qS hx1 wu) b O cs;exact⟨e2,a2,w2,CB,.of_steps (Steps.trans Z (.one step_inLoop)) asF⟩
      ·cases D
     ·rename_i n' dH C;have C:=wE C;split at D
      ·rename_i z1 J6;injection D with D;subst D;have Y:z1=z:=Y;subst Y;obtain⟨σ2,qC,kg⟩:=ae9 (w0:=w0) (N:=N) U n' z1 J6 X (Yo id k);rw[qC]at h;rw[<- C]at h;refine⟨e,a1,w1,?_,?_⟩
       ·cases e with
        | exit id'=>
         simp only[Yo]at h;simp only[Exit.inBlock];split at h
         ·grind
         ·grind
        |_=>exact⟨σ2,h,kg a1 w1 wu⟩
       ·refine .pass (x:=.inLoop body) rfl (λ_ _=>.inl ?_) Z
        intro e';rw[e']at C
        match n',dH,C with
        |0,dH,_=>exact dH rfl
        |1,_,C=>cases C
        |n+2,_,C=>cases C
      ·cases D
     ·cases D
   intro b O cs;obtain⟨e,T,w',hq,Z⟩:=key (fuel x) x hz a w (bG.qS L hR) b O cs;exact⟨e,T,w',hq,.of_steps (.one step_loop) Z⟩
  ·cases h
 ·cases h
def PV.uC{key:Nat->aa Nat}{b:Bool}{xs ys:aa V}{u:Value}(h:PV w B aj key (b,xs) u)(k:lX xs ys):PV w B aj key (b,ys) u:=by
 obtain⟨us,E,L,O⟩:=h
 refine⟨us,E,L.trans k.1,λj y C=>?_⟩
 have D:j<xs.length:=by rw[k.1];exact(eo.1 C).1
 obtain⟨v,T,U⟩:=O j _ (bY D);exact⟨v,T,U.wk (k.2 j _ y (bY D) C)⟩
def Ao.uC{cs C:aa V}{u:Value}(h:Ao w cs u)(k:lX cs C):Ao w C u:=by
 obtain⟨b,off,L,hb,O⟩:=h
 refine⟨b,off,L,hb,λj y D=>?_⟩
 have E:j<cs.length:=by rw[k.1];exact(eo.1 D).1
 obtain⟨v,T,U⟩:=O j _ (bY E);exact⟨v,T,U.wk (k.2 j _ y (bY E) D)⟩
def PA.uC{b:Bool}{xs ys:aa V}{u:Value}(h:PA w (b,xs) u)(k:lX xs ys):PA w (b,ys) u:=by
 cases h with
 |v _ _ h=>exact .v _ _ (h.uC k)
 | p c cs _ h=>
  obtain⟨y,E,rfl,C,D⟩:=k.inv;cases C;have h:=h.uC D;obtain⟨O,fe,rfl,_,_⟩:=D.inv;exact .p _ _ _ h
 | f g c cs u h=>
  obtain⟨y,E,rfl,C,D⟩:=k.inv;cases C;obtain⟨y,E,rfl,C,L⟩:=D.inv;cases C;have h:=h.uC L;obtain⟨O,fe,rfl,_,_⟩:=L.inv;exact .f _ _ _ _ h
def PA.ra{p:Pt}{u:Value}(h:PA w p u)(D:∀ y∈p.2,y.aF=true):RA w w.heap.size (λ_=>none) ρ (Yp p) u:=by
 have U:∀ {cs:aa V} {u:Value},Ao w cs u -> (∀ y∈cs,y.aF=true) -> RF w w.heap.size (λ_=>none) cs u:=by
  rintro cs u ⟨b,off,rfl,hb,E⟩ D
  refine⟨b,off,rfl,hb,rfl,λj x Y=>⟨D x (iq Y),E j x Y⟩⟩
 cases h with
 | v _ _ h=>
  obtain⟨us,Z,hs,E⟩:=h;obtain⟨b,xs⟩:=p;cases b with
  | true=>
   refine⟨us,Z,by rw[eK];exact hs,λi y C=>?_⟩
   rw[ff]at C;cases L:xs[i]? with
   |none=>simp_all
   | some z=>
    rw[L]at C;injection C with C;subst C;obtain⟨v,O,T⟩:=E i z L;exact⟨v,O,D z (iq L),T⟩
  | false=>
   subst Z;have h1:=hs.symm;obtain⟨x,rfl⟩:=List.length_eq_one_iff.1 h1;obtain⟨v,O,T⟩:=E 0 x rfl;have:u=v:=by simpa using O
   subst this;exact⟨D x (by simp),T⟩
 |p c cs _ h=>exact U h λy C=>D y (.tail _ C)
 |f g c cs u h=>exact⟨u,rfl,U h λy C=>D y (.tail _ (.tail _ C))⟩
def Yq:∀ (l:aa (Bool×TC)) (ps:aa Pt) (x:lK l),yB l ps=some x -> (gL l x).length=ps.length /\ ∀ (i:Nat) p,(gL l x)[i]?=some p -> ∃ q,ps[i]?=some q/\q.1=p.1/\lX q.2 p.2
 |[],[],x,h=>⟨rfl,λi p C=>by simp[gL]at C⟩
 | (b,t) :: r,(D,E) :: ps,x,h=>by
  unfold yB at h;cases hb:b==D with
  |false=>simp_all
  | true=>
   rw[hb,au]at h;have hb:b=D:=by simpa using hb
   subst hb;split at h
   ·rename_i y ys L O;injection h with h;subst h;obtain⟨T,U⟩:=Yq r ps ys O
    refine⟨by simp[gL,T],λi p C=>?_⟩
    cases i with
    |zero=>simp[gL]at C;subst C;exact⟨(b,E),rfl,rfl,mZ t 0 E y L⟩
    |succ i=>exact U i p (by simpa [gL]using C)
   ·cases h
 |[],_::_,x,h=>by simp[yB]at h
 |_::_,[],x,h=>by simp[yB]at h
def mO(l:aa (Bool×TC×Nat)):Bool:=l.all λp=>Nat.ble (full p.2.1) p.2.2
def afa(t:TC)(g:Nat)(x:T t)(h:full t <= g):(enc t g x).all V.loc=true:=by
 rw[cw];intro y D;have E:=zX t g x y D;have hl:=O0 t g x y D;cases y with
 | sl L C q l=>
  have O:C=g:=by simpa [V.gr]using E
  subst O;have hl:=cX hl;show Ap L C=true
  match C,h with
  |0,h=>omega
  |1,h=>omega
  | n+2,h=>
   simp only[Ap,eR];left;exact jv (by omega)
 |_=>rfl
def Yr:∀ (l:aa (Bool×TC×Nat)) (ps:aa Pt) (x:ja l),mO l=true -> qJ l ps=some x -> (uw l x).length=ps.length /\ ∀ (nm:Nat -> Nat) (off:Nat) (C:aa Value),kf w B aj nm off ps C -> kf w B aj nm off (uw l x) C
 |[],[],x,_,h=>⟨rfl,λnm off C D=>D⟩
 | [(b,t,g)],[(E,C)],x,O,h=>by
  unfold qJ at h;cases hb:b==E with
  |false=>rw[hb]at h;cases h
  | true=>
   rw[hb]at h;have h:dec t g C=some x:=h;have hb:b=E:=by simpa using hb
   subst hb;have U:full t <= g:=by simpa [mO]using O
   refine⟨rfl,λnm off us D=>?_⟩
   match us,D with
   |[u],⟨⟨_,L⟩,_⟩=>exact⟨⟨afa t g x U,L.uC (mZ t g C x h)⟩,trivial⟩
 | (b,t,g) :: q :: r,(E,C) :: ps,x,O,h=>by
  unfold qJ at h;cases hb:b==E with
  |false=>grind
  | true=>
   rw[hb,au]at h;have hb:b=E:=by simpa using hb
   subst hb;have T:full t <= g/\mO (q :: r)=true:=by
    simp only[mO,List.all_cons,aS]at O ⊢;simp_all
   split at h
   ·rename_i y ys L Y;injection h with h;subst h;obtain⟨Z,k2⟩:=Yr (q :: r) ps ys T.2 Y
    refine⟨by simp[uw,Z],λnm off us D=>?_⟩
    match us,D with
    | u :: us,⟨⟨_,hp⟩,v8⟩=>
     have hlen:=(mZ t g C y L).1;refine⟨⟨afa t g y T.1,hp.uC (mZ t g C y L)⟩,?_⟩;simp_all
   ·cases h
 |[],_::_,x,_,h=>by simp[qJ]at h
 |[_],[],x,_,h=>by simp[qJ]at h
 |[_],_::_::_,x,_,h=>by simp[qJ]at h
 |_::_::_,[],x,_,h=>by simp[qJ]at h
def afb{l:aa (Bool×TC×Nat)}{E:gC}{x:ja l}(O:mO l=true)(h:mL l E=some x){nm:Nat -> Nat}{v:Value}(D:qI w B aj nm E v):qI w B aj nm (fV l x) v:=by
 cases E with
 | one p=>
  obtain⟨C,L⟩:=Yr (w:=w) (B:=B) (aj:=aj) l [p] x O h;have D:kf w B aj nm 0 [p] [v]:=D;have:=L nm 0 [v] D;unfold fV
  match hm:uw l x,C,this with
  |[q],_,this=>exact this
  |[],C,_=>cases C
  |_::_::_,C,_=>simp at C
 | fB ps=>
  simp only[mL]at h;cases hb:Nat.beq ps.length 1 with
  |true=>simp_all
  | false=>
   rw[hb,aq]at h;obtain⟨C,L⟩:=Yr (w:=w) (B:=B) (aj:=aj) l ps x O h;obtain⟨T,e,D⟩:=D;have:=L nm 0 _ D;unfold fV
   match hm:uw l x,C,this with
   |[q],C,this=>simp_all
   |[],_,this=>exact⟨T,e,this⟩
   |_::_::_,_,this=>exact⟨T,e,this⟩
def afc:∀ (l:aa (Bool×TC)) (x:lK l),(gL l x).length=l.length
 |[],x=>rfl
 |(b,t)::l,x=>by simp[gL,afc l]
def afd:∀ (l:aa (Bool×TC)) (x:lK l) (j:Nat) (p:Pt),(gL l x)[j]?=some p->∀ y∈p.2,y.aF=true
 |[],x,j,p,C,_,_=>by simp[gL]at C
 | (b,t) :: l,x,0,p,C,y,D=>by
  simp[gL]at C;subst C;obtain⟨i,hi⟩:=List.mem_iff_getElem?.1 D;exact sR t 0 x.1 (by omega) i y hi
 |(b,t)::l,x,j+1,p,C,y,D=>afd l x.2 j p (by simpa [gL]using C) y D
def J7{f:Nat}{fn:Func}{code:Code}{uL:aa Pt}{ro:aa (Bool×TC×Nat)}{y:ja ro}(hf:P.funcs[f]?=some fn)(hb:fn.body=some code)(hN:fn.ntmps=N)(T:uL.length <= N)(fo:mO ro=true)
  (eP:gu P Φ) (yC:qQ P N Λ (occs code)) (asG:∀(j:Nat) p,uL[j]?=some p -> ∀y∈p.2,y.aF=true) (L:qT P N Φ Λ code fn.results uL (mL ro)=some y) (nm:Nat -> Nat) (w:World) (bX:Array Value) (U:qc w uL bX) (Y:Hd w (λ_=>none)):
  Calls P f bX w λe w'=>∃v aD,e = .returned v/\Below w.heap.size w w'/\(∀b k,aD b=some k -> w.heap.size <= b/\b<w'.heap.size/\k≠[])/\qI w' w.heap.size aD nm (fV ro y) v:=by
 have T:bX.size <= N:=by rw[U.1];exact T
 refine calls_of_wp hf hb ?_;unfold qT at L;have hR:R (.of w Y) N (ae8 uL) { tmps:=bX++Array.replicate (fn.ntmps-bX.size) undef,defers:=[] } w:=by
  refine⟨λ_=>none,λ_=>.aB 0 0,.of (Below.refl w.heap.size w) (dW _),(λb k D=>by cases D),(λn y L=>by cases L),λj=>?_,by simp[hN];omega,rfl,(λr l h=>by cases h),(λ_ _=>rfl)⟩
  show RA w w.heap.size _ _ (match uL[j]? with|some p=>Yp p|none=>.undef) _;cases Z:uL[j]? with
  |none=>trivial
  | some p=>
   obtain⟨u,hu,ta⟩:=U.2 j p Z;have hj:=(jj.1 hu).1;have e:(bX++Array.replicate (fn.ntmps-bX.size) undef).getD j undef=u:=by rw[iV,Array.getElem?_append_left hj,hu];rfl
   rw[e];exact ta.ra (asG j p Z)
 refine wp_mono (J1 (w0:=.of w Y) eP code _ _ L yC _ w hR) λe O w' C=>?_
 obtain⟨dz,D,aj,ρ,E⟩:=C;have fin:I8 P dz fn.results (mL ro)=some y -> O.defers=[] /\ ∃ v,(results fn O.tmps).run P w' = .ok v w' /\ ∃ AP aD,Ending.returned v=Ending.returned AP/\Below w.heap.size w w'/\(∀ b k,aD b=some k -> w.heap.size <= b/\b<w'.heap.size/\k≠[])/\qI w' w.heap.size aD nm (fV ro y) AP:=by
  intro qj;obtain⟨res,mK,dZ⟩:=apU qj;obtain⟨v,aD,h1,h2,h3⟩:=dZ aj ρ O w' E nm;exact⟨E.defers,v,h1,v,aD,rfl,⟨E.below.os,E.below.tape,E.below.output,E.below.size,λk D=>E.below.block k D rfl⟩,λb k hb=>⟨(h2 b k hb).1.resolve_right (λh=>h rfl),(h2 b k hb).2⟩,afb fo mK h3⟩
 split at D
 next C=>have C:=wE C;subst C;exact fin D
 next C=>have C:=wE C;subst C;exact fin D
 ·cases D
def asH{ai:aa (Bool×TC)}{args:aa Pt}{x:lK ai}{bX:Array Value}(E:yB ai args=some x)(C:qc w args bX):qc w (gL ai x) bX:=by
 obtain⟨L,O⟩:=Yq ai args x E
 refine⟨C.1.trans L.symm,λj p T=>?_⟩
 obtain⟨q,U,D,Y⟩:=O j p T;obtain⟨u,Z,ta⟩:=C.2 j q U;refine⟨u,Z,?_⟩;obtain⟨b,ys⟩:=p;obtain⟨b',xs⟩:=q;simp only at D;subst D;exact ta.uC Y
def Ys{f:Nat}{ai:aa (Bool×TC)}{ro:aa (Bool×TC×Nat)}{F:lK ai->ah (ja ro)}(h:∀ x y,F x=some y->∀ (nm:Nat->Nat) (w:World) (bX:Array Value),qc w (gL ai x) bX->Hd w (λ_=>none)->
  Calls P f bX w λe w'=>∃v aD,e = .returned v/\Below w.heap.size w w'/\(∀b k,aD b=some k->w.heap.size<=b/\b<w'.heap.size/\k≠[])/\qI w' w.heap.size aD nm (fV ro y) v):iR P f (gW ai ro F):=by
 refine⟨λargs X Y k g=>?_,λargs T C nm w bX D E=>?_⟩
 ·unfold gW;dsimp only;split
  ·split<;>rfl
  ·rfl
 ·simp only[gW]at C;split at C
  ·rename_i x L;split at C
   next y O=>injection C with C;subst C;exact h x y O nm w bX (asH L D) E
   ·cases C
  ·cases C
def asJ{f:Nat}{fn:Func}{code:Code}{ai:aa (Bool×TC)}{ro:aa (Bool×TC×Nat)}{F:lK ai->ah (ja ro)}(C:P.funcs[f]?=some fn)(hb:fn.body=some code)(D:fn.ntmps=N)(E:(fn.name == "runtime.NumGoroutine")=false)(L:Nat.ble ai.length N=true)(O:mO ro=true)
  (T:gu P Φ) (U:qQ P N Λ (occs code)) (Y:∀x,qT P N Φ Λ code fn.results (gL ai x) (mL ro)=F x):enters P f/\iR P f (gW ai ro F):=
 ⟨⟨fn,C,E,by rw[hb];rfl⟩,Ys λx y Z nm w bX mJ hQ=>J7 C hb D (by rw[afc];exact cX L) O T U (afd ai x) ((Y x).trans Z) nm w bX mJ hQ⟩
def asK{f:Nat}{fn:Func}{code:Code}{t:TC}{g:Nat}{F:aa (T t)->ah (aa (T t))}(E:P.funcs[f]?=some fn)(hb:fn.body=some code)(O:fn.ntmps=N)(J8:(fn.name == "runtime.NumGoroutine")=false)(Yt:Nat.ble 1 N=true)(U:mO [(false,.sl t,g)]=true)
  (Y:gu P Φ) (Z:qQ P N Λ (occs code)) (hF:∀x:aa (T t),qT P N Φ Λ code fn.results [(false,[.sl t 0 false x])] (mL [(false,.sl t,g)])=F x)
  (h0:qT P N Φ Λ code fn.results [(false,[.nil])] (mL [(false,.sl t,g)])=some ([]:aa (T t))) (h1:qT P N Φ Λ code fn.results [(false,[.sl t 0 true []])] (mL [(false,.sl t,g)])=some ([]:aa (T t))):
  enters P f/\iR P f (gW [(false,.sl t)] [(false,.sl t,g)] λx=>bif ke x.1 then some ([]:aa (T t))else F x.1):=by
 refine⟨⟨fn,E,J8,by rw[hb];rfl⟩,Ys λx y D nm w bX L hQ=>?_⟩
 obtain⟨l,_⟩:=x;have L:qc w [(false,[.sl t 0 false l])] bX:=L;have hle:1<=N:=cX Yt;have QH:∀ (v:V),v.aF=true->∀ (j:Nat) p,([(false,[v])]:aa Pt)[j]?=some p->∀ y∈p.2,y.aF=true:=by
  intro v hv j p C y D;rcases j with _|j
  ·injection C with C;subst C;rw[List.mem_singleton.1 D];exact hv
  ·cases C
 obtain⟨u,hu,C⟩:=L.2 0 _ rfl;obtain⟨us,e,_,hv⟩:=C.pv;have e:us = #[u]:=e;subst e;obtain⟨v,g1,hr⟩:=hv 0 _ rfl;have g1:u=v:=by simpa using g1
 subst g1;have one:∀ v:V,RV w w.heap.size (λ_=>none) [] v u->qc w [(false,[v])] bX:=λv hr=>⟨L.1,λj p C=>by
  rcases j with _|j
  ·injection C with C;subst C;exact⟨u,hu,.v _ _ ⟨#[u],rfl,rfl,λi x hx=>by
    rcases i with _|i
    ·injection hx with hx;subst hx;exact⟨u,rfl,hr⟩
    ·cases hx⟩⟩
  ·cases C⟩
 cases l with
 |cons a l=>exact J7 (uL:=[(false,[.sl t 0 false (a::l)])]) E hb O hle U Y Z (QH _ rfl) ((hF _).trans D) nm w bX L hQ
 | nil=>
  have D:some ([]:aa (T t))=some y:=D;injection D with D;subst D;cases hr with
  |eU=>exact J7 (uL:=[(false,[.nil])]) E hb O hle U Y Z (QH _ rfl) h0 nm w bX (one _ (.nil _)) hQ
  |gd _ _ _ A c ho=>exact J7 (uL:=[(false,[.sl t 0 true []])]) E hb O hle U Y Z (QH _ rfl) h1 nm w bX (one _ (.gq _ _ _ _ _ ho)) hQ
  |aF _ _ _ qn l b off cap us ho hl Pb hB jL hc oa=>exact J7 (uL:=[(false,[.sl t 0 true []])]) E hb O hle U Y Z (QH _ rfl) h1 nm w bX (one _ (.gq _ _ _ _ _ ho)) hQ
end
def J9(N:Nat)(σ:S)(t:Nat):S:=match σ.t t with
 | .view [q] s 0 j=>bif Nat.blt t N then (match σ.m q with
  |some (.sl (.sl C (o+2) D l))=>bif Nat.beq (full C) 0 then (((σ.drop q).drop t).root t (.sl (.sl C 2 false (l.take j)))).set t (.lf (.own [t]))else σ
  |_=>σ)else σ
 |_=>σ
def wF(N:Nat)(σ:S):aa ResultVar->S
 |[]=>σ
 |.tmp t::r=>wF N (J9 N σ t) r
 |_::r=>wF N σ r
def Df{X:Type}(P:Program)(N:Nat)(Φ:eX)(Λ:ot)(code:Code)(C:Array ResultVar)(D:aa In)(args:aa Ar)(k:aa In->gC->ah X):ah X:=
 mN P N Φ Λ code (CL D args) λe σ=>match De e with
  |some 0=>Jg P (wF N σ C.toList) C D k
  |some 1=>Jg P (wF N σ C.toList) C D k
  |_=>none
section
variable {P:Program} {w w':World} {w0:Wd} {B N:Nat} {aj aD:bM} {ρ ρ':Nat->Loc} {σ:S} {a:Act} {X:Type} {d:Nat} {r:X} {o:Oper} {Φ:eX} {Λ:ot}
def Rl.J9{t:Nat}(h:Rl w0 N aj ρ σ a w):∃ aD ρ',Rl w0 N aD ρ' (Proofs.YtnilicojgkhpnaaGreat.J9 N σ t) a w:=by
 unfold Proofs.YtnilicojgkhpnaaGreat.J9;split
 ·rename_i q s j ht;cases hN:Nat.blt t N with
  |false=>exact⟨aj,ρ,h⟩
  | true=>
   have hN:t<N:=by have:=cX hN;omega
   rw[au];split
   ·rename_i E g qn l hm;cases Y:Nat.beq (full E) 0 with
    |false=>exact⟨aj,ρ,h⟩
    | true=>
     have Y:=cK Y;rw[au];have hv:=h.tmp t;rw[ht]at hv;obtain⟨A,n,c,Z,_,hj,hu⟩:=hv;have gG:sliced A 0 j c s = .slice A j c:=by cases A<;>simp[sliced,Addr.add]
     rw[gG]at hu;let D:bM:=λb=>match aj b with
      |some k=>bif dc q k then (bif Nat.beq k.length 1 then some [t]else none)else some k
      |none=>none
     have hrel:Rel q aj D:=⟨h.xR,λb hb=>by simp[D,hb],λb k hb C=>by simp[D,hb,C]⟩
     have h1:=h.rel hrel (λb k C=>by
      simp only[D]at C;cases hl:aj b with
      |none=>rw[hl]at C;cases C
      | some k'=>
       rw[hl]at C;simp only at C;refine⟨⟨_,rfl⟩,?_⟩;cases hq:dc q k' with
       | true=>
        rw[hq,au]at C;cases hlen:Nat.beq k'.length 1 with
        |true=>rw[hlen,au]at C;injection C with C;rw[<- C];simp
        |false=>rw[hlen,aq]at C;cases C
       | false=>
        rw[hq,aq]at C;injection C with C;subst C;exact(h.dD b k' hl).2.2)
     have fo:=h.root q _ hm;generalize O:bu.sl (.sl E (g+2) qn l)=z at fo;cases fo with
     |aB=>cases O
     |mp=>cases O
     |gh=>cases O
     | sl v y cG T=>
      injection O with O;subst O;simp only[dm,cG]at Z;injection Z with Z;subst Z;have hn:n=l.length:=by cases T<;>rfl
      have asM:RV w w0.heap.size D [t] (.sl E 2 false (l.take j)) (.slice A j c):=by
       cases T with
       | eU=>
        have:j=0:=by simpa using hj
        subst this;exact .eU _ _ _
       |gd _ _ _ _ _ ho=>omega
       |gq _ _ _ _ _ ho=>omega
       |aF _ _ _ _ _ _ _ _ _ ho=>omega
       | own _ _ _ _ _ b cap cs us qF hh hs Cw sS hc T=>
        have hl:(l.take j).length=j:=by rw[fY];omega
        have hle:∀i (hi:i<(l.take j).length),∃th:i<l.length,(l.take j)[i]=l[i]:=λi hi=>⟨by omega,List.getElem_take⟩
        have:=RV.own (w:=w) (B:=w0.heap.size) (aj:=D) [t] E 0 false (l.take j) b c cs us (by simp[D,qF,dc]) hh hs (by omega) ⟨sS.1,λh=>by cases h⟩ (λi hi k x U=>by
         obtain⟨th,e⟩:=hle i hi;rw[e,Fg E Y 0]at U;exact hc i th k x U) (λi hi k x U=>by
         obtain⟨th,e⟩:=hle i hi;rw[e,Fg E Y 0]at U;exact(T i th k x U).ud (zW E g _ Y x (iq U)))
        rw[hl]at this;exact this
      have hrm:Fc w w D D t:=⟨dW _,λ_ _ _=>rfl,λ_ _=>rfl,h1.xR⟩
      have L:=h1.Ac (d:=t) (ρ':=ck ρ t (.eG (.slice A j c))) (x:=.sl (.sl E 2 false (l.take j))) (h.dN t (.inl hN)) ⟨rfl,rfl,rfl,dW _,λ_ _ _=>rfl⟩ hrm (λb k hb C=>by
       have:=(h1.dD b k C).2.1;omega) (λr T=>cU _ _ _ T) (.sl _ _ (cu _ _ _) asM)
      refine⟨_,_,L.below,L.dD,L.root,λk=>?_,L.size,L.defers,L.fix,L.dN⟩
      show RA w w0.heap.size D _ (ck _ t _ k) _;by_cases C:k=t
      ·subst C;rw[cu,hu];exact⟨rfl,by simp only[dm,cu]⟩
      ·rw[cU _ _ _ C];exact L.tmp k
   ·exact⟨aj,ρ,h⟩
 ·exact⟨aj,ρ,h⟩
def Rl.wF:∀ (l:aa ResultVar) (σ:S) (aj:bM) (ρ:Nat -> Loc),Rl w0 N aj ρ σ a w -> ∃ aD ρ',Rl w0 N aD ρ' (Proofs.YtnilicojgkhpnaaGreat.wF N σ l) a w
 |[],_,aj,ρ,h=>⟨aj,ρ,h⟩
 | .tmp t :: r,_,_,_,h=>by
  obtain⟨C,D,E⟩:=h.J9;exact Rl.wF r _ C D E
 |.cell _ _::r,_,aj,ρ,h=>Rl.wF r _ aj ρ h
def fnM_core{f:Nat}{fn:Func}{code:Code}{C:aa In}{args:aa Ar}{k:aa In -> gC -> ah X}(hf:P.funcs[f]?=some fn)(hb:fn.body=some code)(hN:fn.ntmps=N)(Yu:N <= 20000)(hlen:args.length <= N)
  (eP:gu P Φ) (yC:qQ P N Λ (occs code)) (h:Df P N Φ Λ code fn.results C args k=some r) (nm:Nat -> Nat) (w:World) (aj:bM) (ρ:Nat -> Loc) (bX:Array Value)
  (hE:qe w w.heap.size aj ρ 0 C) (oU:∀b k,aj b=some k -> b<w.heap.size/\k≠[]) (iU:bX.size=args.length) (hv:∀i,RA w w.heap.size aj ρ ((CL C args).t i) (bX.getD i undef)) (U:Hd w aj):
  Calls P f bX w λe w'=>∃v aD outs D,k outs D=some r/\e = .returned v/\jz ⟨w,aj,λ_=>none,U,λ_ _=>rfl⟩ w w'/\(∀b k,aD b=some k -> (w.heap.size <= b \/ aj b≠none)/\b<w'.heap.size/\k≠[])/\qI w' w.heap.size aD nm D v/\rV w w' aD ρ nm 0 D.len C outs:=by
 let W:Wd:=⟨w,aj,λr=>if 20000 <= r/\r<60000 then some (ρ r)else none,U,λr hr=>bQ⟩
 refine calls_of_wp hf hb ?_;unfold Df at h;have hR:R W N (CL C args) { tmps:=bX++Array.replicate (fn.ntmps-bX.size) undef,defers:=[] } w:=by
  refine⟨aj,ρ,.of (Below.refl w.heap.size w) (dW _),λb k hb=>⟨.inr (by rw[show W.L b=aj b from rfl,hb];simp),oU b k hb⟩,qe.roots C 0 _ hE (λr x hx=>by cases hx),λj=>?_,by simp[hN];omega,rfl,λr l hr=>?_,λr hr=>?_⟩
  ·by_cases hj:j<bX.size
   ·have e:(bX++Array.replicate (fn.ntmps-bX.size) undef).getD j undef=bX.getD j undef:=by
     rw[iV,Array.getElem?_append_left hj,iV]
    rw[e];exact hv j
   ·have e:(CL C args).t j = .undef:=by
     simp only[CL,List.getElem?_eq_none (by omega:args.length <= j)]
    rw[e];trivial
  ·grind
  ·grind
 refine wp_mono (J1 (w0:=W) eP code _ _ h yC _ w hR) λe Y w' E=>?_
 obtain⟨dz,T,Jc,Ja,O⟩:=E;have fin:Jg P (Proofs.YtnilicojgkhpnaaGreat.wF N dz fn.results.toList) fn.results C k=some r -> Y.defers=[] /\ ∃ v,(results fn Y.tmps).run P w' = .ok v w' /\ ∃ AP aD outs D,k outs D=some r/\Ending.returned v=Ending.returned AP/\jz ⟨w,aj,λ_=>none,U,λ_ _=>rfl⟩ w w'/\(∀ b k,aD b=some k -> (w.heap.size <= b \/ aj b≠none)/\b<w'.heap.size/\k≠[])/\qI w' w.heap.size aD nm D AP/\rV w w' aD ρ nm 0 D.len C outs:=by
  intro qj;obtain⟨outs,D,hko,dZ⟩:=apW (w0:=W) rfl (λr Z h2=>bJ ⟨Z,h2⟩) (qe.WC C 0 hE) qj;obtain⟨dX,fD,kg⟩:=Rl.wF _ dz Jc Ja O;obtain⟨v,aD,Z,h2,h3,h4⟩:=dZ dX fD Y w' kg nm;exact⟨O.defers,v,Z,v,aD,outs,D,hko,rfl,⟨O.below.os,O.below.tape,O.below.output,O.below.size,λk T=>O.below.block k T⟩,h2,h3,h4⟩
 split at T
 next E=>have E:=wE E;subst E;exact fin T
 next E=>have E:=wE E;subst E;exact fin T
 ·cases T
end
def sk:(l:aa (Bool×TC×Nat))->aa In->ah (s9 l)
 |[],[]=>some ()
 | (true,t,g) :: r,.aB cs :: is=>match dec t g cs,sk r is with
  |some x,some xs=>some (x,xs)
  |_,_=>none
 | (false,t,g) :: r,.sl y :: is=>match (bif Nat.ble 1000000 g then (bif y.kJ then none else y.fP t (g+2))else bif y.kJ then y.fP t (g+2)else none),sk r is with
  |some x,some xs=>some (x,xs)
  |_,_=>none
 |_,_=>none
def QI:aa In->aa In->aa In->Prop
 |[],[],[]=>True
 |.aB L::C,.aB cs::r,.aB fe::D=>(lX cs fe/\L.map (λv=>(v.plain,v.aF))=fe.map (λv=>(v.plain,v.aF))/\∀x∈fe,x.kJ=true)/\QI C r D
 |.sl _::C,.sl y::r,.sl E::D=>(Wk y E/\(y = .nil->E = .nil))/\QI C r D
 |_,_,_=>False
def QJ:∀ (ps:aa PK) (C:nh ps) (is:aa In) (x:s9 (fQ ps)),sk (fQ ps) is=some x -> QI (og ps C) is (lY (fQ ps) x)
 |[],_,[],x,_=>trivial
 |[],_,_::_,x,h=>by simp[sk,fQ]at h
 |.v b t::ps,C,is,x,h=>QJ ps C.2 is x h
 |.p t g off::ps,C,[],x,h=>by simp[sk,fQ]at h
 |.s t g::ps,C,[],x,h=>by simp[sk,fQ]at h
 |.p t g off::ps,C,.sl _::_,x,h=>by simp[sk,fQ]at h
 |.s t g::ps,C,.aB _::_,x,h=>by simp[sk,fQ]at h
 | .p t g off :: ps,C,.aB cs :: is,x,h=>by
  have h:sk ((true,t,g)::fQ ps) (.aB cs::is)=some x:=h;unfold sk at h;split at h
  next y ys D L=>injection h with h;subst h;exact⟨⟨mZ t g cs y D,aoZ t g C.1 y,λz O=>Vx t g y z O⟩,QJ ps C.2 is ys L⟩
  ·cases h
 | .s t g :: ps,C,.sl y :: is,x,h=>by
  have h:sk ((false,t,g)::fQ ps) (.sl y::is)=some x:=h;unfold sk at h;split at h
  ·rename_i z T D L;injection h with h;subst h;refine⟨?_,QJ ps C.2 is T L⟩;cases hb:Nat.ble 1000000 g with
   | true=>
    cases E:y.kJ with
    |true=>simp_all
    | false=>
     have:y = .nil:=by cases y<;>first|rfl|cases E
     subst this;exact⟨.same _,λ_=>rfl⟩
   | false=>
    cases E:y.kJ with
    |false=>simp_all
    | true=>
     rw[hb,E]at D;exact⟨V.It D,λe=>by subst e;cases E⟩
  ·cases h
def rV.typed{w w':World}{aD:bM}{ρ:Nat -> Loc}{nm:Nat -> Nat}:∀ (E:aa In) (i Y:Nat) (outs T:aa In),rV w w' aD ρ nm i Y E outs -> QI E outs T -> Jf w w' aD ρ nm i Y E T
 |[],i,Y,[],[],h,C=>trivial
 | .aB cs0 :: E,i,Y,.aB cs1 :: outs,.aB cs2 :: T,h,C=>by
  obtain⟨⟨b,off,cells,x5,e,e',Z,h2,h3,h4,h5,h6,h7⟩,hr⟩:=h;obtain⟨⟨U,Yv,hnn⟩,p9⟩:=C
  refine⟨⟨b,off,cells,x5,e,e',Z,h2,h3,h4,by rw[<- U.1];exact h5,by rw[<- U.1];exact h6,λj x hx=>?_⟩,rV.typed E _ _ outs T hr p9⟩
  have hj:j<cs1.length:=by rw[U.1];exact(eo.1 hx).1
  obtain⟨u,hu,hc⟩:=h7 j _ (bY hj);have C:=U.2 j _ x (bY hj) hx;have Yw:∀ L,cs0[j]?=some L -> L.plain=x.plain/\L.aF=x.aF:=by
   intro L h0;have e1:(cs0.map (λv=>(v.plain,v.aF)))[j]?=(cs2.map (λv=>(v.plain,v.aF)))[j]?:=by rw[Yv]
   grind
  have hxn:=hnn x (iq hx);generalize cs1[j]=y at hc C;refine⟨u,hu,?_⟩;rcases hc with ⟨D,O⟩|⟨D,O,L,c3,c4⟩|⟨D,O,c6,⟨L,c3,c4⟩,c5⟩|⟨D,O⟩
  ·cases C with
   |same=>grind
   |nil t o=>cases D
   |q t o l=>cases D
   |gr=>cases D
  ·subst D O;have hf:x.aF=false:=by rw[<- (Yw L c3).2];exact c4
   cases C with
   |same=>cases hxn
   |nil t o=>exact .inr (.inr ⟨hf,.eU _ _ _⟩)
  ·cases C with
   |same=>grind
   |nil t o=>cases c6
   |q t o l=>exact .inr (.inl ⟨rfl,O,c5⟩)
   |gr t o o' qn l Z h2=>simp[V.aF]at O;omega
  ·have hf:=C.adr D;exact .inr (.inr ⟨hf,O.wk C⟩)
 | .sl y0 :: E,i,Y,.sl y1 :: outs,.sl y2 :: T,h,C=>by
  obtain⟨h,hr⟩:=h;obtain⟨⟨U,hn⟩,p9⟩:=C;exact⟨h.imp hn (λ⟨v,Z,h2⟩=>⟨v,Z,h2.wk U⟩),rV.typed E _ _ outs T hr p9⟩
 |[],_,_,_::_,_,h,_=>h.elim
 |[],_,_,[],_::_,_,h=>h.elim
 |.aB _::_,_,_,[],_,h,_=>h.elim
 |.sl _::_,_,_,[],_,h,_=>h.elim
 |.aB _::_,_,_,.sl _::_,_,h,_=>h.elim
 |.sl _::_,_,_,.aB _::_,_,h,_=>h.elim
 |.aB _::_,_,_,.aB _::_,[],_,h=>h.elim
 |.aB _::_,_,_,.aB _::_,.sl _::_,_,h=>h.elim
 |.sl _::_,_,_,.sl _::_,[],_,h=>h.elim
 |.sl _::_,_,_,.sl _::_,.aB _::_,_,h=>h.elim
def afe:∀ (l:aa (Bool×TC×Nat)) (ps:aa Pt) (x:ja l),qJ l ps=some x -> (ps.map λp=>p.2.length)=((uw l x).map λp=>p.2.length)
 |[],[],x,h=>rfl
 | [(b,t,g)],[(C,D)],x,h=>by
  unfold qJ at h;cases hb:b==C with
  |false=>rw[hb]at h;cases h
  | true=>
   rw[hb]at h;simp[uw,(mZ t g D x h).1]
 | (b,t,g) :: q :: r,(C,D) :: ps,x,h=>by
  unfold qJ at h;cases hb:b==C with
  |false=>simp_all
  | true=>
   rw[hb]at h;split at h
   next y ys E L=>injection h with h;subst h;simp only[uw,List.map_cons];rw[afe _ ps ys L,(mZ t g D y E).1]
   ·cases h
def asN{l:aa (Bool×TC×Nat)}{C:gC}{x:ja l}(h:mL l C=some x):C.len=(fV l x).len:=by
 have key:∀ ps,qJ l ps=some x -> (ps.map λp=>p.2.length).sum=(fV l x).len:=by
  intro ps h;rw[afe l ps x h];unfold fV
  match hm:uw l x with
  |[q]=>simp[gC.len]
  |[]=>rfl
  |_::_::_=>rfl
 cases C with
 |one p=>have:=key [p] h;simpa [gC.len]using this
 | fB ps=>
  simp only[mL]at h;cases hb:Nat.beq ps.length 1 with
  |true=>simp_all
  |false=>rw[hb]at h;exact key ps h
section
variable {P:Program} {w w':World} {w0:Wd} {B N:Nat} {aj aD:bM} {ρ ρ':Nat->Loc} {σ:S} {a:Act} {X:Type} {d:Nat} {r:X} {o:Oper} {Φ:eX} {Λ:ot}
def FT(l ro:aa (Bool×TC×Nat))(outs:aa In)(C:gC):ah (ja ro×s9 l):=
 match mL ro C,sk l outs with
 |some x,some y=>some (x,y)
 |_,_=>none
def QK{f:Nat}{fn:Func}{code:Code}{ps:aa PK}{ro:aa (Bool×TC×Nat)}{F:nh ps->ah (ja ro×s9 (fQ ps))}(L:P.funcs[f]?=some fn)(hb:fn.body=some code)(T:fn.ntmps=N)(U:(fn.name == "runtime.NumGoroutine")=false)(Y:Nat.ble ps.length N=true)(Z:Nat.ble N 20000=true)(fo:mO ro=true)
  (eP:gu P Φ) (yC:qQ P N Λ (occs code)) (hF:∀x,Df P N Φ Λ code fn.results (og ps x) (kQ ps 0 x) (FT (fQ ps) ro)=F x):enters P f/\uy P f ⟨ps,ro,F⟩:=by
 refine⟨⟨fn,L,U,by rw[hb];rfl⟩,λx y h nm w aj ρ bX hE oU D hv hQ=>?_⟩
 have h:F x=some y:=h;rw[<-hF x]at h;have hlen:∀ (ps:aa PK) (i:Nat) (x:nh ps),(kQ ps i x).length=ps.length:=by
  intro ps
  induction ps with
  |nil=>intro i x;rfl
  | cons p ps E=>
   intro i x;cases p with
   |v=>exact bf (· + 1) (E _ _)
   |p=>exact bf (· + 1) (E _ _)
   |s=>exact bf (· + 1) (E _ _)
 have D:bX.size=(kQ ps 0 x).length:=by rw[hlen];exact D
 refine(fnM_core L hb T (cX Z) (by rw[hlen];exact cX Y) eP yC h nm w aj ρ bX hE oU D hv hQ).mono λe w' uq=>?_
 obtain⟨v,aD,outs,res,C,he,sX,hl,mK,WT⟩:=uq;unfold FT at C;split at C
 next y1 y2 O h2=>injection C with C;subst C;refine⟨v,aD,he,sX,hl,afb fo O mK,?_⟩;rw[<-asN O];exact rV.typed _ _ _ _ _ WT (QJ ps x outs y2 h2)
 ·cases C
end
set_option maxRecDepth 100000
section
variable {P:Program} {w w':World} {w0:Wd} {B N:Nat} {aj aD:bM} {ρ ρ':Nat->Loc} {σ:S} {a:Act} {X:Type} {d:Nat} {r:X} {o:Oper} {Φ:eX} {Λ:ot}
end
def nV(i j:Nat):Nat:=20001+1000*i+j
def FU(i j:Nat)(x:V):Lf:=match x with
 |.sl ..=>.own [nV i j]
 |x=>.v x
def yD(i:Nat):Nat->aa V->aa Lf
 |_,[]=>[]
 |j,x::xs=>FU i j x::yD i (j+1) xs
def Yx(args:aa Pt)(n:Nat):ah bu:=bif Nat.ble 20001 n&&Nat.blt n 60000 then (match args[(n-20001) / 1000]? with
 | some (_,xs)=>(match xs[(n-20001) % 1000]? with
  |some (.sl t g q l)=>some (.sl (.sl t g q l))
  |_=>none)
 |none=>none)else none
def aff(args:aa Pt):S:=⟨λi=>match args[i]? with
 |some (false,[x])=>.lf (FU i 0 x)
 |some (true,xs)=>.agg (yD i 0 xs)
 |_=>.undef,Yx args⟩
def QL(σ:S)(C:Array ResultVar)(a j:Nat)(t:TC):ah (Nat×Nat):=match C.toList with
 | [.tmp s]=>(match σ.t s with
  |.view [n] D i k=>bif Nat.beq n (nV a j)&&Nat.beq D (aE t)then some (i,k)else none
  |_=>none)
 |_=>none
def afg(P:Program)(N:Nat)(Φ:eX)(Λ:ot)(code:Code)(C:Array ResultVar)(a j:Nat)(t:TC)(args:aa Pt):ah (Nat×Nat):=
 mN P N Φ Λ code (aff args) λe σ=>match De e with
  |some 0=>QL σ C a j t
  |some 1=>QL σ C a j t
  |_=>none
def Yy(ai:aa (Bool×TC))(a j:Nat)(t:TC)(F:lK ai->ah (Nat×Nat)):CW:=⟨a,j,t,λargs=>match yB ai args with
 |some x=>F x
 |none=>none⟩
section
variable {P:Program} {w w':World} {w0:Wd} {B N:Nat} {aj aD:bM} {ρ ρ':Nat->Loc} {σ:S} {a:Act} {X:Type} {d:Nat} {r:X} {o:Oper} {Φ:eX} {Λ:ot}
def afh(i:Nat):∀ (xs:aa V) (C j:Nat),(yD i C xs)[j]?=(xs[j]?).map λx=>FU i (C+j) x
 |[],C,j=>by simp[yD]
 |x::xs,C,0=>by simp[yD]
 | x :: xs,C,j+1=>by
  simp[yD,List.getElem?_cons_succ,afh]
  grind
def afi(i:Nat):∀ (xs:aa V) (C:Nat),(yD i C xs).length=xs.length
 |[],_=>rfl
 |x::xs,C=>by simp[yD,afi i xs (C+1)]
def afj{i j:Nat}(h:j<1000):(nV i j-20001) / 1000=i/\(nV i j-20001) % 1000=j:=by
 unfold nV;omega
def AQ(bX:Array Value)(n:Nat):Loc:=.eG ((uE bX ((n-20001) / 1000) ((n-20001) % 1000)).getD undef)
def afk{bX:Array Value}{i j:Nat}{x:V}{u:Value}(D:j<1000)(E:uE bX i j=some u)(L:x.aF=true)(C:RV w B (λ_=>none) [] x u):eE w B (λ_=>none) (AQ bX) (FU i j x) u:=by
 unfold FU;split
 ·refine⟨C.n7 rfl rfl,?_⟩;obtain⟨O,T⟩:=afj (i:=i) D;simp only[dm,AQ,O,T,E];rfl
 ·exact⟨L,C⟩
def asO{f:Nat}{fn:Func}{code:Code}{ai:aa (Bool×TC)}{O T:Nat}{t:TC}{F:lK ai -> ah (Nat×Nat)}(hf:P.funcs[f]?=some fn)(hb:fn.body=some code)(hN:fn.ntmps=N)(J8:(fn.name == "runtime.NumGoroutine")=false)(Yt:Nat.ble ai.length N=true)(Yu:Nat.ble N 20000=true)(iU:(ai.all λp=>Nat.blt (aE p.2) 1000&&(p.1 || Nat.beq (aE p.2) 1))=true)(hjj:Nat.blt T 1000=true)(haa:Nat.blt O 30=true)
  (eP:gu P Φ) (yC:qQ P N Λ (occs code)) (hF:∀x,afg P N Φ Λ code fn.results O T t (gL ai x)=F x):enters P f/\P2 P f (Yy ai O T t F):=by
 refine⟨⟨fn,hf,J8,by rw[hb];rfl⟩,λargs p h w bX mJ hQ=>?_⟩
 simp only[Yy]at h;split at h
 ·rename_i x hx;obtain⟨k1,k2⟩:=Yq ai args x hx;have hlen:∀ (l:aa (Bool×TC)) (x:lK l),(gL l x).length=l.length:=by
   intro l
   induction l with
   |nil=>intro x;rfl
   |cons p l ih=>obtain⟨b,t⟩:=p;intro x;simp[gL,ih]
  have kK:bX.size=ai.length:=by rw[mJ.1,<- k1,hlen]
  have hle:bX.size <= N:=by rw[kK];exact cX Yt
  have Yu:=cX Yu;have yp:∀ (l:aa (Bool×TC)) (x:lK l),(l.all λp=>Nat.blt (aE p.2) 1000&&(p.1 || Nat.beq (aE p.2) 1))=true -> ∀ (j:Nat) p,(gL l x)[j]?=some p -> (∀ y∈p.2,y.aF=true)/\p.2.length<1000/\(p.1=true \/ p.2.length=1):=by
   intro l
   induction l with
   |nil=>intro x _ j p U;simp[gL]at U
   | cons c l ih=>
    obtain⟨b,t⟩:=c;intro x hs j p U;rw[List.all_cons,aS]at hs;cases j with
    | zero=>
     simp[gL]at U;subst U
     refine⟨λy C=>?_,?_⟩
     ·obtain⟨i,hi⟩:=List.mem_iff_getElem?.1 C;exact sR t 0 x.1 (by omega) i y hi
     ·show (enc t 0 x.1).length<1000/\(b=true \/ (enc t 0 x.1).length=1);rw[lH];have h8:=hs.1;rw[aS,eR]at h8;have h9:=cX h8.1;exact⟨h9,h8.2.imp id cK⟩
    |succ j=>exact ih x.2 hs.2 j p (by simpa [gL]using U)
  have qE:∀ (i:Nat) (p:Pt),(gL ai x)[i]?=some p -> ∃ u:Value,bX[i]?=some u/\PV w w.heap.size (λ_=>none) (λ_=>[]) p u/\(∀ y∈p.2,y.aF=true)/\p.2.length<1000:=by
   intro i p U;obtain⟨q,hq,Fh,CB⟩:=k2 i p U;obtain⟨u,Y,ta⟩:=mJ.2 i q hq;obtain⟨g1,g2,g3⟩:=yp ai x iU i p U;refine⟨u,Y,?_,g1,g2⟩;obtain⟨b,ys⟩:=p;obtain⟨b',xs⟩:=q;simp only at Fh;subst Fh;have hw:=ta.uC CB;rcases g3 with g3|g3
   ·simp only at g3;subst g3;exact hw.pvS
   ·obtain⟨y,rfl⟩:=List.length_eq_one_iff.1 g3;cases b' with
    |true=>exact hw.pvS
    |false=>exact hw.pv
  have Yz:∀ (i:Nat) (p:Pt),(gL ai x)[i]?=some p -> ∀ (j:Nat) y,p.2[j]?=some y -> ∃ u,uE bX i j=some u/\RV w w.heap.size (λ_=>none) [] y u/\y.aF=true/\j<1000:=by
   intro i p U j y C;obtain⟨u,Y,⟨us,D,h2,h3⟩,h4,h5⟩:=qE i p U;obtain⟨v,E,L⟩:=h3 j y C;refine⟨v,?_,L,h4 y (iq C),by have:=(eo.1 C).1;omega⟩;unfold uE;rw[Y];obtain⟨b,ys⟩:=p;cases b with
   | true=>
    have D:u = .agg us:=D;subst D;exact E
   | false=>
    have D:us = #[u]:=D;subst D;have hj:j=0:=by
     have:=(jj.1 E).1
     simpa using this
    subst hj;have:u=v:=by simpa using E
    subst this;have wA:∀ us,u ≠ .agg us:=by
     rintro us rfl;cases L
    cases u<;>first|exact absurd rfl (wA _)|rfl
  let W:Wd:=⟨w,λ_=>none,λr=>if 20000 <= r/\r<60000 then some (AQ bX r)else none,hQ,λr L=>bQ⟩
  refine calls_of_wp hf hb ?_;rw[<- hF x]at h;unfold afg at h;have hR:R W N (aff (gL ai x)) { tmps:=bX++Array.replicate (fn.ntmps-bX.size) undef,defers:=[] } w:=by
   refine⟨λ_=>none,AQ bX,.of (Below.refl w.heap.size w) (dW _),(λb k hk=>by cases hk),(λn y C=>?_),λi=>?_,by simp[hN];omega,rfl,λr l L=>?_,λr L=>?_⟩
   ·have C:Yx (gL ai x) n=some y:=C;unfold Yx at C;cases hb:(Nat.ble 20001 n&&Nat.blt n 60000)with
    |false=>rw[hb]at C;cases C
    | true=>
     rw[hb,au]at C;split at C
     ·rename_i b xs U;split at C
      next t' g q l hl=>injection C with C;subst C;obtain⟨u,Y,L,vV,_⟩:=Yz _ _ U _ _ hl;refine .sl u _ ?_ (L.key vV);unfold AQ;simp[*]
      ·cases C
     ·cases C
   ·show RA w w.heap.size _ _ (match (gL ai x)[i]? with | some (false,[x])=>A.lf (FU i 0 x) | some (true,xs)=>.agg (yD i 0 xs) | _=>.undef) _;have E5:∀ p:Pt,(gL ai x)[i]?=some p -> ∃ u:Value,bX[i]?=some u/\(bX++Array.replicate (fn.ntmps-bX.size) undef).getD i undef=u:=by
     intro p U;obtain⟨u,Y,_⟩:=qE i p U;have hi:=(jj.1 Y).1;exact⟨u,Y,by rw[iV,Array.getElem?_append_left hi,Y];rfl⟩
    split
    ·rename_i x' mH;obtain⟨u,Y,e⟩:=E5 _ mH;rw[e];obtain⟨v,E,L,vV,_⟩:=Yz i _ mH 0 x' rfl;have Jd:u=v:=by
      unfold uE at E;rw[Y]at E;obtain⟨u2,qb,⟨us,D,h2,h3⟩,_⟩:=qE i _ mH;rw[Y]at qb;injection qb with qb;subst qb;have D:us = #[u]:=D;subst D;obtain⟨v3,hv3,hr3⟩:=h3 0 x' rfl;have:u=v3:=by simpa using hv3
      subst this;have wA:∀ us,u ≠ .agg us:=by
       rintro us rfl;cases hr3
      cases u<;>first|exact absurd rfl (wA _)|(simp only[show Nat.beq 0 0=true from rfl,au,iX]at E;exact E)
     subst Jd;exact afk (by omega) E vV L
    ·rename_i xs mH;obtain⟨u,Y,e⟩:=E5 _ mH;rw[e];obtain⟨u2,qb,⟨us,D,h2,h3⟩,_⟩:=qE i _ mH;rw[Y]at qb;injection qb with qb;subst qb;have D:u = .agg us:=D
     refine⟨us,D,by rw[afi];exact h2,λj y C=>?_⟩
     rw[afh]at C;cases hz:xs[j]? with
     |none=>rw[hz]at C;cases C
     | some z=>
      rw[hz]at C;injection C with C;subst C;obtain⟨v,E,L,vV,hj⟩:=Yz i _ mH j z hz;have huj:us[j]?=some v:=by
       unfold uE at E;rw[Y,D]at E;exact E
      refine⟨v,huj,?_⟩;rw[fT];exact afk hj E vV L
    ·trivial
   ·have L:(if 20000 <= r/\r<60000 then some (AQ bX r)else none)=some l:=L;split at L
    ·injection L
    ·cases L
   ·show (if 20000 <= r/\r<60000 then some (AQ bX r)else none)=none;rw[bQ]
  refine wp_mono (J1 (w0:=W) eP code _ _ h yC _ w hR) λe a' w' he=>?_
  obtain⟨dz,hk,Jc,Ja,dR⟩:=he;have fin:QL dz fn.results O T t=some p -> a'.defers=[] /\ ∃ u,(results fn a'.tmps).run P w' = .ok u w' /\ ∃ A n cap,uE bX O T=some (.slice A n cap)/\p.1 <= p.2/\p.2 <= n/\Ending.returned u = .returned (sliced A p.1 p.2 cap (aE t))/\Below w.heap.size w w':=by
   intro qj;unfold QL at qj;split at qj
   ·rename_i s hs;split at qj
    ·rename_i n sz i k E;cases gO:(Nat.beq n (nV O T)&&Nat.beq sz (aE t))with
     |false=>rw[gO]at qj;cases qj
     | true=>
      rw[gO,au]at qj;injection qj with qj;subst qj;rw[aS]at gO;have hn:=cK gO.1;have asP:=cK gO.2;subst hn asP;have D:=dR.tmp s;rw[E]at D;obtain⟨A,m,c,Z,e2,e3,e4⟩:=D;have hjj:=cX hjj;have wA:20000 <= nV O T:=by unfold nV;omega
      by_cases dQ:nV O T<60000
      ·have asQ:=dR.fix (nV O T) (AQ bX (nV O T)) (bJ ⟨wA,dQ⟩);have Z:(match Ja (nV O T)with | .eG v=>some v | _=>none)=some (Value.slice A m c):=Z;rw[asQ]at Z;obtain⟨d1,d2⟩:=afj (i:=O) (j:=T) (by omega);have Z:some ((uE bX ((nV O T-20001) / 1000) ((nV O T-20001) % 1000)).getD undef)=some (Value.slice A m c):=Z;rw[d1,d2]at Z;injection Z with Z
       refine⟨dR.defers,_,?_,A,m,c,?_,e2,e3,bf Ending.returned e4,⟨dR.below.os,dR.below.tape,dR.below.output,dR.below.size,λk hk=>dR.below.block k hk rfl⟩⟩
       ·have mK:results fn a'.tmps=(do let vs <- fn.results.mapM (ur a'.tmps);pure (if h:vs.size=1 then vs[0]else .tuple vs)):=by
         unfold results;congr 1
        have yp:fn.results = #[.tmp s]:=by apply Array.ext';exact hs
        rw[mK,yp];simp[ur]
       ·cases hl:uE bX O T with
        |none=>rw[hl]at Z;cases Z
        |some u=>rw[hl]at Z;exact bf some Z
      ·exfalso;have:=cX haa;unfold nV at dQ;omega
    ·cases qj
   ·cases qj
  split at hk
  next he=>have he:=wE he;subst he;exact fin hk
  next he=>have he:=wE he;subst he;exact fin hk
  ·cases hk
 ·cases h
end
def Wd.pin(d:Wd)(g:Nat)(l:ah Loc)(D:20000<=g):Wd:=⟨d.w,d.L,λr=>if r=g then l else d.F r,d.held,λr C=>by
 show (if r=g then l else d.F r)=none;rw[bQ];exact d.low r C⟩
def Dg(g:Nat):aa (Bool×aa Lf)->A
 |[(false,[x])]=>.lf (x.drop g)
 |[(true,cs)]=>.agg (cs.map (Lf.drop g))
 |[(false,_)]=>.undef
 |ps=>.fB (ps.map λp=>(p.1,p.2.map (Lf.drop g)))
def Dh{X:Type}(P:Program)(g:Nat)(D:Array ResultVar)(C:S)(k:S->A->ah X):ah X:=
 s8 P C D.toList λps=>match C.m g with
  |some (.gh ys)=>k ⟨λj=>((ys.map (A.drop g))[j]?).getD .undef,(C.drop g).m⟩ (Dg g ps)
  |_=>none
def afl(g N:Nat)(σ:S)(xs:aa A):S:=⟨λj=>((xs.map (A.drop g))[j]?).getD .undef,ck (σ.drop g).m g (some (.gh ((List.range N).map λj=>(σ.t j).drop g)))⟩
def noB:ot:=λ_=>none
def Ka{X:Type}(P:Program)(M g:Nat)(Φ:eX)(code:Code)(C:Array ResultVar)(N:Nat)(σ:S)(xs:aa A)(k:S->A->ah X):ah X:=
 bif Nat.ble xs.length M then mN P M Φ noB code (afl g N σ xs) λe D=>match De e with
  |some 0=>Dh P g C D k
  |some 1=>Dh P g C D k
  |_=>none
 else none
def afm(P:Program)(M g:Nat)(Φ:eX)(code:Code)(C:Array ResultVar):uF:=⟨λX N σ xs k=>Ka P M g Φ code C N σ xs k⟩
section
variable {P:Program} {w w':World} {w0:Wd} {B M N g:Nat} {aj aD:bM} {ρ ρ':Nat->Loc} {σ:S} {a:Act} {X:Type} {d:Nat} {r:X} {o:Oper} {Φ:eX} {Λ:ot}
def YA{C:ah Tmp}{D:Bool}:cS λX k=>tj (X:=X) σ C D k:=λX Y k g=>by
 unfold tj
 repeat' first|rfl|refine dI ?_ ?_|split
def asR{ops:Array Oper}{L i:Nat}:cS λX k=>JM (X:=X) P N Φ ops L i σ o k:=λX Y k g=>by
 unfold JM;split
 ·refine(Xv _ _ _ _).trans (bf _ (funext λv=>?_))
  exact dI (yd _ _ _ _) rfl
 ·exact yd _ _ _ _
 ·rfl
def YB(D:gu P Φ){ops:Array Oper}:∀ (f L:Nat) (σ:S),cS λX k=>rX (X:=X) P N Φ ops f L σ k
 | 0,L,σ=>λX Y k g=>by
  unfold rX;split<;>rfl
 | f+1,L,σ=>λX Y k g=>by
  have st:∀E o T,cS λX k=>dU (X:=X) P N Φ ops σ o λO=>tj O o.dst T λC=>rX P N Φ ops f E C k:=λE o T=>(aen D).comp λO=>YA.comp λC=>YB D f E C
  unfold rX
  repeat' first
   |rfl
   |exact st _ _ _ _ _ _ _
   |exact(asR.comp λO=>YA.comp λC=>YB D f _ C) X Y k g
   |split
def asT{t:TypeId}{x lo hi C:A}{X Y:Type}(k:ah X)(g:X->ah Y):(FF P σ t x lo hi C k).bind g=FF P σ t x lo hi C (k.bind g):=by
 unfold FF
 repeat' first
  |rfl
  |refine(yc _ _ _ _ _).trans (bf _ (funext λy=>?_))
  |split
def asU(C:gu P Φ):cS λX k=>JI (X:=X) P N Φ σ o k:=λX Y k g=>by
 unfold JI
 repeat' first
  |exact aej C _ _ _ _
  |exact ard _ _ _ _
  |exact(asT _ _).trans (bf _ (dI rfl rfl))
  |split
def YC(C:gu P Φ){ops:Array Oper}:∀ (rest:aa Oper) (j:Nat) (σ:S),cS λX k=>C1 (X:=X) P N Φ ops j rest σ k
 |[],j,σ=>λ_ _ _ _=>rfl
 | o :: rest,j,σ=>λX Y k g=>by
  unfold C1;split
  ·exact((asU C).comp λD=>YA.comp λE=>YC C rest _ E) X Y k g
  ·exact(yd.comp λD=>YC C rest _ D) X Y k g
  ·rfl
def afn(E:gu P Φ):∀ (c:Code) (σ:S),FE λX k=>mN (X:=X) P N Φ noB c σ k:=by
 intro c
 induction c with
 | region id ops draw=>
  intro σ X Y k g;cases draw with
  |true=>exact dI (YB E _ _ _ _ _ _ _) rfl
  |false=>exact YC E _ _ _ _ _ _ _
 | seq x y C D=>
  intro σ X Y k g
  refine(C σ _ _ _ _).trans (bf _ (funext λe=>funext λL=>?_))
  cases e with
  |normal=>exact D L _ _ _ _
  |_=>rfl
 | cond c x y C D=>
  intro σ X Y k g;simp only[mN];split
  ·exact dI (C σ _ _ _ _) (D σ _ _ _ _)
  ·rfl
 | block id c O=>
  intro σ X Y k g
  refine(O σ _ _ _ _).trans (bf _ (funext λe=>funext λL=>?_))
  cases e with
  | exit T=>
   simp only;split<;>rfl
  |_=>rfl
 |_=>intro σ X Y k g;rfl
def QM:∀ (l:aa ResultVar),cS λX k=>s8 (X:=X) P σ l k
 |[]=>λ_ _ _ _=>rfl
 | .tmp t :: rest=>λX Y k g=>by
  simp only[s8];split
  ·exact QM rest _ _ _ _
  ·rfl
 | .cell c ty :: rest=>λX Y k g=>by
  simp only[s8]
  refine(adJ _ _ _ _).trans (bf _ (funext λy=>?_))
  split
  ·exact QM rest _ _ _ _
  ·rfl
def afo{C:Array ResultVar}:FE λX k=>Dh (X:=X) P g C σ k:=λX Y k f=>by
 unfold Dh
 refine(QM _ _ _ _ _).trans (bf _ (funext λps=>?_))
 split<;>rfl
def asW(C:gu P Φ){code:Code}{D:Array ResultVar}{xs:aa A}:FE λX k=>Ka (X:=X) P M g Φ code D N σ xs k:=λX Y k f=>by
 unfold Ka
 refine dI ((afn C _ _ _ _ _ _).trans (bf _ (funext λe=>funext λE=>?_))) rfl
 split
 ·exact afo _ _ _ _
 ·exact afo _ _ _ _
 ·rfl
def asX{D:Array ResultVar}{E:S}{y:A}(h:Dh P g D σ (λσ y=>some (σ,y))=some (E,y)):∃ ys ps,σ.m g=some (.gh ys)/\s8 P σ D.toList some=some ps/\⟨λj=>((ys.map (A.drop g))[j]?).getD .undef,(σ.drop g).m⟩=E/\Dg g ps=y:=by
 unfold Dh at h;obtain⟨ps,C,L⟩:=(QM _).oc h;split at C
 next ys O=>injection C with C;injection C with T U;exact⟨ys,ps,O,L.at_ _,T,U⟩
 ·cases C
def List.afp(xs:aa A)(g j:Nat):((xs.map (A.drop g))[j]?).getD .undef=A.drop g ((xs[j]?).getD .undef):=by
 rw[ff];cases xs[j]?<;>rfl
def RP.Dg{ps:aa (Bool×aa Lf)}{C:aa Value}(L:∀ r,r≠g->ρ' r=ρ r)(hl:C.length=ps.length)(h:∀ (i:Nat) p v,ps[i]?=some p->C[i]?=some v->RP w B aj ρ p v):
  RA w B aj ρ' (Dg g ps) (if h:C.toArray.size=1 then C.toArray[0]else .tuple C.toArray):=by
 have fB:ps.length≠1->RA w B aj ρ' (.fB (ps.map λp=>(p.1,p.2.map (Lf.drop g)))) (if h:C.toArray.size=1 then C.toArray[0]else .tuple C.toArray):=by
  intro T;rw[dif_neg (by simpa [hl]using T)]
  refine⟨C.toArray,rfl,by simpa using hl,λj p D=>?_⟩
  rw[ff]at D;cases E:ps[j]? with
  |none=>rw[E]at D;cases D
  | some q=>
   rw[E]at D;injection D with D;subst D;have O:j<C.length:=by rw[hl];exact(eo.1 E).1
   exact⟨C[j],by simp[O],(h j q C[j] E (bY O)).fC L⟩
 unfold Proofs.YtnilicojgkhpnaaGreat.Dg;split
 ·rename_i x
  match C,hl,h with
  | [v],_,h=>
   have:=h 0 _ v rfl rfl;obtain⟨u,U,Y⟩:=this.2 0 x rfl;have:v=u:=by simpa using U
   subst this;exact Y.fC L
 ·rename_i cs
  match C,hl,h with
  |[v],_,h=>exact RP.fC L (p:=(true,cs)) (h 0 _ v rfl rfl)
 ·trivial
 ·rename_i h1 Z h3
  refine fB λe=>?_
  obtain⟨⟨b,cs⟩,rfl⟩:=List.length_eq_one_iff.1 e;cases b with
  |true=>exact Z cs rfl
  |false=>exact h3 cs rfl
def asY{f:Nat}{fn:Func}{code:Code}(hf:P.funcs[f]?=some fn)(hb:fn.body=some code)(hN:fn.ntmps=M)(hM:M<=20000)(J8:(fn.name == "runtime.NumGoroutine")=false)(hg:20000<=g/\g<60000)(eP:gu P Φ):
  enters P f/\kR P f (afm P M g Φ code fn.results):=by
 refine⟨⟨fn,hf,J8,by rw[hb];rfl⟩,λN σ xs=>asW eP,λN σ xs τ0 y0 h w0 aj ρ a w bX hR iU hv=>?_⟩
 have h:Ka P M g Φ code fn.results N σ xs _=_:=h;unfold Ka at h;cases hl:Nat.ble xs.length M with
 |false=>rw[hl]at h;cases h
 | true=>
  rw[hl,au]at h;have CD:=cX hl;obtain⟨e,τ,h1,h2⟩:=(afn eP _ _).oc h;have h3:(e = .normal\/e = .ret)/\Dh P g fn.results τ (λσ y=>some (σ,y))=some (τ0,y0):=by
   split at h1
   next U=>exact⟨.inl (wE U),h1⟩
   next U=>exact⟨.inr (wE U),h1⟩
   ·cases h1
  obtain⟨hex,h3⟩:=h3;obtain⟨ys,ps,hy,rU,rfl,rfl⟩:=asX h3;let us:=a.tmps.toList
  let W:Wd:=w0.pin g (some (.bX us)) hg.1
  let Y:=ck ρ g (.bX us)
  have cG:∀r,r≠g->Y r=ρ r:=λr hr=>cU _ _ _ hr
  have lI:∀ j,us.getD j undef=a.tmps.getD j undef:=λj=>by
   show a.tmps.toList.getD j undef=_;rw[fA,Array.getElem?_toList,iV]
  have hle:bX.size<=M:=by rw[iU];exact CD
  have wu:Rl W M aj Y (afl g N σ xs) { tmps:=bX++Array.replicate (fn.ntmps-bX.size) undef,defers:=[] } w:=by
   refine⟨⟨hR.below.os,hR.below.tape,hR.below.output,hR.below.size,hR.below.block⟩,hR.dD,λr x C=>?_,λj=>?_,by simp[hN];omega,rfl,λr l hr=>?_,λr hr=>?_⟩
   ·have C:ck (σ.drop g).m g (some (.gh ((List.range N).map λj=>(σ.t j).drop g))) r=some x:=C;by_cases D:r=g
    ·subst D;rw[cu]at C;injection C with C;subst C
     refine .gh us _ (cu _ _ _) λj x L=>?_
     rw[ff]at L;cases hr:(List.range N)[j]? with
     |none=>rw[hr]at L;cases L
     | some j'=>
      rw[hr]at L;injection L with L;obtain⟨dQ,rM⟩:=eo.1 hr;rw[jH]at rM;subst rM L;rw[lI];exact(hR.tmp j).fC cG
    ·rw[cU _ _ _ D]at C;have C:(bif Nat.beq r g then none else (σ.m r).map (bu.drop g))=some x:=C;cases hb:Nat.beq r g with
     |true=>rw[hb]at C;cases C
     | false=>
      rw[hb,aq]at C;cases hm:σ.m r with
      |none=>rw[hm]at C;cases C
      | some y=>
       rw[hm]at C;injection C with C;subst C;exact(hR.root r y hm).fC cG D
   ·show RA w w0.heap.size aj Y (((xs.map (A.drop g))[j]?).getD .undef) _;rw[List.afp];by_cases L:j<bX.size
    ·have e1:(bX++Array.replicate (fn.ntmps-bX.size) undef).getD j undef=bX.getD j undef:=by
      rw[iV,Array.getElem?_append_left L,iV]
     show RA w w0.heap.size aj Y _ ((bX++Array.replicate (fn.ntmps-bX.size) undef).getD j undef);rw[e1];exact(hv j).fC cG
    ·rw[List.getElem?_eq_none (by omega:xs.length<=j)];trivial
   ·have hr:(if r=g then some (Loc.bX us)else w0.F r)=some l:=hr;by_cases D:r=g
    ·rw[bJ D]at hr;injection hr with hr;rw[D,<-hr];exact cu _ _ _
    ·rw[bQ D]at hr;rw[cG r D];exact hR.fix r l hr
   ·show (if r=g then some (Loc.bX us)else w0.F r)=none;rw[bQ];rcases hr with hr | hr
    ·exact w0.low r (by omega)
    ·exact hR.dN r (.inr hr)
  refine calls_of_wp hf hb ?_
  refine wp_mono (J1 (w0:=W) eP code _ (λe τ=>some (e,τ)) (h2 _ _) (λp hp b hb=>by cases hb) _ w ⟨aj,Y,wu⟩) λe' O w' U=>?_
  obtain⟨dz,p9,aD,ρ',E⟩:=U;injection p9 with p9;injection p9 with k1 k2;subst k1 k2;have Jr:ρ' g = .bX us:=E.fix g _ (bJ rfl);let fD:=ck ρ' g ((w0.F g).getD (.aB 0 0))
  have Fw:∀r,r≠g->fD r=ρ' r:=λr hr=>cU _ _ _ hr
  obtain⟨xY,YD,kL⟩:=Je (w0:=W) (N:=M) _ _ rU;injection YD with YD;subst YD;obtain⟨Z,dZ,hlen,kM⟩:=kL aD ρ' O w' E;have asZ:(fn.results.mapM (ur O.tmps)).run P w' = .ok Z.toArray w':=by
   rw[Array.mapM_eq_mapM_toList];simp[dZ]
  have mK:results fn O.tmps=(do let Z <-fn.results.mapM (ur O.tmps);pure (if h:Z.size=1 then Z[0]else .tuple Z)):=by
   unfold results;congr 1
  have hRf:Rl w0 N aD fD ⟨λj=>((ys.map (A.drop g))[j]?).getD .undef,(dz.drop g).m⟩ a w':=by
   refine⟨⟨E.below.os,E.below.tape,E.below.output,E.below.size,E.below.block⟩,E.dD,λr x C=>?_,λj=>?_,hR.size,hR.defers,λr l hr=>?_,hR.dN⟩
   ·have C:(bif Nat.beq r g then none else (dz.m r).map (bu.drop g))=some x:=C;cases hb:Nat.beq r g with
    |true=>rw[hb]at C;cases C
    | false=>
     have D:r≠g:=by rintro rfl;simp at hb
     rw[hb,aq]at C;cases hm:dz.m r with
     |none=>rw[hm]at C;cases C
     | some y=>
      rw[hm]at C;injection C with C;subst C;exact(E.root r y hm).fC Fw D
   ·show RA w' w0.heap.size aD fD (((ys.map (A.drop g))[j]?).getD .undef) _;rw[List.afp];cases hyj:ys[j]? with
    |none=>trivial
    | some y=>
     have fo:=E.root g _ hy;generalize T:bu.gh ys=z at fo;cases fo with
     |aB=>cases T
     |sl=>cases T
     |mp=>cases T
     | gh Pe xs' yb hx3=>
      injection T with T;subst T;rw[Jr]at yb;injection yb with yb;subst yb;have:=hx3 j y hyj;rw[lI]at this;exact this.fC Fw
   ·by_cases D:r=g
    ·subst D;show ck ρ' r ((w0.F r).getD (.aB 0 0)) r=l;rw[cu,hr];rfl
    ·rw[Fw r D];exact E.fix r l ((bQ D).trans hr)
  have fin:O.defers=[]/\∃ v,(results fn O.tmps).run P w' = .ok v w'/\∃ AP aD ρ',Ending.returned v=Ending.returned AP/\Rl w0 N aD ρ' ⟨λj=>((ys.map (A.drop g))[j]?).getD .undef,(dz.drop g).m⟩ a w'/\RA w' w0.heap.size aD ρ' (Dg g xY) AP:=
   ⟨E.defers,_,by rw[mK,gF,asZ,mX,Sem.run_pure],_,aD,fD,rfl,hRf,RP.Dg Fw hlen kM⟩
  rcases hex with rfl|rfl
  ·exact fin
  ·exact fin
end
def uM:Nat:=1000000000
def stays(n:Nat):Bool:=Nat.ble 20000 (n % uM)
def as0:60000<=uM:=cX rfl
def qU(n:Nat):Nat:=bif stays n then n else n+uM
def AR(n:Nat):ah Nat:=bif stays n then some n else bif Nat.ble uM n && !stays (n-uM)then some (n-uM)else none
def mb:aa Nat->aa Nat
 |[]=>[]
 |[r]=>[qU r]
 |x::y::k=>x::mb (y::k)
def Lf.up:Lf->Lf
 |.v x=>.v x
 |.own k=>.own (mb k)
 |.dead=>.dead
def A.up:A->A
 |.undef=>.undef
 |.skip=>.skip
 |.lf x=>.lf x.up
 |.agg cs=>.agg (cs.map Lf.up)
 |.fB xs=>.fB (xs.map λp=>(p.1,p.2.map Lf.up))
 |.ptr k=>.ptr (mb k)
 |.aG r j=>.aG (qU r) j
 |.jy cs=>.jy cs
 |.n8 f cs=>.n8 f cs
 |.pk r n=>.pk (qU r) n
 |.view k s i j=>.view (mb k) s i j
 |.fn f cap=>.fn f (cap.map λp=>(qU p.1,p.2))
def bu.up:bu->bu
 |.aB cs=>.aB (cs.map Lf.up)
 |.sl y=>.sl y
 |.mp l=>.mp l
 |.gh xs=>.gh (xs.map A.up)
def S.up(σ:S):S:=⟨λk=>(σ.t k).up,λn=>match AR n with
 |some r=>(σ.m r).map bu.up
 |none=>none⟩
def upI(c:uF):uF:=⟨λX N σ xs k=>c.run X N σ.up (xs.map A.up) λC y=>k C.up y.up⟩
section
variable {P:Program} {w w':World} {w0:Wd} {B N:Nat} {aj aD:bM} {ρ ρ':Nat->Loc} {σ:S} {a:Act} {X:Type}
def as1(r:Nat):AR (qU r)=some r:=by
 unfold AR qU;cases h:stays r with
 |true=>simp_all
 | false=>
  have C:stays (r+uM)=false:=by
   unfold stays at h ⊢;simp_all
  have D:Nat.ble uM (r+uM)=true:=jv (Nat.le_add_left _ _);simp[*]
def as2{n r:Nat}(h:AR n=some r):n=qU r:=by
 unfold AR at h;cases D:stays n with
 | true=>
  rw[D]at h;injection h with h;subst h;simp[qU,D]
 | false=>
  rw[D,aq]at h;cases C:(Nat.ble uM n && !stays (n-uM))with
  |false=>simp_all
  | true=>
   rw[C]at h;have h:=Option.some.inj h;rw[aS]at C;have L:=cX C.1;have E:stays r=false:=by rw[<- h];simpa using C.2
   simp[qU,E,aq];omega
def nB(aj:bM):bM:=λb=>(aj b).map mb
def wG(ρ:Nat->Loc):Nat->Loc:=λn=>match AR n with
 |some r=>ρ r
 |none=>ρ n
def Di(r:Nat):wG ρ (qU r)=ρ r:=by unfold wG;rw[as1]
def as3{k:aa Nat}(h:k≠[]):mb k≠[]:=by
 match k with
 |[r]=>simp[mb]
 |x::y::k=>simp[mb]
def FV{x:Nat}{k:aa Nat}(h:k≠[]):mb (x :: k)=x :: mb k:=by
 match k with
 |[]=>exact absurd rfl h
 |y::k=>rfl
def afq(x y:Nat)(k:aa Nat):∃ C D,mb (x :: y :: k)=x :: C :: D:=by
 match k with
 |[]=>exact⟨_,_,rfl⟩
 |z::k=>exact⟨y,_,rfl⟩
def YE:∀ (k:aa Nat) (ad:Addr),addrAt w aj ρ k=some ad -> addrAt w (nB aj) (wG ρ) (mb k)=some ad
 |[],_,h=>by simp[addrAt]at h
 | [j,i,s,r],ad,h=>by
  simp only[addrAt]at h;simp only[mb,addrAt,Di];split at h
  ·rename_i b n c C;split at h
   next hl=>rw[bJ (by simp[nB,hl,mb])];exact h
   ·cases h
  ·cases h
 | j :: i :: s :: x :: y :: q,ad,h=>by
  simp only[addrAt]at h;split at h
  ·rename_i b n c C;split at h
   ·rename_i hl;cases D:addrAt w aj ρ (x :: y :: q)with
    |none=>simp_all
    | some L=>
     have E:=YE (x::y::q) L D;have e:nB aj b=some (mb (x::y::q)):=by simp[nB,hl]
     rw[FV (by simp),FV (by simp),FV (by simp)];rw[D]at C;obtain⟨T,U,O⟩:=afq x y q;rw[O]at E e ⊢;simp only[addrAt,E,C,e,if_true];exact h
   ·cases h
  ·cases h
def afr{k:aa Nat}{u:Value}(h:dm w aj ρ k=some u):dm w (nB aj) (wG ρ) (mb k)=some u:=by
 match k with
 | [r]=>
  simp[mb,dm,Di];exact h
 | x :: y :: k=>
  simp[dm]at h;cases C:addrAt w aj ρ _ with
  |none=>rw[C]at h;cases h
  | some ad=>
   have:=YE _ _ C;obtain⟨E,L,D⟩:=afq x y k;rw[D]at this ⊢;simp[dm,this];simp_all
def YF{b:Nat}(h:aj b=none):nB aj b=none:=by simp[nB,h]
def RV.up(D:∀ b k,aj b=some k->k≠[]){k:aa Nat}{x:V}{v:Value}(h:RV w B aj k x v):RV w B (nB aj) (mb k) x v:=
 h.map (Q:=λk C=>C=mb k) (dW _) (λb _ h=>⟨rfl,YF h⟩) (λb k C _ hl e=>by
  subst e;exact⟨rfl,by simp[nB,hl],λj i s=>by rw[FV (by simp),FV (by simp),FV (D b k hl)]⟩) (.inr rfl)
def eE.up(C:∀ b k,aj b=some k->k≠[]){x:Lf}{u:Value}(h:eE w B aj ρ x u):eE w B (nB aj) (wG ρ) x.up u:=by
 cases x with
 |v x=>exact⟨h.1,RV.up C h.2⟩
 |own k=>exact⟨h.1,afr h.2⟩
 |dead=>trivial
def fh.up(E:∀ b k,aj b=some k -> k≠[]){cs:aa Lf}{us:Array Value}(h:fh w B aj ρ cs us):fh w B (nB aj) (wG ρ) (cs.map Lf.up) us:=by
 refine⟨by rw[eK];exact h.1,λj x C=>?_⟩
 rw[ff]at C;cases D:cs[j]? with
 |none=>simp_all
 | some z=>
  rw[D]at C;injection C with C;subst C;obtain⟨u,L,O⟩:=h.2 j z D;exact⟨u,L,O.up E⟩
def RP.up(C:∀ b k,aj b=some k->k≠[]){p:Bool×aa Lf}{u:Value}(h:RP w B aj ρ p u):RP w B (nB aj) (wG ρ) (p.1,p.2.map Lf.up) u:=by
 obtain⟨b,cs⟩:=p;cases b with
 | true=>
  obtain⟨us,rfl,h⟩:=h;exact⟨us,rfl,fh.up C h⟩
 |false=>exact fh.up C h
def RA.up(L:∀ b k,aj b=some k -> k≠[]){x:A}{u:Value}(h:RA w B aj ρ x u):RA w B (nB aj) (wG ρ) x.up u:=by
 cases x with
 |undef=>trivial
 |skip=>exact h
 |lf x=>exact eE.up L h
 |agg cs=>exact RP.up L (p:=(true,cs)) h
 | fB xs=>
  obtain⟨us,rfl,D,E⟩:=h
  refine⟨us,rfl,by rw[eK];exact D,λj p C=>?_⟩
  rw[ff]at C;cases O:xs[j]? with
  |none=>simp_all
  | some z=>
   rw[O]at C;injection C with C;subst C;obtain⟨v,T,U⟩:=E j z O;exact⟨v,T,U.up L⟩
 | ptr k=>
  obtain⟨ad,rfl,h⟩:=h;exact⟨ad,rfl,YE _ _ h⟩
 | aG r j=>
  obtain⟨b,off,D,E⟩:=h;exact⟨b,off,(Di r).trans D,E⟩
 | jy cs=>
  obtain⟨b,off,Y,Z,g3,g4⟩:=h
  refine⟨b,off,Y,Z,YF g3,λj x hx=>?_⟩
  obtain⟨f1,v,f2,f3⟩:=g4 j x hx;exact⟨f1,v,f2,RV.up L f3⟩
 | n8 f cs=>
  obtain⟨pv,e0,h⟩:=h;refine⟨pv,e0,?_⟩;obtain⟨b,off,Y,Z,g3,g4⟩:=h
  refine⟨b,off,Y,Z,YF g3,λj x hx=>?_⟩
  obtain⟨f1,v,f2,f3⟩:=g4 j x hx;exact⟨f1,v,f2,RV.up L f3⟩
 | pk r n=>
  obtain⟨b,D,E⟩:=h;exact⟨b,(Di r).trans D,E⟩
 | view k s i j=>
  obtain⟨A,n,c,D,E⟩:=h;exact⟨A,n,c,afr D,E⟩
 | fn f cap=>
  obtain⟨vs,rfl,D,E⟩:=h
  refine⟨vs,rfl,by rw[eK];exact D,λj p C=>?_⟩
  rw[ff]at C;cases O:cap[j]? with
  |none=>simp_all
  | some z=>
   rw[O]at C;injection C with C;subst C;obtain⟨b,off,T,U⟩:=E j z O;exact⟨b,off,(Di _).trans T,U⟩
def eH.up(U:∀ b k,aj b=some k -> k≠[]){r:Nat}{x:bu}(h:eH w B aj ρ r x):eH w B (nB aj) (wG ρ) (qU r) x.up:=by
 have T:=Di (ρ:=ρ) r;have hl:∀{b},aj b=some [r] -> nB aj b=some [qU r]:=λh=>by simp[nB,h,mb]
 cases h with
 | aB b off cells e cs us C L Y hs Z=>
  refine .aB b off cells e _ us (T.trans C) (hl L) Y (by rw[eK];exact hs) λj x D=>?_
  rw[ff]at D;cases E:cs[j]? with
  |none=>simp_all
  | some z=>
   rw[E]at D;injection D with D;subst D;exact⟨(Z j z E).1,(Z j z E).2.up U⟩
 |sl v y C L=>exact .sl v y (T.trans C) (RV.up U L)
 |mp b c es l C L Y he=>exact .mp b c es l (T.trans C) (hl L) Y he
 | gh us xs C D=>
  refine .gh us _ (T.trans C) λj x O=>?_
  rw[ff]at O;cases E:xs[j]? with
  |none=>simp_all
  | some z=>
   rw[E]at O;injection O with O;subst O;exact RA.up U (D j z E)
def Rl.up(h:Rl w0 N aj ρ σ a w):Rl w0 N (nB aj) (wG ρ) σ.up a w:=by
 have T:=λb k D=>(h.dD b k D).2.2
 refine⟨h.below,λb k D=>?_,λn x C=>?_,λk=>RA.up T (h.tmp k),h.size,h.defers,λr l E=>?_,h.dN⟩
 ·unfold nB at D;cases hl:aj b with
  |none=>simp_all
  | some q=>
   rw[hl]at D;injection D with D;obtain⟨L,O,Y⟩:=h.dD b q hl;exact⟨L,O,by rw[<- D];exact as3 Y⟩
 ·have C:(match AR n with | some r=>(σ.m r).map _ | none=>none)=some x:=C;cases U:AR n with
  |none=>simp_all
  | some r=>
   rw[U]at C;have C:(σ.m r).map _=some x:=C;cases hm:σ.m r with
   |none=>simp_all
   | some y=>
    rw[hm]at C;injection C with C;subst C;rw[as2 U];exact(h.root r y hm).up T
 ·have Z:stays r=true:=by
   have L:20000 <= r:=Nat.le_of_not_lt λdQ=>by rw[w0.low r dQ]at E;cases E
   have O:r<60000:=Nat.lt_of_not_le λhle=>by rw[h.dN r (.inr hle)]at E;cases E
   unfold stays;rw[Nat.mod_eq_of_lt (Nat.lt_of_lt_of_le O as0)];exact jv L
  have hu:qU r=r:=by simp[qU,Z]
  have:=Di (ρ:=ρ) r;rw[hu]at this;rw[this];exact h.fix r l E
def as4{f:Nat}{c:uF}(h:kR P f c):kR P f (upI c):=by
 refine⟨λN σ xs X Y k g=>h.1 N σ.up (xs.map A.up) X Y _ g,λN σ xs τ z L w0 aj ρ a w bX hR O T=>?_⟩
 obtain⟨U,y,C,Z⟩:=(h.1 N σ.up (xs.map A.up)).oc L;injection C with C;injection C with h4 h5;subst h4 h5;have h3:=h.2 N σ.up (xs.map A.up) U y (Z _ _);have dH:∀b k,aj b=some k->k≠[]:=λb k D=>(hR.dD b k D).2.2
 refine(h3 w0 _ _ a w bX hR.up (by rw[eK];exact O) λi=>?_).mono λe w' hp=>?_
 ·rw[ff];have:=T i;cases hx:xs[i]? with
  |none=>trivial
  | some x=>
   rw[hx]at this;exact RA.up dH this
 ·obtain⟨v,aD,ρ',he,E,hy⟩:=hp;exact⟨v,_,_,he,E.up,RA.up (λb k D=>(E.dD b k D).2.2) hy⟩
end
def aT:Nat:=4611686018427387904
def sn(c:Code)(id:Nat):Code:=match (occs c).lookup id with
 |some (.loop b)=>b
 |_=>.skip
def aW(fn:Func):Code:=fn.body.getD .skip
def nD(l:aa (Nat×qP)):eX:=λf=>l.lookup f
def Dj(P:Program):aa (Nat×qP)->Prop
 |[]=>True
 |(f,c)::l=>(enters P f/\Xg P f c)/\Dj P l
def wH{P:Program}:∀ (l:aa (Nat×qP)),Dj P l -> gu P (nD l)
 |[],_=>λf c h=>by cases h
 | (E,L) :: l,⟨O,D⟩=>λf c h=>by
  have C:List.lookup f _=some c:=h;rw[List.lookup_cons]at C;split at C
  ·simp_all
  ·exact wH l D f c C
def kU(l:aa (Nat×tu)):ot:=λid=>l.lookup id
def YG(P:Program)(N:Nat)(code:Code):aa (Nat×tu)->Prop
 |[]=>True
 |(id,b)::l=>(∃c,(occs code).lookup id=some c/\C5 P N (.block id c) b)/\YG P N code l
def ids(l:aa (Nat×Code)):Bool:=(l.map (·.1)).all λi=>Nat.beq ((l.filter λp=>Nat.beq p.1 i).length) 1
def afs:∀ (l:aa (Nat×Code)) (p:Nat×Code),(∀ q∈l,q.1=p.1 -> q=p) -> p∈l -> l.lookup p.1=some p.2
 |[],p,_,h=>by cases h
 | q :: l,p,C,h=>by
  rw[List.lookup_cons];by_cases D:p.1=q.1
  ·simp_all
  ·have hb:(p.1==q.1)=false:=by simpa using D
   rw[hb];rcases iG.1 h with rfl|h
   ·simp_all
   ·exact afs l p (λq E=>C q (.tail _ E)) h
def as5{l:aa (Nat×Code)}(h:ids l=true){p q:Nat×Code}(D:p∈l)(E:q∈l)(L:q.1=p.1):q=p:=by
 have C:=cw.1 h p.1 (List.mem_map_of_mem D);have C:=cK C;have O:p∈l.filter λr=>Nat.beq r.1 p.1:=List.mem_filter.2 ⟨D,by simp⟩
 have T:q∈l.filter λr=>Nat.beq r.1 p.1:=List.mem_filter.2 ⟨E,by simp[L]⟩
 obtain⟨z,U⟩:=List.length_eq_one_iff.1 C
 grind
def aft{P:Program}{N:Nat}{code:Code}(hi:ids (occs code)=true):∀ (l:aa (Nat×tu)),YG P N code l -> qQ P N (kU l) (occs code)
 |[],_=>λp D b h=>by cases h
 | (id,T) :: l,⟨⟨c,U,Y⟩,L⟩=>λp D b h=>by
  have C:List.lookup p.1 _=some b:=h;rw[List.lookup_cons]at C;split at C
  ·rename_i E;have E:p.1=id:=by simpa using E
   injection C with C;subst C;have:=afs _ p (λq O e=>as5 hi D O e) D;simp_all
  ·exact aft hi l L p D b C
def sq{P:Program}{N:Nat}{l:aa (Nat×Code)}:qQ P N (kU []) l:=λp C b h=>by cases h
def ci(P:Program)(fn:Func)(C:Nat)(l:aa (Nat×qP)):uF:=afm P fn.ntmps (59000+C) (nD l) (aW fn) fn.results
def qV{P:Program}{f:Nat}{fn:Func}(C:Nat)(l:aa (Nat×qP))(D:P.funcs[f]?=some fn)(hl:Dj P l)(hb:fn.body=some (aW fn):=by kernel_rfl)(E:Nat.ble fn.ntmps 20000=true:=by kernel_rfl)(L:Nat.ble C 900=true:=by kernel_rfl)(O:(fn.name == "runtime.NumGoroutine")=false:=by kernel_rfl):enters P f/\kR P f (ci P fn C l):=
 asY D hb rfl (cX E) O ⟨by omega,by have:=cX L;omega⟩ (wH l hl)
def cj(P:Program)(fn:Func)(C:Nat)(l:aa (Nat×qP)):uF:=upI (ci P fn C l)
def sr{P:Program}{f:Nat}{fn:Func}{C:Nat}{l:aa (Nat×qP)}(h:enters P f/\kR P f (ci P fn C l)):enters P f/\kR P f (cj P fn C l):=⟨h.1,as4 h.2⟩
def QN{P:Program}{f:Nat}{fn:Func}{ai:aa (Bool×TC)}{ro:aa (Bool×TC×Nat)}{F:lK ai->ah (ja ro)}(N:Nat)(l:aa (Nat×qP))(b:aa (Nat×tu))(C:P.funcs[f]?=some fn)(hl:Dj P l)(D:qQ P N (kU b) (occs (aW fn)))(E:∀x,qT P N (nD l) (kU b) (aW fn) fn.results (gL ai x) (mL ro)=F x)(hb:fn.body=some (aW fn):=by kernel_rfl)(L:fn.ntmps=N:=by kernel_rfl)(O:(fn.name == "runtime.NumGoroutine")=false:=by kernel_rfl)(T:Nat.ble ai.length N=true:=by kernel_rfl)(U:mO ro=true:=by kernel_rfl):enters P f/\iR P f (gW ai ro F):=asJ C hb L O T U (wH l hl) D E
def Dk{P:Program}{f:Nat}{fn:Func}{t:TC}{g:Nat}{F:aa (T t)->ah (aa (T t))}(N:Nat)(l:aa (Nat×qP))(b:aa (Nat×tu))(C:P.funcs[f]?=some fn)(hl:Dj P l)(D:qQ P N (kU b) (occs (aW fn)))(E:∀ x:aa (T t),qT P N (nD l) (kU b) (aW fn) fn.results [(false,[.sl t 0 false x])] (mL [(false,.sl t,g)])=F x)
  (L:qT P N (nD l) (kU b) (aW fn) fn.results [(false,[.nil])] (mL [(false,.sl t,g)])=some ([]:aa (T t)):=by kernel_rfl) (O:qT P N (nD l) (kU b) (aW fn) fn.results [(false,[.sl t 0 true []])] (mL [(false,.sl t,g)])=some ([]:aa (T t)):=by kernel_rfl)
  (hb:fn.body=some (aW fn):=by kernel_rfl) (U:fn.ntmps=N:=by kernel_rfl) (Y:(fn.name == "runtime.NumGoroutine")=false:=by kernel_rfl) (Z:Nat.ble 1 N=true:=by kernel_rfl) (fo:mO [(false,.sl t,g)]=true:=by kernel_rfl):enters P f/\iR P f (gW [(false,.sl t)] [(false,.sl t,g)] λx=>bif ke x.1 then some ([]:aa (T t))else F x.1):=asK C hb U Y Z fo (wH l hl) D E L O
def fq{α β:Type}(a:α)(f:α->β):β:=f a
def afu{P:Program}{id:Nat}{body:Code}{C:bG}{D:aa (Nat×bG)}{F:C.St->ah (C.St⊕uK D)}{fuel:C.St->Nat}(N:Nat)(l:aa (Nat×qP))(b:aa (Nat×tu))(hl:Dj P l)(E:qQ P N (kU b) (occs body))(L:∀x,FR P N (nD l) (kU b) body C D x=F x):C5 P N (.block id (.loop body)) (QG id C D F fuel):=asE (wH l hl) E L
abbrev W6 (x:Int):Int:=IntKind.i64.wrap x
/-! Words for what printed functions say often. -/
def xI{α β:Type}(l:aa α)(i:Int)(k:α->ah β):ah β:=if h:0<=i/\i.toNat<l.length then (let e:=l[i.toNat]'h.2;k e)else none
def xC{α β:Type}(l:aa α)(i:Int)(k:ah β):ah β:=if h:0<=i/\i.toNat<l.length then k else none
def xM{α β:Type}(l:aa α)(i:Int)(k:α->ah β):ah β:=if h:i.toNat<l.length then (let e:=l[i.toNat]'h;k e)else none
def xL{α β:Type}(l:aa α)(i:Int)(k:α->ah β):ah β:=if h:0<=i/\i.toNat<l.length then (if h:i.toNat<l.length then (let e:=l[i.toNat]'h;k e)else none)else none
def xZ{α:Type}(l:aa α):Bool:=bI (([]:aa α).length+l.length)
def xA{α:Type}(l:aa α):aa α:=([]:aa α)++l
def bh{S A C:Type}(L:S->ah (S⊕(A⊕Empty)))(s:S)(f:A->ah C):ah C:=(iter L aT s).bind (Sum.elim f (λz=>nomatch z))
def bE{S A B C:Type}(L:S->ah (S⊕(A⊕(B⊕Empty))))(s:S)(f:A->ah C)(g:B->ah C):ah C:=(iter L aT s).bind (Sum.elim f (Sum.elim g (λz=>nomatch z)))
def xG{S E:Type}(s:S):ah (S⊕E):=some (.inl s)
def ax{S A E:Type}(v:A):ah (S⊕(A⊕E)):=some (.inr (.inl v))
def aU{S A B E:Type}(v:B):ah (S⊕(A⊕(B⊕E))):=some (.inr (.inr (.inl v)))
abbrev tI:Tm:=.lf (.int .i64)
abbrev tB:Tm:=.lf (.bool)
structure KC (P:Program) where
 f:Nat
 c:qP
 ok:enters P f/\Xg P f c
def KL{P:Program}(l:aa (KC P)):aa (Nat×qP):=l.map λk=>(k.f,k.c)
def uN{P:Program}:∀ l:aa (KC P),Dj P (KL l)
 |[]=>trivial
 |k::l=>⟨k.ok,uN l⟩
structure BK (P:Program) (N:Nat) (code:Code) where
 id:Nat
 b:tu
 ok:C5 P N (.block id (.loop (sn code id))) b
section
variable {P:Program} {f N:Nat} {fn:Func} {code:Code}
def BL(l:aa (BK P N code)):aa (Nat×tu):=l.map λk=>(k.id,k.b)
def BC(l:aa (BK P N code)):aa (ah Code):=l.map λk=>(occs code).lookup k.id
def BD(l:aa (BK P N code)):aa (ah Code):=l.map λk=>some (.loop (sn code k.id))
def afv:∀ l:aa (BK P N code),BC l=BD l -> YG P N code (BL l)
 |[],_=>trivial
 | k :: l,h=>by
  unfold BC BD at h;injection h with C D;exact⟨⟨_,C,k.ok⟩,afv l D⟩
def BT(l:aa (BK P N code))(C:BC l=BD l)(hi:ids (occs code)=true):qQ P N (kU (BL l)) (occs code):=aft hi _ (afv l C)
def lB(id:Nat)(C:bG)(D:aa (Nat×bG))(F:C.St->ah (C.St⊕uK D)):tu:=QG id C D F λ_=>aT
def lp{body:Code}{id:Nat}{C:bG}{D:aa (Nat×bG)}{F:C.St->ah (C.St⊕uK D)}(l:aa (KC P))(E:∀x,FR P N (nD (KL l)) (kU []) body C D x=F x:=by intro x;kernel_rfl):C5 P N (.block id (.loop body)) (lB id C D F):=afu N (KL l) [] (uN l) sq E
def lq{id:Nat}{C:bG}{D:aa (Nat×bG)}{F:C.St->ah (C.St⊕uK D)}(l:aa (KC P))(b:aa (BK P N code))(E:BC b=BD b:=by kernel_rfl)(hi:ids (occs code)=true:=by kernel_rfl)(L:∀x,FR P N (nD (KL l)) (kU (BL b)) code C D x=F x:=by intro x;kernel_rfl):C5 P N (.block id (.loop code)) (lB id C D F):=afu N (KL l) (BL b) (uN l) (BT b E hi) L
def kp{ai:aa (Bool×TC)}{ro:aa (Bool×TC×Nat)}{F:lK ai->ah (ja ro)}(N:Nat)(l:aa (KC P))(C:P.funcs[f]?=some fn)(D:∀x,qT P N (nD (KL l)) (kU []) (aW fn) fn.results (gL ai x) (mL ro)=F x:=by intro x;kernel_rfl)(hb:fn.body=some (aW fn):=by kernel_rfl)(E:fn.ntmps=N:=by kernel_rfl)(L:(fn.name == "runtime.NumGoroutine")=false:=by kernel_rfl)(O:Nat.ble ai.length N=true:=by kernel_rfl)(T:mO ro=true:=by kernel_rfl):enters P f/\iR P f (gW ai ro F):=QN N (KL l) [] C (uN l) sq D hb E L O T
def kq{ai:aa (Bool×TC)}{ro:aa (Bool×TC×Nat)}{F:lK ai->ah (ja ro)}(N:Nat)(l:aa (KC P))(b:aa (BK P N (aW fn)))(C:P.funcs[f]?=some fn)(D:BC b=BD b:=by kernel_rfl)(hi:ids (occs (aW fn))=true:=by kernel_rfl)(E:∀x,qT P N (nD (KL l)) (kU (BL b)) (aW fn) fn.results (gL ai x) (mL ro)=F x:=by intro x;kernel_rfl)(hb:fn.body=some (aW fn):=by kernel_rfl)(L:fn.ntmps=N:=by kernel_rfl)(O:(fn.name == "runtime.NumGoroutine")=false:=by kernel_rfl)(T:Nat.ble ai.length N=true:=by kernel_rfl)(U:mO ro=true:=by kernel_rfl):enters P f/\iR P f (gW ai ro F):=QN N (KL l) (BL b) C (uN l) (BT b D hi) E hb L O T U
def km{ps:aa PK}{ro:aa (Bool×TC×Nat)}{F:nh ps->ah (ja ro×s9 (fQ ps))}(N:Nat)(l:aa (KC P))(C:P.funcs[f]?=some fn)(D:∀x,Df P N (nD (KL l)) (kU []) (aW fn) fn.results (og ps x) (kQ ps 0 x) (FT (fQ ps) ro)=F x:=by intro x;kernel_rfl)(hb:fn.body=some (aW fn):=by kernel_rfl)(E:fn.ntmps=N:=by kernel_rfl)(L:(fn.name == "runtime.NumGoroutine")=false:=by kernel_rfl)(O:Nat.ble ps.length N=true:=by kernel_rfl)(T:Nat.ble N 20000=true:=by kernel_rfl)(U:mO ro=true:=by kernel_rfl):enters P f/\uy P f ⟨ps,ro,F⟩:=QK C hb E L O T U (wH _ (uN l)) sq D
def kn{ps:aa PK}{ro:aa (Bool×TC×Nat)}{F:nh ps->ah (ja ro×s9 (fQ ps))}(N:Nat)(l:aa (KC P))(b:aa (BK P N (aW fn)))(C:P.funcs[f]?=some fn)(D:BC b=BD b:=by kernel_rfl)(hi:ids (occs (aW fn))=true:=by kernel_rfl)(E:∀x,Df P N (nD (KL l)) (kU (BL b)) (aW fn) fn.results (og ps x) (kQ ps 0 x) (FT (fQ ps) ro)=F x:=by intro x;kernel_rfl)(hb:fn.body=some (aW fn):=by kernel_rfl)(L:fn.ntmps=N:=by kernel_rfl)(O:(fn.name == "runtime.NumGoroutine")=false:=by kernel_rfl)(T:Nat.ble ps.length N=true:=by kernel_rfl)(U:Nat.ble N 20000=true:=by kernel_rfl)(Y:mO ro=true:=by kernel_rfl):enters P f/\uy P f ⟨ps,ro,F⟩:=QK C hb L O T U Y (wH _ (uN l)) (BT b D hi) E
def aZ(ai:aa (Bool×TC))(ro:aa (Bool×TC×Nat))(F:lK ai->ah (ja ro))(N:Nat)(l:aa (KC P))(C:P.funcs[f]?=some fn)(D:∀x,qT P N (nD (KL l)) (kU []) (aW fn) fn.results (gL ai x) (mL ro)=F x:=by intro x;kernel_rfl)(hb:fn.body=some (aW fn):=by kernel_rfl)(E:fn.ntmps=N:=by kernel_rfl)(L:(fn.name == "runtime.NumGoroutine")=false:=by kernel_rfl)(O:Nat.ble ai.length N=true:=by kernel_rfl)(T:mO ro=true:=by kernel_rfl):KC P:=⟨f,.p (gW ai ro F),QN N (KL l) [] C (uN l) sq D hb E L O T⟩
def bS(ai:aa (Bool×TC))(ro:aa (Bool×TC×Nat))(F:lK ai->ah (ja ro))(N:Nat)(l:aa (KC P))(b:aa (BK P N (aW fn)))(C:P.funcs[f]?=some fn)(D:BC b=BD b:=by kernel_rfl)(hi:ids (occs (aW fn))=true:=by kernel_rfl)(E:∀x,qT P N (nD (KL l)) (kU (BL b)) (aW fn) fn.results (gL ai x) (mL ro)=F x:=by intro x;kernel_rfl)(hb:fn.body=some (aW fn):=by kernel_rfl)(L:fn.ntmps=N:=by kernel_rfl)(O:(fn.name == "runtime.NumGoroutine")=false:=by kernel_rfl)(T:Nat.ble ai.length N=true:=by kernel_rfl)(U:mO ro=true:=by kernel_rfl):KC P:=⟨f,.p (gW ai ro F),QN N (KL l) (BL b) C (uN l) (BT b D hi) E hb L O T U⟩
def yE(ps:aa PK)(ro:aa (Bool×TC×Nat))(F:nh ps->ah (ja ro×s9 (fQ ps)))(N:Nat)(l:aa (KC P))(C:P.funcs[f]?=some fn)(D:∀x,Df P N (nD (KL l)) (kU []) (aW fn) fn.results (og ps x) (kQ ps 0 x) (FT (fQ ps) ro)=F x:=by intro x;kernel_rfl)(hb:fn.body=some (aW fn):=by kernel_rfl)(E:fn.ntmps=N:=by kernel_rfl)(L:(fn.name == "runtime.NumGoroutine")=false:=by kernel_rfl)(O:Nat.ble ps.length N=true:=by kernel_rfl)(T:Nat.ble N 20000=true:=by kernel_rfl)(U:mO ro=true:=by kernel_rfl):KC P:=⟨f,.m ⟨ps,ro,F⟩,QK C hb E L O T U (wH _ (uN l)) sq D⟩
def jc(ps:aa PK)(ro:aa (Bool×TC×Nat))(F:nh ps->ah (ja ro×s9 (fQ ps)))(N:Nat)(l:aa (KC P))(b:aa (BK P N (aW fn)))(C:P.funcs[f]?=some fn)(D:BC b=BD b:=by kernel_rfl)(hi:ids (occs (aW fn))=true:=by kernel_rfl)(E:∀x,Df P N (nD (KL l)) (kU (BL b)) (aW fn) fn.results (og ps x) (kQ ps 0 x) (FT (fQ ps) ro)=F x:=by intro x;kernel_rfl)(hb:fn.body=some (aW fn):=by kernel_rfl)(L:fn.ntmps=N:=by kernel_rfl)(O:(fn.name == "runtime.NumGoroutine")=false:=by kernel_rfl)(T:Nat.ble ps.length N=true:=by kernel_rfl)(U:Nat.ble N 20000=true:=by kernel_rfl)(Y:mO ro=true:=by kernel_rfl):KC P:=⟨f,.m ⟨ps,ro,F⟩,QK C hb L O T U Y (wH _ (uN l)) (BT b D hi) E⟩
def bO{A Z R:Type}(F:A->R)(x:A×Z):R:=F x.1
def bx{A B Z R:Type}(F:A->B->R)(x:A×B×Z):R:=F x.1 x.2.1
def fR{A B C Z R:Type}(F:A->B->C->R)(x:A×B×C×Z):R:=F x.1 x.2.1 x.2.2.1
def nE{A B C D Z R:Type}(F:A->B->C->D->R)(x:A×B×C×D×Z):R:=F x.1 x.2.1 x.2.2.1 x.2.2.2.1
def Dl{A B C D E Z R:Type}(F:A->B->C->D->E->R)(x:A×B×C×D×E×Z):R:=F x.1 x.2.1 x.2.2.1 x.2.2.2.1 x.2.2.2.2.1
end
end Go.Proofs.YtnilicojgkhpnaaGreat
