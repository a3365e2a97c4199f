/-
  Running the program over pure contents, and that it follows (part Z). Nothing here is a claim.
-/
import Derived.Test.YtnilicojgkhpnaaGreatV4
set_option linter.unusedSimpArgs false
namespace Go.Proofs.YtnilicojgkhpnaaGreat
set_option linter.defProp false
open Go.RowKit
set_option linter.unusedVariables false
section
variable {P:Program} {w w':World} {w0:Wd} {B N:Nat} {aj aD:bK} {ρ ρ':Nat->Loc} {σ:S} {a:Act} {X:Type} {d:Nat} {r:X} {o:Oper} {Φ:eK} {Λ:nR}
def atb{E:ah Tmp}{g:Bool}{k:S -> ah X}(h:sG σ E g k=some r):∃ C,k C=some r /\ ∀ a w,R w0 N σ a w -> R w0 N C a w:=by
 unfold sG at h;cases g with
 |false=>grind
 | true=>
  rw[au]at h;split at h
  ·rename_i d;split at h
   ·rename_i b hb;have key:∀ c:Bool,b=c -> ∀ a w,R w0 N σ a w -> R w0 N (σ.set d (.lf (.v (.bool c)))) a w:=by
     rintro c rfl a w ⟨aj,ρ,hR⟩
     refine⟨aj,ρ,hR.below,hR.dw,hR.root,λk=>?_,hR.size,hR.defers,hR.fix,hR.dH⟩
     show RA w w0.heap.size aj ρ (cg σ.t d (.lf (.v (.bool b))) k) _;by_cases D:k=d
     ·subst D;rw[cv,<- hb];exact hR.tmp k
     ·rw[cR _ _ _ D];exact hR.tmp k
    grind
   ·grind
  ·grind
def PY(U:fX P Φ)(ops:Array Oper):∀ (rest:aa Oper) (j:Nat) (σ:S) (k:S -> ah X),Cm P N Φ ops j rest σ k=some r -> ∃ dn,k dn=some r /\ ∀ a w,R w0 N σ a w -> ∀ Q,(∀ E w',R w0 N dn E w' -> Q Exit.normal E w') -> wpList P ops Q rest a w
 |[],j,σ,k,h=>⟨σ,h,λa w hR Q D=>D a w hR⟩
 | o :: rest,j,σ,k,h=>by
  unfold Cm at h;split at h
  ·rename_i Y;obtain⟨qk,h1,vW⟩:=ar6 U h;obtain⟨σ2,h2,vA⟩:=atb h1;obtain⟨L,O,T⟩:=PY U ops rest (j+1) σ2 k h2
   refine⟨L,O,λa w hR Q D=>?_⟩
   obtain⟨aj,ρ,C⟩:=hR;simp only[wpList,Fb Y C,if_true];exact .inl (vW a w _ Q ⟨aj,ρ,C⟩ λE w' vR=>T E w' (vA E w' vR) Q D)
  ·rename_i Y;unfold iy at h;split at h
   ·rename_i Z;obtain⟨L,O,T⟩:=PY U ops rest _ σ k h
    refine⟨L,O,λa w hR Q D=>?_⟩
    obtain⟨aj,ρ,C⟩:=hR;simp[wpList,Fb Y C,Z];exact T a w ⟨aj,ρ,C⟩ Q D
   ·rename_i d Z;cases hN:Nat.blt d N with
    |false=>simp_all
    | true=>
     rw[hN,au]at h;obtain⟨L,O,T⟩:=PY U ops rest (j+1) _ k h
     refine⟨L,O,λa w hR Q D=>?_⟩
     obtain⟨aj,ρ,C⟩:=hR;simp only[wpList,Fb Y C,Z];exact T _ w ⟨aj,ρ,C.set rfl (by have:=cZ hN;omega)⟩ Q D
  ·cases h
def Js(eE:fX P Φ):∀ (c:Code) (σ:S) (k:Exit->S->ah X),mm P N Φ Λ c σ k=some r->qq P N Λ (occs c)->AW P w0 N c σ λe D=>k e D=some r:=by
 intro c
 induction c with
 |skip=>exact λσ k h _ a w hR=>wp_skip ⟨σ,h,hR⟩
 |label l=>exact λσ k h _ a w hR=>wp_label ⟨σ,h,hR⟩
 |ret=>exact λσ k h _ a w hR=>wp_ret ⟨σ,h,hR⟩
 |exit id=>exact λσ k h _ a w hR=>wp_exit ⟨σ,h,hR⟩
 | region id ops draw=>
  intro σ k h _ a w hR;cases draw with
  | true=>
   simp only[mm]at h;cases hm:P.follows .mixedOrders with
   |false=>rw[hm]at h;cases h
   | true=>
    rw[hm,au]at h
    haveI:Inhabited Wd:=⟨w0⟩
    exact ata eE hm h (λτ iI a w hR=>⟨τ,iI,hR⟩) hR
  | false=>
   simp only[mm]at h;obtain⟨D,h',hw⟩:=PY (w0:=w0) eE ops _ _ _ _ h;exact wp_region_list (hw a w hR _ λT w' C=>⟨D,h',C⟩)
 | seq x y U Y=>
  intro σ k h L a w hR;simp only[mm]at h;have Z:=U σ _ h (λp E=>L p (List.mem_append_left _ E))
  refine wp_seq (wp_mono (Z a w hR) λe T w' he=>?_)
  obtain⟨D,O,C⟩:=he;cases e with
  |normal=>exact Y D k O (λp E=>L p (List.mem_append_right _ E)) T w' C
  |_=>exact⟨D,O,C⟩
 | cond c x y U Y=>
  intro σ k h L a w hR;simp only[mm]at h;split at h
  ·rename_i b hb;obtain⟨aj,ρ,C⟩:=hR;have hc:=C.aL c;rw[hb]at hc;have hcv:=hc.2.zj;cases b with
   |true=>exact wp_cond_true hcv (U σ k h (λp E=>L p (List.mem_append_left _ E)) a w ⟨aj,ρ,C⟩)
   |false=>exact wp_cond_false hcv (Y σ k h (λp E=>L p (List.mem_append_right _ E)) a w ⟨aj,ρ,C⟩)
  ·cases h
 | block id c ih=>
  intro σ k h L a w hR;simp only[mm]at h;split at h
  next b hb=>exact L (id,c) (.head _) b hb X σ k r w0 h a w hR
  ·have Z:=ih σ _ h (λp E=>L p (.tail _ E))
   refine wp_block (wp_mono (Z a w hR) λe T w' he=>?_)
   obtain⟨D,O,C⟩:=he;cases e with
   | exit id'=>
    simp only[Exit.inBlock];by_cases hid:id'=id
    ·simp only[hid,if_true]at O ⊢;exact⟨D,O,C⟩
    ·simp only[hid,if_false]at O ⊢;exact⟨D,O,C⟩
   |_=>exact⟨D,O,C⟩
 |_=>exact λσ k h=>by simp[mm]at h
end
/-! What a loop carries. -/
inductive Lm where
 |int (k:IntKind)
 |bool
 |str
 |own (r:Nat)
 |aF (t:TC) (o:Nat)
def Lm.T:Lm->Type
 |.int _=>Int
 |.bool=>Bool
 |.str=>ByteArray
 |.own _=>af
 |.aF t _=>aa (Proofs.YtnilicojgkhpnaaGreat.T t)
def Lm.mk:(m:Lm)->m.T->Lf
 |.int k,n=>.v (.int k n)
 |.bool,b=>.v (.bool b)
 |.str,s=>.v (.str s)
 |.own r,_=>.own [r]
 |.aF t o,l=>.v (.sl t o false l)
def Lm.rd:(m:Lm)->Lf->ah m.T
 |.int k,.v (.int C n)=>if C=k then some n else none
 |.bool,.v (.bool b)=>some b
 |.str,.v (.str s)=>some s
 |.own r,.own [D]=>bif Nat.beq D r then some ()else none
 |.aF t o,.v x=>bif Nat.blt o 2 then x.fB t o else none
 |_,_=>none
inductive Tm where
 |lf (m:Lm)
 |aH (r j:Nat)
 |fp (t:TC) (o:Nat)
 |fc (f:Nat) (t:TC)
 |ag (t:TC)
 |pk (r n:Nat)
def Tm.T:Tm->Type
 |.lf m=>m.T
 |.aH _ _=>af
 |.fp t _=>Proofs.YtnilicojgkhpnaaGreat.T t
 |.fc _ t=>Proofs.YtnilicojgkhpnaaGreat.T t
 |.ag t=>Proofs.YtnilicojgkhpnaaGreat.T t
 |.pk _ _=>af
def Tm.mk:(m:Tm)->m.T->A
 |.lf m,x=>.lf (m.mk x)
 |.aH r j,_=>.aH r j
 |.fp t o,x=>.jr (enc t o x)
 |.fc f t,x=>.nH f (enc t 0 x)
 |.ag t,x=>.agg ((enc t 0 x).map .v)
 |.pk r n,_=>.pk r n
def Tm.rd:(m:Tm)->A->ah m.T
 |.lf m,.lf x=>m.rd x
 |.aH r j,.aH C D=>bif Nat.beq C r&&Nat.beq D j then some ()else none
 |.fp t o,.jr cs=>bif Nat.blt o 2 then dec t o cs else none
 |.fc f t,.nH E cs=>bif Nat.beq E f then dec t 0 cs else none
 | .ag t,.agg cs=>(match vI cs with
  |some L=>dec t 0 L
  |none=>none)
 |.pk r n,.pk C O=>bif Nat.beq C r&&Nat.beq O n then some ()else none
 |_,_=>none
def Jt:aa Lm->Type
 |[]=>af
 |m::C=>m.T×Jt C
def xU:(C:aa Lm)->Jt C->aa Lf
 |[],_=>[]
 |m::C,x=>m.mk x.1::xU C x.2
def PZ:(C:aa Lm)->aa Lf->ah (Jt C)
 |[],[]=>some ()
 | m :: C,x :: xs=>match m.rd x,PZ C xs with
  |some y,some ys=>some (y,ys)
  |_,_=>none
 |_,_=>none
inductive Rm where
 |sl (t:TC) (o:Nat)
 |st (t:TC)
 |aB (ms:List Lm)
 |mp
def Rm.T:Rm->Type
 |.sl t _=>aa (Proofs.YtnilicojgkhpnaaGreat.T t)
 |.st t=>Proofs.YtnilicojgkhpnaaGreat.T t
 |.aB C=>Jt C
 |.mp=>aa (Int×Bool)
def Rm.mk:(m:Rm)->m.T->bh
 |.sl t o,l=>.sl (.sl t o false l)
 |.st t,x=>.aB ((enc t 0 x).map .v)
 |.aB C,x=>.aB (xU C x)
 |.mp,l=>.mp l
def Rm.rd:(m:Rm)->bh->ah m.T
 |.sl t o,.sl y=>y.fB t o
 | .st t,.aB cs=>(match vI cs with
  |some C=>dec t 0 C
  |none=>none)
 |.aB D,.aB cs=>PZ D cs
 |.mp,.mp l=>some l
 |_,_=>none
def Fc:aa (Nat×Tm)->Type
 |[]=>af
 |(_,m)::C=>m.T×Fc C
def xV:(C:aa (Nat×Tm))->Fc C->Nat->A
 |[],_,_=>.undef
 |(n,m)::C,x,k=>bif Nat.beq k n then m.mk x.1 else xV C x.2 k
def Ju:(C:aa (Nat×Tm))->(Nat->A)->ah (Fc C)
 |[],_=>some ()
 | (n,m) :: C,t=>match m.rd (t n),Ju C t with
  |some x,some xs=>some (x,xs)
  |_,_=>none
def xW:aa (Nat×Rm)->Type
 |[]=>af
 |(_,m)::C=>m.T×xW C
def xX:(C:aa (Nat×Rm))->xW C->Nat->ah bh
 |[],_,_=>none
 |(n,m)::C,x,k=>bif Nat.beq k n then some (m.mk x.1)else xX C x.2 k
def Fe:(C:aa (Nat×Rm))->(Nat->ah bh)->ah (xW C)
 |[],_=>some ()
 | (n,m) :: C,t=>match (t n).bind m.rd,Fe C t with
  |some x,some xs=>some (x,xs)
  |_,_=>none
structure jG where
 ts:List (Nat×Tm)
 rs:List (Nat×Rm)
def jG.St(C:jG):Type:=Fc C.ts×xW C.rs
def jG.mk'(C:jG)(x:C.St):S:=⟨xV C.ts x.1,xX C.rs x.2⟩
def jG.P0(C:jG)(σ:S):ah C.St:=match Ju C.ts σ.t,Fe C.rs σ.m with
 |some x,some y=>some (x,y)
 |_,_=>none
/-! Roots by other names. -/
abbrev Rn:=aa (Nat×Nat)
def Rn.inv(rs:Rn)(n:Nat):ah Nat:=(rs.find? λp=>Nat.beq p.2 n).map (·.1)
def Rn.add(rs:Rn)(r n:Nat):Rn:=bif rs.any (λp=>Nat.beq p.1 r&&Nat.beq p.2 n)then rs else (r,n)::rs
def Yr(n:Nat):ah Nat->Bool
 |some m=>Nat.beq m n
 |none=>false
def Rn.ok(rs:Rn):Bool:=rs.all λp=>(Nat.beq p.1 p.2 ||Nat.ble 60000 p.2)&&Yr p.2 (rs.lookup p.1)&&Yr p.1 (rs.inv p.2)
def Lf.eD(rs:Rn):Lf->Lf
 |.v x=>.v x
 | .own [r]=>(match rs.lookup r with
  |some n=>.own [n]
  |none=>.dead)
 |_=>.dead
def A.eD(rs:Rn):A->A
 |.lf x=>.lf (x.eD rs)
 | .aH r j=>(match rs.lookup r with
  |some n=>.aH n j
  |none=>.undef)
 |.jr cs=>.jr cs
 |.nH f cs=>.nH f cs
 |.agg cs=>.agg (cs.map (Lf.eD rs))
 |_=>.undef
def bh.eD(rs:Rn):bh->bh
 |.aB cs=>.aB (cs.map (Lf.eD rs))
 |.sl y=>.sl y
 |.mp l=>.mp l
 |.gh _=>.gh []
def S.eD(rs:Rn)(σ:S):S:=⟨λk=>(σ.t k).eD rs,λn=>match rs.inv n with
 |some r=>(σ.m r).map (bh.eD rs)
 |none=>none⟩
def rnL:Lm->Lf->Rn->Rn
 |.own n,.own [r],rs=>rs.add r n
 |_,_,rs=>rs
def Ys:aa Lm->aa Lf->Rn->Rn
 |m::C,x::xs,rs=>Ys C xs (rnL m x rs)
 |_,_,rs=>rs
def rnT:Tm->A->Rn->Rn
 |.lf m,.lf x,rs=>rnL m x rs
 |.aH n j,.aH r C,rs=>rs.add r n
 |_,_,rs=>rs
def afm(t:Nat->A):aa (Nat×Tm)->Rn->Rn
 |[],rs=>rs
 |(k,m)::C,rs=>afm t C (rnT m (t k) rs)
def afn(m:Nat->ah bh):aa (Nat×Rm)->Rn->Rn
 |[],rs=>rs
 | (n,x) :: xs,rs=>afn m xs (match x,rs.inv n with
  | .aB C,some r=>(match m r with
   |some (.aB cs)=>Ys C cs rs
   |_=>rs)
  | .aB C,none=>(match m n with
   |some (.aB cs)=>Ys C cs (rs.add n n)
   |_=>rs)
  |_,some _=>rs
  |_,none=>rs.add n n)
def jG.rn(C:jG)(σ:S):Rn:=afn σ.m C.rs (afm σ.t C.ts [])
def Yt(rs:aa (Nat×Rm))(p:Nat×Tm)(σ:S):S:=match p.2,σ.t p.1 with
 | .lf (.own n),.lf (.v .nil)=>(match rs.lookup n with
  |some (.sl t o)=>bif Nat.ble 60000 n then ⟨cg ((σ.drop n).root n (.sl (.sl t o false []))).t p.1 (.lf (.own [n])),((σ.drop n).root n (.sl (.sl t o false []))).m⟩else σ
  |_=>σ)
 |_,_=>σ
def P1(rs:aa (Nat×Rm)):aa (Nat×Tm)->S->S
 |[],σ=>σ
 |p::ps,σ=>P1 rs ps (Yt rs p σ)
def Yu(n j r:Nat)(σ:S):S:=match σ.m r with
 | some (.aB cs)=>(match cs[j]? with
  |some (.v .nil)=>⟨σ.t,cg σ.m r (some (.aB (cs.set j (.own [n]))))⟩
  |_=>σ)
 |_=>σ
def Yv(rs:aa (Nat×Rm))(n j r:Nat)(σ:S):S:=match rs.lookup n with
 |some (.sl t o)=>bif Nat.ble 60000 n then Yu n j r ((σ.drop n).root n (.sl (.sl t o false [])))else σ
 |_=>σ
def Cy(rs:aa (Nat×Rm))(r:Nat):Nat->aa Lm->aa Lf->S->S
 |j,.own n::C,.v .nil::cs,σ=>Cy rs r (j+1) C cs (Yv rs n j r σ)
 |j,_::C,_::cs,σ=>Cy rs r (j+1) C cs σ
 |_,_,_,σ=>σ
def P2(rs:aa (Nat×Rm)):aa (Nat×Rm)->S->S
 |[],σ=>σ
 | (r,.aB C) :: ps,σ=>P2 rs ps (match σ.m r with
  |some (.aB cs)=>Cy rs r 0 C cs σ
  |_=>σ)
 |_::ps,σ=>P2 rs ps σ
def jG.rd1(C:jG)(σ:S):ah C.St:=bif (C.rn σ).ok then C.P0 (P2 C.rs C.rs (σ.eD (C.rn σ)))else none
def jG.rd(C:jG)(σ:S):ah C.St:=match C.P0 σ with
 |some x=>some x
 |none=>C.rd1 (P1 C.rs C.ts σ)
section
variable {P:Program} {w w':World} {w0:Wd} {B N:Nat} {aj aD:bK} {ρ ρ':Nat->Loc} {σ:S} {a:Act} {X:Type} {d:Nat} {r:X} {o:Oper} {Φ:eK} {Λ:nR}
def Lm.qv{m:Lm}{x:Lf}{y:m.T}(h:m.rd x=some y){u:Value}(C:dZ w B aj ρ x u):dZ w B aj ρ (m.mk y) u:=by
 unfold Lm.rd at h;split at h
 ·split at h
  next D=>subst D;injection h with h;subst h;exact C
  ·cases h
 ·injection h with h;subst h;exact C
 ·injection h with h;subst h;exact C
 ·rename_i E L;cases hb:Nat.beq L E with
  |false=>simp_all
  |true=>obtain rfl:=cK hb;exact C
 ·rename_i t o x;cases hb:Nat.blt o 2 with
  |false=>rw[hb]at h;cases h
  | true=>
   rw[hb]at h;have:=cZ hb;exact⟨by simp[V.aF];omega,C.2.wk (V.HO h)⟩
 ·cases h
def Tm.qv{m:Tm}{x:A}{y:m.T}(h:m.rd x=some y){u:Value}(L:RA w B aj ρ x u):RA w B aj ρ (m.mk y) u:=by
 cases m with
 | lf m=>
  cases x with
  |lf x=>exact Lm.qv h L
  |_=>cases h
 | aH r j=>
  cases x with
  | aH U j'=>
   have h:(bif Nat.beq U r&&Nat.beq j' j then some ()else none)=some y:=h;cases hb:(Nat.beq U r&&Nat.beq j' j)with
   |false=>simp_all
   | true=>
    rw[aU]at hb;obtain rfl:=cK hb.1;obtain rfl:=cK hb.2;exact L
  |_=>cases h
 | fp t o=>
  cases x with
  | jr cs=>
   have h:(bif Nat.blt o 2 then dec t o cs else none)=some y:=h;cases hb:Nat.blt o 2 with
   |false=>simp_all
   | true=>
    rw[hb,au]at h;have ho:=cZ hb;have D:=mJ t o cs y h;obtain⟨b,off,Y,Z,h3,h4⟩:=L
    refine⟨b,off,Y,Z,h3,λj z C=>?_⟩
    have hj:j<cs.length:=by rw[D.1];exact(dV.1 C).1
    have E:=bZ hj;obtain⟨g1,v,g2,g3⟩:=h4 j _ E;exact⟨sj t o y (by omega) j z C,v,g2,g3.wk (D.2 j _ z E C)⟩
  |_=>cases h
 | fc f t=>
  cases x with
  | nH f' cs=>
   have h:(bif Nat.beq f' f then dec t 0 cs else none)=some y:=h;cases hb:Nat.beq f' f with
   |false=>simp_all
   | true=>
    rw[hb,au]at h;obtain rfl:=cK hb;have D:=mJ t 0 cs y h;obtain⟨pv,e0,b,off,Y,Z,h3,h4⟩:=L
    refine⟨pv,e0,b,off,Y,Z,h3,λj z C=>?_⟩
    have hj:j<cs.length:=by rw[D.1];exact(dV.1 C).1
    have E:=bZ hj;obtain⟨g1,v,g2,g3⟩:=h4 j _ E;exact⟨sj t 0 y (by omega) j z C,v,g2,g3.wk (D.2 j _ z E C)⟩
  |_=>cases h
 | ag t=>
  cases x with
  | agg cs=>
   have h:(match vI cs with|some O=>dec t 0 O|none=>none)=some y:=h;cases kj:vI cs with
   |none=>simp_all
   | some O=>
    rw[kj]at h;have h:dec t 0 O=some y:=h;have gI:=OQ _ _ kj;have D:=mJ t 0 O y h;obtain⟨us,Y,Z,h3⟩:=L
    refine⟨us,Y,?_,λj x hx=>?_⟩
    ·rw[Z,gI,eS,eS,D.1]
    ·rw[eR]at hx;cases C:(enc t 0 y)[j]? with
     |none=>simp_all
     | some z=>
      rw[C]at hx;injection hx with hx;subst hx;have hj:j<O.length:=by rw[D.1];exact(dV.1 C).1
      have E:=bZ hj;obtain⟨v,g1,g2⟩:=h3 j (.v O[j]) (by rw[gI,eR,E];rfl);exact⟨v,g1,sj t 0 y (by omega) j z C,g2.2.wk (D.2 j _ z E C)⟩
  |_=>cases h
 | pk r n=>
  cases x with
  | pk U n'=>
   have h:(bif Nat.beq U r&&Nat.beq n' n then some ()else none)=some y:=h;cases hb:(Nat.beq U r&&Nat.beq n' n)with
   |false=>simp_all
   | true=>
    rw[aU]at hb;obtain rfl:=cK hb.1;obtain rfl:=cK hb.2;exact L
  |_=>cases h
def afo:∀ (C:aa Lm) (cs:aa Lf) (y:Jt C),PZ C cs=some y -> (xU C y).length=cs.length /\ ∀ (j:Nat) x,(xU C y)[j]?=some x -> ∃ z,cs[j]?=some z/\(∀ (w:World) (B:Nat) (aj:bK) (ρ:Nat -> Loc) (u:Value),dZ w B aj ρ z u -> dZ w B aj ρ x u)
 |[],[],y,h=>⟨rfl,λj x D=>by simp[xU]at D⟩
 | m :: C,c :: cs,y,h=>by
  unfold PZ at h;split at h
  ·rename_i Y ys E L;injection h with h;subst h;obtain⟨O,T⟩:=afo C cs ys L
   refine⟨by simp[xU,O],λj x D=>?_⟩
   cases j with
   |zero=>simp[xU]at D;subst D;exact⟨c,rfl,λw B aj ρ u U=>Lm.qv E U⟩
   |succ j=>exact T j x (by simpa [xU]using D)
  ·cases h
def Rm.qv{m:Rm}{x:bh}{y:m.T}(h:m.rd x=some y){n:Nat}(C:ez w B aj ρ n x):ez w B aj ρ n (m.mk y):=by
 cases m with
 | sl t o=>
  cases C with
  |sl v y' D hr=>exact .sl v _ D (hr.wk (V.HO h))
  |aB=>cases h
  |mp=>cases h
  |gh=>cases h
 | mp=>
  cases C with
  |gh=>cases h
  |sl=>cases h
  |aB=>cases h
  |mp b c es l D hl L he=>injection h with h;subst h;exact .mp b c es _ D hl L he
 | st t=>
  cases C with
  |sl=>cases h
  |mp=>cases h
  |gh=>cases h
  | aB b off cells e cs us D hl L O Z=>
   have h:(match vI cs with|some E=>dec t 0 E|none=>none)=some y:=h;cases kj:vI cs with
   |none=>simp_all
   | some E=>
    rw[kj]at h;have h:dec t 0 E=some y:=h;have gI:=OQ _ _ kj;have Y:=mJ t 0 E y h
    refine .aB b off cells e _ us D hl L (by rw[eS,<- Y.1];rw[gI,eS]at O;exact O) λj x C=>?_
    rw[eR]at C;cases U:(enc t 0 y)[j]? with
    |none=>simp_all
    | some z=>
     rw[U]at C;injection C with C;subst C;have hj:j<E.length:=by rw[Y.1];exact(dV.1 U).1
     have hv:=bZ hj;obtain⟨h1,h2⟩:=Z j (.v E[j]) (by rw[gI,eR,hv];rfl);exact⟨h1,sj t 0 y (by omega) j z U,h2.2.wk (Y.2 j _ z hv U)⟩
 | aB ms=>
  cases C with
  |sl=>cases h
  |mp=>cases h
  |gh=>cases h
  | aB b off cells e cs us D hl L O Z=>
   obtain⟨k1,k2⟩:=afo ms cs y h
   refine .aB b off cells e _ us D hl L (by show off+(xU ms y).length <= _;rw[k1];exact O) λj x C=>?_
   grind
def Yw:∀ (C:aa (Nat×Tm)) (t:Nat -> A) (y:Fc C),Ju C t=some y -> ∀ k,xV C y k = .undef \/ ∃ m z,(Tm.rd m (t k)=some z/\xV C y k=m.mk z)
 |[],t,y,h,k=>.inl rfl
 | (n,m) :: C,t,y,h,k=>by
  unfold Ju at h;split at h
  ·rename_i x xs D E;injection h with h;subst h;by_cases L:k=n
   ·subst L;exact .inr ⟨m,x,D,by simp[xV]⟩
   ·have hb:Nat.beq k n=false:=by
     cases hb:Nat.beq k n with
     |false=>rfl
     |true=>simp_all
    simp only[xV,hb,aq];exact Yw C t xs E k
  ·cases h
def Yx:∀ (C:aa (Nat×Rm)) (t:Nat -> ah bh) (y:xW C),Fe C t=some y -> ∀ k,xX C y k=none \/ ∃ m x z,t k=some x/\Rm.rd m x=some z/\xX C y k=some (m.mk z)
 |[],t,y,h,k=>.inl rfl
 | (n,m) :: C,t,y,h,k=>by
  unfold Fe at h;split at h
  ·rename_i x xs D E;injection h with h;subst h;by_cases L:k=n
   ·subst L;cases O:t k with
    |none=>simp_all
    |some z=>rw[O]at D;exact .inr ⟨m,z,x,rfl,D,by simp[xX]⟩
   ·have hb:Nat.beq k n=false:=by
     cases hb:Nat.beq k n with
     |false=>rfl
     |true=>simp_all
    simp only[xX,hb,aq];exact Yx C t xs E k
  ·cases h
def jG.afp{C:jG}{x:C.St}(h:C.P0 σ=some x)(hR:R w0 N σ a w):R w0 N (C.mk' x) a w:=by
 unfold jG.P0 at h;split at h
 ·rename_i u v O T;injection h with h;subst h;obtain⟨aj,ρ,hR⟩:=hR
  refine⟨aj,ρ,hR.below,hR.dw,λn y D=>?_,λk=>?_,hR.size,hR.defers,hR.fix,hR.dH⟩
  ·have D:xX C.rs v n=some y:=D;rcases Yx C.rs σ.m v T n with e | ⟨m,x,z,E,L,U⟩
   ·simp_all
   ·rw[U]at D;injection D with D;subst D;exact Rm.qv L (hR.root n x E)
  ·show RA _ _ _ _ (xV C.ts u k) _;rcases Yw C.ts σ.t u O k with e | ⟨m,z,E,L⟩
   ·rw[e];trivial
   ·rw[L];exact Tm.qv E (hR.tmp k)
 ·cases h
def afq{n:Nat}{o:ah Nat}(h:Yr n o=true):o=some n:=by
 cases o with
 |none=>cases h
 |some m=>rw[cK h]
def afr{rs:Rn}{r n:Nat}(h:rs.lookup r=some n):(r,n)∈rs:=by
 induction rs with
 |nil=>cases h
 |cons p rs C =>grind
def afs{rs:Rn}{r n:Nat}(h:rs.inv n=some r):(r,n)∈rs:=by
 unfold Rn.inv at h;cases C:rs.find? _ with
 |none=>rw[C]at h;cases h
 | some p=>
  rw[C]at h;injection h with h;subst h;have D:=List.find?_some C;have E:=List.mem_of_find?_eq_some C;rw[<- cK D];exact E
def Rn.fl(rs:Rn)(ρ:Nat->Loc):Nat->Loc:=λn=>match rs.inv n with
 |some r=>ρ r
 |none=>ρ n
def Rn.P3{rs:Rn}(h:rs.ok=true){r n:Nat}(C:(r,n)∈rs):(r=n \/ 60000 <= n)/\rs.lookup r=some n/\rs.inv n=some r:=by
 have:=cx.1 h _ C;rw[aU,aU,eG]at this;refine⟨?_,afq this.1.2,afq this.2⟩;simp_all
def dZ.eD{rs:Rn}(C:rs.ok=true){x:Lf}{u:Value}(h:dZ w B aj ρ x u):dZ w B (eJ aj rs id) (rs.fl ρ) (x.eD rs) u:=by
 unfold Lf.eD;split
 ·exact⟨h.1,h.2.Ot h.1 λb=>zJ⟩
 ·rename_i r;split
  next n D=>have hi:=(Rn.P3 C (afr D)).2.2;refine⟨h.1,?_⟩;have E:=h.2;simp[di]at E ⊢;unfold Rn.fl;simp_all
  ·trivial
 ·trivial
def Rl.eD{rs:Rn}(O:rs.ok=true)(h:Rl w0 N aj ρ σ a w):Rl w0 N (eJ aj rs id) (rs.fl ρ) (σ.eD rs) a w:=by
 have hl:∀ b r n,aj b=some [r] -> rs.lookup r=some n -> eJ aj rs id b=some [n]:=by
  intro b r n E L;simp[eJ,E,L]
 refine⟨h.below,λb k D=>?_,λn x C=>?_,λk=>?_,h.size,h.defers,λr l U=>?_,h.dH⟩
 ·unfold eJ at D;split at D
  ·cases D
  ·rename_i k0 Pb;split at D
   ·cases D
   ·rename_i r U;cases hn:rs.lookup r with
    |none=>grind
    | some n=>
     rw[hn]at D;injection D with D;subst D;obtain⟨E,L,_⟩:=h.dw b k0 Pb;simp_all
 ·have C:(match rs.inv n with | some r=>(σ.m r).map (bh.eD rs) | none=>none)=some x:=C;cases hi:rs.inv n with
  |none=>grind
  | some r=>
   rw[hi]at C;have C:(σ.m r).map (bh.eD rs)=some x:=C;have tM:=(Rn.P3 O (afs hi)).2.1;have cF:rs.fl ρ n=ρ r:=by unfold Rn.fl;rw[hi]
   cases hm:σ.m r with
   |none=>grind
   | some y=>
    rw[hm]at C;injection C with C;subst C;cases h.root r y hm with
    | aB b off cells e cs us E L hh hs hc=>
     refine .aB b off cells e _ us (cF.trans E) (hl b r n L tM) hh (by rw[eS];exact hs) λj x C=>?_
     rw[eR]at C;cases T:cs[j]? with
     |none=>grind
     | some z=>
      rw[T]at C;injection C with C;subst C;exact⟨(hc j z T).1,(hc j z T).2.eD O⟩
    | sl v y E L=>
     exact .sl v y (cF.trans E) (RV.eJ (p:=[]) (nm:=id) L tM)
    |mp b c es l E L hh he=>exact .mp b c es l (cF.trans E) (hl b r n L tM) hh he
    |gh us xs E C=>exact .gh us _ (cF.trans E) λj x hj=>by simp at hj
 ·show RA _ _ _ _ ((σ.t k).eD rs) _;have D:=h.tmp k;generalize σ.t k=x at D;unfold A.eD;split
  ·exact D.eD O
  ·rename_i r j;split
   next n hn=>have hi:=(Rn.P3 O (afr hn)).2.2;obtain⟨b,off,E,L⟩:=D;exact⟨b,off,by unfold Rn.fl;rw[hi];exact E,L⟩
   ·trivial
  ·obtain⟨b,off,Y,Z,g3,g4⟩:=D
   refine⟨b,off,Y,Z,zJ g3,λj x C=>?_⟩
   obtain⟨f1,v,f2,f3⟩:=g4 j x C;exact⟨f1,v,f2,f3.Ot f1 λb=>zJ⟩
  ·obtain⟨pv,e0,b,off,Y,Z,g3,g4⟩:=D
   refine⟨pv,e0,b,off,Y,Z,zJ g3,λj x C=>?_⟩
   obtain⟨f1,v,f2,f3⟩:=g4 j x C;exact⟨f1,v,f2,f3.Ot f1 λb=>zJ⟩
  ·obtain⟨us,Y,Z,g3⟩:=D
   refine⟨us,Y,by rw[eS];exact Z,λj x C=>?_⟩
   rw[eR]at C;rename_i cs;cases T:cs[j]? with
   |none=>grind
   | some z=>
    rw[T]at C;injection C with C;subst C;obtain⟨v,f1,f2⟩:=g3 j z T;exact⟨v,f1,f2.eD O⟩
  ·trivial
 ·show rs.fl ρ r=l;unfold Rn.fl;split
  ·rename_i r0 hi;rcases(Rn.P3 O (afs hi)).1 with e | e
   ·rw[e];exact h.fix r l U
   ·rw[h.dH r (.inr e)]at U;cases U
  ·exact h.fix r l U
def atc{rs:aa (Nat×Rm)}{p:Nat×Tm}(hR:R w0 N σ a w):R w0 N (Yt rs p σ) a w:=by
 unfold Yt;split
 ·rename_i n Y O;split
  ·rename_i t o hl;cases hb:Nat.ble 60000 n with
   |false=>exact hR
   | true=>
    have T:=cZ hb;obtain⟨aj,ρ,hR⟩:=hR;have D:=hR.tmp p.1;rw[O]at D;have U:a.tmps.getD p.1 undef = .slice none 0 0:=by
     have E:=D.2;generalize a.tmps.getD p.1 undef=u at E;cases E;rfl
    have C:=hR.new (d:=n) (x:=.sl (.sl t o false [])) (.ep (.slice none 0 0)) (.sl _ _ (cv _ _ _) (.eI _ _ _)) (hR.dH n (.inr T))
    refine⟨aj,_,C.below,C.dw,C.root,λk=>?_,C.size,C.defers,C.fix,C.dH⟩
    show RA _ _ _ _ (cg ((σ.drop n).root n (.sl (.sl t o false []))).t p.1 (.lf (.own [n])) k) _;by_cases L:k=p.1
    ·subst L;rw[cv,U];exact⟨rfl,by simp[di,cv]⟩
    ·rw[cR _ _ _ L];exact C.tmp k
  ·exact hR
 ·exact hR
def atd{n j r:Nat}{y:V}(hR:Rl w0 N aj ρ σ a w)(U:ρ n = .ep (.slice none 0 0)):Rl w0 N aj ρ (Yu n j r σ) a w:=by
 unfold Yu;split
 ·rename_i cs Y;split
  ·rename_i O
   refine⟨hR.below,hR.dw,λE x C=>?_,hR.tmp,hR.size,hR.defers,hR.fix,hR.dH⟩
   have C:cg σ.m r (some (.aB (cs.set j (.own [n])))) E=some x:=C;by_cases T:E=r
   ·subst T;rw[cv]at C;injection C with C;subst C;cases hR.root E _ Y with
    | aB b off cells e cs us Z L hh hs hc=>
     refine .aB b off cells e _ us Z L hh (by rw[gG];exact hs) λi z D=>?_
     rw[List.getElem?_set]at D;by_cases hi:j=i
     ·subst hi;have dI:j<cs.length:=(dV.1 O).1;rw[bI rfl,bI dI]at D;injection D with D;subst D;obtain⟨k1,k2⟩:=hc j _ O;refine⟨k1,?_⟩;have hu:us j = .slice none 0 0:=by
       have L:=k2.2;generalize us j=u at L;cases L;rfl
      rw[hu];exact⟨rfl,by simp only[di,U]⟩
     ·grind
   ·rw[cR _ _ _ T]at C;exact hR.root E x C
  ·exact hR
 ·exact hR
def ate{rs:aa (Nat×Rm)}{n j r:Nat}(hR:R w0 N σ a w):R w0 N (Yv rs n j r σ) a w:=by
 unfold Yv;split
 ·rename_i t o hl;cases hb:Nat.ble 60000 n with
  |false=>exact hR
  | true=>
   have C:=cZ hb;obtain⟨aj,ρ,hR⟩:=hR;exact⟨aj,_,atd (y:=.nil) (hR.new _ (.sl _ _ (cv _ _ _) (.eI _ _ _)) (hR.dH n (.inr C))) (cv _ _ _)⟩
 ·exact hR
def Yy{rs:aa (Nat×Rm)}{r:Nat}:∀ (C:aa Lm) (cs:aa Lf) (j:Nat) (σ:S),R w0 N σ a w -> R w0 N (Cy rs r j C cs σ) a w
 |[],cs,j,σ,h=>by unfold Cy;exact h
 | m :: C,[],j,σ,h=>by
  unfold Cy;simp_all
 | m :: C,c :: cs,j,σ,h=>by
  unfold Cy;split
  next D E=>cases D;cases E;exact Yy C cs _ _ (ate h)
  next D E=>cases D;cases E;exact Yy C cs _ _ h
  ·exact h
def Jv{rs:aa (Nat×Rm)}:∀ (ps:aa (Nat×Rm)) (σ:S),R w0 N σ a w -> R w0 N (P2 rs ps σ) a w
 |[],σ,h=>h
 |(r,.sl t o)::ps,σ,h=>Jv ps σ h
 |(r,.st t)::ps,σ,h=>Jv ps σ h
 |(r,.mp)::ps,σ,h=>Jv ps σ h
 | (r,.aB C) :: ps,σ,h=>by
  refine Jv ps _ ?_;split
  ·exact Yy C _ 0 σ h
  ·exact h
def aft{rs:aa (Nat×Rm)}:∀ (ps:aa (Nat×Tm)) (σ:S),R w0 N σ a w->R w0 N (P1 rs ps σ) a w
 |[],σ,h=>h
 |p::ps,σ,h=>aft ps _ (atc h)
def jG.qv{C:jG}{x:C.St}(h:C.rd σ=some x)(hR:R w0 N σ a w):R w0 N (C.mk' x) a w:=by
 unfold jG.rd at h;split at h
 next y D=>injection h with h;subst h;exact jG.afp D hR
 ·have hR:=aft (rs:=C.rs) C.ts σ hR;revert h hR;generalize P1 C.rs C.ts σ=E;intro h hR;unfold jG.rd1 at h;cases hb:(C.rn E).ok with
  |false=>simp_all
  | true=>
   rw[hb,au]at h;obtain⟨aj,ρ,hR⟩:=hR;exact jG.afp h (Jv C.rs _ ⟨_,_,hR.eD hb⟩)
end
def xY:aa V->aa Nat->aa Lf
 |[],_=>[]
 | x :: xs,ns=>bif x.plain then .v x :: xY xs ns else (match ns with
  |n::ns=>.own [n]::xY xs ns
  |[]=>.dead::xY xs [])
def Cz:aa V->aa Nat->(Nat->ah bh)->Nat->ah bh
 |[],_,m,k=>m k
 | x :: xs,ns,m,k=>bif x.plain then Cz xs ns m k else (match ns with
  |n::ns=>bif Nat.beq k n then some (.sl x)else Cz xs ns m k
  |[]=>Cz xs [] m k)
def kS(m:Nat->ah bh):aa Lf->aa Nat->ah (aa V)
 |[],[]=>some []
 | .v x :: cs,ns=>bif x.plain then (match kS m cs ns with
  |some C=>some (x::C)
  |none=>none)else none
 | .own [r] :: cs,n :: ns=>bif Nat.beq r n then (match m n with
  | some (.sl y)=>bif y.plain then none else (match kS m cs ns with
   |some C=>some (y::C)
   |none=>none)
  |_=>none)else none
 |_,_=>none
abbrev Gp:=Nat×TC×Nat×aa Nat
def Jw:aa Gp->Type->Type
 |[],X=>X
 |g::gs,X=>T g.2.1×Jw gs X
def P4:(gs:aa Gp)->(rs:aa (Nat×Rm))->Jw gs (xW rs)->Nat->ah bh
 |[],rs,x,k=>xX rs x k
 |(n,t,o,ns)::gs,rs,x,k=>bif Nat.beq k n then some (.aB (xY (enc t o x.1) ns))else Cz (enc t o x.1) ns (P4 gs rs x.2) k
def P5:(gs:aa Gp)->(rs:aa (Nat×Rm))->(Nat->ah bh)->ah (Jw gs (xW rs))
 |[],rs,m=>Fe rs m
 | (n,t,o,ns) :: gs,rs,m=>match m n with
  | some (.aB cs)=>(match kS m cs ns with
   | some C=>(match dec t o C,P5 gs rs m with
    |some x,some y=>some (x,y)
    |_,_=>none)
   |none=>none)
  |_=>none
def Ff:aa V->aa Nat->aa Lm
 |[],_=>[]
 |.int k _::xs,ns=>.int k::Ff xs ns
 |.bool _::xs,ns=>.bool::Ff xs ns
 |.str _::xs,ns=>.str::Ff xs ns
 |_::xs,n::ns=>.own n::Ff xs ns
 |_::xs,[]=>.bool::Ff xs []
def Yz:aa V->aa Nat->aa (Nat×Rm)
 |.sl t o _ _::xs,n::ns=>(n,.sl t o)::Yz xs ns
 |_::xs,ns=>Yz xs ns
 |[],_=>[]
def YA:aa Gp->aa (Nat×Rm)->aa (Nat×Rm)
 |[],rs=>rs
 |(n,t,o,ns)::gs,rs=>(n,.aB (Ff (shp t o) ns))::(Yz (shp t o) ns++YA gs rs)
structure bL where
 ts:List (Nat×Tm)
 rs:List (Nat×Rm)
 gs:List Gp
def bL.St(C:bL):Type:=Fc C.ts×Jw C.gs (xW C.rs)
def bL.mk'(C:bL)(x:C.St):S:=⟨xV C.ts x.1,P4 C.gs C.rs x.2⟩
def bL.P6(C:bL)(σ:S):ah C.St:=match Ju C.ts σ.t,P5 C.gs C.rs σ.m with
 |some x,some y=>some (x,y)
 |_,_=>none
def bL.rd(C:bL)(σ:S):ah C.St:=match C.P6 σ with
 |some x=>some x
 | none=>match jG.rd ⟨C.ts,YA C.gs C.rs⟩ σ with
  |some z=>C.P6 (jG.mk' ⟨C.ts,YA C.gs C.rs⟩ z)
  |none=>none
section
variable {P:Program} {w w':World} {w0:Wd} {B N:Nat} {aj aD:bK} {ρ ρ':Nat->Loc} {σ:S} {a:Act} {m:Nat->ah bh}
def lF.inv{x:V}{xs ys:aa V}(k:lF (x :: xs) ys):∃ y C,ys=y :: C/\Wk x y/\lF xs C:=by
 obtain⟨D,E⟩:=k;cases ys with
 |nil=>simp at D
 |cons y C=>exact⟨y,C,rfl,E 0 x y rfl rfl,by simpa using D,λj a b L hb=>E (j+1) a b (by simpa using L) (by simpa using hb)⟩
def Wk.afu{x y:V}(h:Wk x y)(C:x.plain=true):y=x:=by
 cases h<;>first|rfl|cases C
def Wk.afv{x y:V}(h:Wk x y)(C:x.plain=false):y.plain=false:=by
 cases h<;>first|exact C|rfl
def YB:∀ (cs:aa Lf) (ns:aa Nat) (C ys:aa V),kS m cs ns=some C -> lF C ys -> (xY ys ns).length=cs.length /\ ∀ (j:Nat) z,(xY ys ns)[j]?=some z -> cs[j]?=some z
 | [],[],C,ys,h,E=>by
  simp only[kS,iO]at h;subst h;have:ys=[]:=List.eq_nil_of_length_eq_zero E.1.symm;subst this;exact⟨rfl,λj z L=>by simp[xY]at L⟩
 | .v x :: cs,ns,C,ys,h,E=>by
  unfold kS at h;cases D:x.plain with
  |false=>simp_all
  | true=>
   rw[D,au]at h;split at h
   ·rename_i us O;injection h with h;subst h;obtain⟨y,T,rfl,U,Y⟩:=E.inv;obtain rfl:=U.afu D;obtain⟨Z,e2⟩:=YB cs ns us T O Y;simp only[xY,D,au]
    refine⟨by simp[Z],λj z L=>?_⟩
    cases j with
    |zero=>simp_all
    |succ j=>simp_all
   ·cases h
 | .own [r] :: cs,n :: ns,C,ys,h,E=>by
  unfold kS at h;cases hb:Nat.beq r n with
  |false=>simp_all
  | true=>
   rw[hb,au]at h;obtain rfl:=cK hb;split at h
   ·rename_i y hy;cases D:y.plain with
    |true=>simp_all
    | false=>
     rw[D,aq]at h;split at h
     ·rename_i us O;injection h with h;subst h;obtain⟨y',T,rfl,U,Y⟩:=E.inv;have hq:=U.afv D;obtain⟨Z,e2⟩:=YB cs ns us T O Y;simp only[xY,hq,aq]
      refine⟨by simp[Z],λj z L=>?_⟩
      cases j with
      |zero=>simp_all
      |succ j=>simp_all
     ·cases h
   ·cases h
 |[],_::_,C,ys,h,_=>by simp[kS]at h
 |.dead::_,_,C,ys,h,_=>by simp[kS]at h
 |.own []::_,_,C,ys,h,_=>by simp[kS]at h
 |.own (_::_::_)::_,_,C,ys,h,_=>by simp[kS]at h
 |.own [_]::_,[],C,ys,h,_=>by simp[kS]at h
def YC{f:Nat -> ah bh}{k:Nat}{x:bh}:∀ (cs:aa Lf) (ns:aa Nat) (D ys:aa V),kS m cs ns=some D -> lF D ys -> Cz ys ns f k=some x -> f k=some x \/ ∃ v y,m k=some (.sl v)/\x = .sl y/\Wk v y
 | [],[],D,ys,h,L,C=>by
  simp only[kS,iO]at h;subst h;have:ys=[]:=List.eq_nil_of_length_eq_zero L.1.symm;subst this;exact .inl C
 | .v x' :: cs,ns,D,ys,h,L,C=>by
  unfold kS at h;cases E:x'.plain with
  |false=>simp_all
  | true=>
   rw[E,au]at h;split at h
   next us O=>injection h with h;subst h;obtain⟨y,T,rfl,U,Y⟩:=L.inv;obtain rfl:=U.afu E;simp[Cz,E]at C;exact YC cs ns us T O Y C
   ·cases h
 | .own [r] :: cs,n :: ns,D,ys,h,L,C=>by
  unfold kS at h;cases hb:Nat.beq r n with
  |false=>simp_all
  | true=>
   rw[hb,au]at h;obtain rfl:=cK hb;split at h
   ·rename_i y hy;cases E:y.plain with
    |true=>simp_all
    | false=>
     rw[E,aq]at h;split at h
     ·rename_i us O;injection h with h;subst h;obtain⟨y',T,rfl,U,Y⟩:=L.inv;have hq:=U.afv E;simp only[Cz,hq,aq]at C;cases Z:Nat.beq k r with
      | true=>
       rw[Z]at C;injection C with C;obtain rfl:=cK Z
       grind
      | false=>
       rw[Z]at C;exact YC cs ns us T O Y C
     ·cases h
   ·cases h
 |[],_::_,D,ys,h,_,_=>by simp[kS]at h
 |.dead::_,_,D,ys,h,_,_=>by simp[kS]at h
 |.own []::_,_,D,ys,h,_,_=>by simp[kS]at h
 |.own (_::_::_)::_,_,D,ys,h,_,_=>by simp[kS]at h
 |.own [_]::_,[],D,ys,h,_,_=>by simp[kS]at h
def afw:∀ (gs:aa Gp) (rs:aa (Nat×Rm)) (y:Jw gs (xW rs)),P5 gs rs m=some y -> ∀ k x,P4 gs rs y k=some x -> ∃ O,m k=some O /\ ∀ (w:World) (B:Nat) (aj:bK) (ρ:Nat -> Loc),ez w B aj ρ k O -> ez w B aj ρ k x
 | [],rs,y,h,k,x,C=>by
  have h:Fe rs m=some y:=h;have C:xX rs y k=some x:=C;rcases Yx rs m y h k with e|⟨m',O,z,E,L,e3⟩
  ·simp_all
  ·rw[e3]at C;injection C with C;subst C;exact⟨O,E,λw B aj ρ D=>Rm.qv L D⟩
 | (n,t,o,ns) :: gs,rs,y,h,k,x,C=>by
  unfold P5 at h;split at h
  ·rename_i cs hm;split at h
   ·rename_i T Z;split at h
    ·rename_i x1 y1 h1 h2;injection h with h;subst h;have hw:=mJ t o T x1 h1;simp only[P4]at C;cases U:Nat.beq k n with
     | true=>
      rw[U,au]at C;injection C with C;subst C;obtain rfl:=cK U;obtain⟨E,L⟩:=YB cs ns T _ Z hw
      refine⟨_,hm,λw B aj ρ D=>?_⟩
      cases D with
      |aB b off cells e _ us Y hl hh hs hc=>exact .aB b off cells e _ us Y hl hh (by rw[E];exact hs) λj z hz=>hc j z (L j z hz)
     | false=>
      rw[U,aq]at C;rcases YC cs ns T _ Z hw C with e|⟨v,y',E,rfl,L⟩
      ·exact afw gs rs y1 h2 k x e
      ·refine⟨_,E,λw B aj ρ D=>?_⟩
       cases D with
       |sl u _ Y D=>exact .sl u _ Y (D.wk L)
    ·cases h
   ·cases h
  ·cases h
def bL.afx{C:bL}{x:C.St}(h:C.P6 σ=some x)(hR:R w0 N σ a w):R w0 N (C.mk' x) a w:=by
 unfold bL.P6 at h;split at h
 ·rename_i u v L O;injection h with h;subst h;obtain⟨aj,ρ,hR⟩:=hR
  refine⟨aj,ρ,hR.below,hR.dw,λn y T=>?_,λk=>?_,hR.size,hR.defers,hR.fix,hR.dH⟩
  ·obtain⟨U,D,E⟩:=afw C.gs C.rs v O n y T;exact E _ _ _ _ (hR.root n U D)
  ·show RA _ _ _ _ (xV C.ts u k) _;rcases Yw C.ts σ.t u L k with e | ⟨m,z,D,E⟩
   ·rw[e];trivial
   ·rw[E];exact Tm.qv D (hR.tmp k)
 ·cases h
def bL.qv{C:bL}{x:C.St}(h:C.rd σ=some x)(hR:R w0 N σ a w):R w0 N (C.mk' x) a w:=by
 unfold bL.rd at h;split at h
 next y D=>injection h with h;subst h;exact bL.afx D hR
 ·split at h
  next z E=>exact bL.afx h (jG.qv E hR)
  ·cases h
end
def CA:Exit->ah Nat
 |.normal=>some 0
 |.ret=>some 1
 |.exit n=>some (n+2)
 |_=>none
def YD:Nat->Exit
 |0=>.normal
 |1=>.ret
 |n+2=>.exit n
def vX{e:Exit}{n:Nat}(h:CA e=some n):e=YD n:=by
 cases e<;>simp[CA]at h<;>subst h<;>rfl
def ua:aa (Nat×bL)->Type
 |[]=>Empty
 |(_,C)::r=>C.St⊕ua r
def P7:(l:aa (Nat×bL))->Nat->S->ah (ua l)
 |[],_,_=>none
 | (n,C) :: r,e,σ=>bif Nat.beq n e then (match C.rd σ with
  |some x=>some (.inl x)
  |none=>none)else (match P7 r e σ with
  |some x=>some (.inr x)
  |none=>none)
def YE{X:Type}:(l:aa (Nat×bL))->ua l->(Exit->S->ah X)->ah X
 |[],z,_=>nomatch z
 | (n,C) :: r,z,k=>match z with
  |.inl x=>k (YD n) (C.mk' x)
  |.inr z=>YE r z k
def iter{α β:Type}(step:α->ah (α⊕β)):Nat->α->ah β
 |0,_=>none
 | n+1,x=>match step x with
  |some (.inl y)=>iter step n y
  |some (.inr z)=>some z
  |none=>none
def Fg(P:Program)(N:Nat)(Φ:eK)(Λ:nR)(body:Code)(C:bL)(D:aa (Nat×bL))(x:C.St):ah (C.St⊕ua D):=
 mm P N Φ Λ body (C.mk' x) λe σ=>match CA e with
  | some 0=>(match C.rd σ with
   |some x=>some (.inl x)
   |none=>none)
  | some n=>(match P7 D n σ with
   |some x=>some (.inr x)
   |none=>none)
  |none=>none
def YF{X:Type}(id:Nat)(k:Exit->S->ah X)(e:Exit)(σ:S):ah X:=
 match e with
 |.exit C=>if C=id then k .normal σ else k (.exit C) σ
 |e=>k e σ
def P8(id:Nat)(C:bL)(D:aa (Nat×bL))(F:C.St->ah (C.St⊕ua D))(fuel:C.St->Nat):sI:=
 ⟨λX σ k=>match C.rd σ with
  | some x=>(match iter F (fuel x) x with
   |some z=>YE D z (YF id k)
   |none=>none)
  |none=>none⟩
def kT:aa (Bool×TC)->Type
 |[]=>af
 |(_,t)::r=>T t×kT r
def gB:(l:aa (Bool×TC))->kT l->aa Pt
 |[],_=>[]
 |(b,t)::r,x=>(b,enc t 0 x.1)::gB r x.2
def x4:(l:aa (Bool×TC))->aa Pt->ah (kT l)
 |[],[]=>some ()
 | (b,t) :: r,(C,D) :: ps=>bif b==C then (match dec t 0 D,x4 r ps with
  |some x,some xs=>some (x,xs)
  |_,_=>none)else none
 |_,_=>none
def gQ(ai:aa (Bool×TC))(ro:aa (Bool×TC×Nat))(F:kT ai->ah (iT ro)):jb:=
 ⟨λX args k=>match x4 ai args with
  | some x=>(match F x with
   |some y=>k (fF ro y)
   |none=>none)
  |none=>none⟩
def YG:Pt->A
 |(false,[x])=>.lf (.v x)
 |(true,xs)=>.agg (xs.map .v)
 |(false,.bool true::c::cs)=>.jr (c::cs)
 |(false,.bool false::.int .i64 (.ofNat g)::c::cs)=>.nH g (c::cs)
 |_=>.undef
def afy(args:aa Pt):S:=⟨λk=>match args[k]? with
 |some p=>YG p
 |none=>.undef,λ_=>none⟩
def qw{X:Type}(P:Program)(N:Nat)(Φ:eK)(Λ:nR)(code:Code)(C:Array ResultVar)(args:aa Pt)(k:gj->ah X):ah X:=
 mm P N Φ Λ code (afy args) λe σ=>match CA e with
  |some 0=>Ix P σ C k
  |some 1=>Ix P σ C k
  |_=>none
section
variable {P:Program} {w w':World} {w0:Wd} {B N:Nat} {aj aD:bK} {ρ ρ':Nat->Loc} {σ:S} {a:Act} {X:Type} {d:Nat} {r:X} {o:Oper} {Φ:eK} {Λ:nR}
def afz:∀ (l:aa (Nat×bL)) (e:Nat) (z:ua l),P7 l e σ=some z->∀ (X:Type) (k:Exit->S->ah X),∃ D,YE l z k=k (YD e) D/\∀ a w,R w0 N σ a w->R w0 N D a w
 |[],e,z,h=>by cases h
 | (n,E) :: l,e,z,h=>by
  intro X k;unfold P7 at h;cases hb:Nat.beq n e with
  | true=>
   obtain rfl:=cK hb;rw[hb,au]at h;split at h
   next x C=>injection h with h;subst h;exact⟨E.mk' x,rfl,λa w hR=>bL.qv C hR⟩
   ·cases h
  | false=>
   rw[hb,aq]at h;split at h
   next x C=>injection h with h;subst h;exact afz l e x C X k
   ·cases h
def atf{id:Nat}{body:Code}{E:bL}{U:aa (Nat×bL)}{F:E.St -> ah (E.St⊕ua U)}{fuel:E.St -> Nat}(eE:fX P Φ)(x5:qq P N Λ (occs body))(hF:∀ x,Fg P N Φ Λ body E U x=F x):Cq P N (.block id (.loop body)) (P8 id E U F fuel):=by
 intro X σ k r w0 h a w hR;simp only[P8]at h;split at h
 ·rename_i x L;split at h
  ·rename_i z hz;refine wp_block ?_;have key:∀ (n:Nat) (x:E.St),iter F n x=some z -> ∀ (a:Act) (w:World),R w0 N (E.mk' x) a w -> ∀ (b:Frame) (O:aa Item) (cs:aa Frame),
     ∃e T w',Exit.inBlock id (λe T w'=>∃dn,k e dn=some r/\R w0 N dn T w') e T w'/\Arrives P (lone (b.at a (.code body::.inLoop body::O)) cs w) b O cs e T w':=by
    intro n
    induction n with
    |zero=>intro x L;simp[iter]at L
    | succ n ih=>
     intro x L a w hR b O cs;simp only[iter]at L;have ko:∃ y,Fg P N Φ Λ body E U x=some y/\(match y with | .inl y=>iter F n y=some z | .inr z'=>z'=z):=by
      rw[hF];split at L
      ·grind
      ·grind
      ·cases L
     obtain⟨y,hy,Y⟩:=ko;unfold Fg at hy;have hwp:=Js (w0:=w0) eE body _ _ hy x5 a w hR;obtain⟨e,a1,w1,⟨qk,D,vR⟩,Z⟩:=hwp b (.inLoop body::O) cs;split at D
     ·rename_i C;have C:=vX C;subst C;split at D
      next x1 hx1=>injection D with D;subst D;obtain⟨e2,a2,w2,BU,atg⟩:=ih x1 Y a1 w1 (bL.qv hx1 vR) b O cs;exact⟨e2,a2,w2,BU,.of_steps (Steps.trans Z (.one step_inLoop)) atg⟩
      ·cases D
     ·rename_i n' dy C;have C:=vX C;split at D
      ·rename_i z1 YH;injection D with D;subst D;have Y:z1=z:=Y;subst Y;obtain⟨σ2,qa,lI⟩:=afz (w0:=w0) (N:=N) U n' z1 YH X (YF id k);rw[qa]at h;rw[<- C]at h;refine⟨e,a1,w1,?_,?_⟩
       ·cases e with
        | exit id'=>
         simp only[YF]at h;simp only[Exit.inBlock];split at h
         ·grind
         ·grind
        |_=>exact⟨σ2,h,lI a1 w1 vR⟩
       ·refine .pass (x:=.inLoop body) rfl (λ_ _=>.inl ?_) Z
        intro e';rw[e']at C
        match n',dy,C with
        |0,dy,_=>exact dy rfl
        |1,_,C=>cases C
        |n+2,_,C=>cases C
      ·cases D
     ·cases D
   intro b O cs;obtain⟨e,T,w',hq,Z⟩:=key (fuel x) x hz a w (bL.qv L hR) b O cs;exact⟨e,T,w',hq,.of_steps (.one step_loop) Z⟩
  ·cases h
 ·cases h
def PV.tS{key:Nat->aa Nat}{b:Bool}{xs ys:aa V}{u:Value}(h:PV w B aj key (b,xs) u)(k:lF xs ys):PV w B aj key (b,ys) u:=by
 obtain⟨us,E,L,O⟩:=h
 refine⟨us,E,L.trans k.1,λj y C=>?_⟩
 have D:j<xs.length:=by rw[k.1];exact(dV.1 C).1
 obtain⟨v,T,U⟩:=O j _ (bZ D);exact⟨v,T,U.wk (k.2 j _ y (bZ D) C)⟩
def zG.tS{cs C:aa V}{u:Value}(h:zG w cs u)(k:lF cs C):zG w C u:=by
 obtain⟨b,off,L,hb,O⟩:=h
 refine⟨b,off,L,hb,λj y D=>?_⟩
 have E:j<cs.length:=by rw[k.1];exact(dV.1 D).1
 obtain⟨v,T,U⟩:=O j _ (bZ E);exact⟨v,T,U.wk (k.2 j _ y (bZ E) D)⟩
def PA.tS{b:Bool}{xs ys:aa V}{u:Value}(h:PA w (b,xs) u)(k:lF xs ys):PA w (b,ys) u:=by
 cases h with
 |v _ _ h=>exact .v _ _ (h.tS k)
 | p c cs _ h=>
  obtain⟨y,E,rfl,C,D⟩:=k.inv;cases C;have h:=h.tS D;obtain⟨O,eM,rfl,_,_⟩:=D.inv;exact .p _ _ _ h
 | f g c cs u h=>
  obtain⟨y,E,rfl,C,D⟩:=k.inv;cases C;obtain⟨y,E,rfl,C,L⟩:=D.inv;cases C;have h:=h.tS L;obtain⟨O,eM,rfl,_,_⟩:=L.inv;exact .f _ _ _ _ h
def PA.ra{p:Pt}{u:Value}(h:PA w p u)(D:∀ y∈p.2,y.aF=true):RA w w.heap.size (λ_=>none) ρ (YG p) u:=by
 have U:∀ {cs:aa V} {u:Value},zG w cs u -> (∀ y∈cs,y.aF=true) -> RF w w.heap.size (λ_=>none) cs u:=by
  rintro cs u ⟨b,off,rfl,hb,E⟩ D
  refine⟨b,off,rfl,hb,rfl,λj x Y=>⟨D x (hU Y),E j x Y⟩⟩
 cases h with
 | v _ _ h=>
  obtain⟨us,Z,hs,E⟩:=h;obtain⟨b,xs⟩:=p;cases b with
  | true=>
   refine⟨us,Z,by rw[eS];exact hs,λi y C=>?_⟩
   rw[eR]at C;cases L:xs[i]? with
   |none=>simp_all
   | some z=>
    rw[L]at C;injection C with C;subst C;obtain⟨v,O,T⟩:=E i z L;exact⟨v,O,D z (hU L),T⟩
  | false=>
   subst Z;have h1:=hs.symm;obtain⟨x,rfl⟩:=List.length_eq_one_iff.1 h1;obtain⟨v,O,T⟩:=E 0 x rfl;have:u=v:=by simpa using O
   subst this;exact⟨D x (by simp),T⟩
 |p c cs _ h=>exact U h λy C=>D y (.tail _ C)
 |f g c cs u h=>exact⟨u,rfl,U h λy C=>D y (.tail _ (.tail _ C))⟩
def YI:∀ (l:aa (Bool×TC)) (ps:aa Pt) (x:kT l),x4 l ps=some x -> (gB l x).length=ps.length /\ ∀ (i:Nat) p,(gB l x)[i]?=some p -> ∃ q,ps[i]?=some q/\q.1=p.1/\lF q.2 p.2
 |[],[],x,h=>⟨rfl,λi p C=>by simp[gB]at C⟩
 | (b,t) :: r,(D,E) :: ps,x,h=>by
  unfold x4 at h;cases hb:b==D with
  |false=>simp_all
  | true=>
   rw[hb,au]at h;have hb:b=D:=by simpa using hb
   subst hb;split at h
   ·rename_i y ys L O;injection h with h;subst h;obtain⟨T,U⟩:=YI r ps ys O
    refine⟨by simp[gB,T],λi p C=>?_⟩
    cases i with
    |zero=>simp[gB]at C;subst C;exact⟨(b,E),rfl,rfl,mJ t 0 E y L⟩
    |succ i=>exact U i p (by simpa [gB]using C)
   ·cases h
 |[],_::_,x,h=>by simp[x4]at h
 |_::_,[],x,h=>by simp[x4]at h
def mq(l:aa (Bool×TC×Nat)):Bool:=l.all λp=>Nat.ble (full p.2.1) p.2.2
def afA(t:TC)(g:Nat)(x:T t)(h:full t <= g):(enc t g x).all V.loc=true:=by
 rw[cx];intro y D;have E:=zh t g x y D;have hl:=Oq t g x y D;cases y with
 | sl L C q l=>
  have O:C=g:=by simpa [V.gr]using E
  subst O;have hl:=cZ hl;show zH L C=true
  match C,h with
  |0,h=>omega
  |1,h=>omega
  | n+2,h=>
   simp only[zH,eG];left;exact jn (by omega)
 |_=>rfl
def YJ:∀ (l:aa (Bool×TC×Nat)) (ps:aa Pt) (x:iT l),mq l=true -> qg l ps=some x -> (tN l x).length=ps.length /\ ∀ (nm:Nat -> Nat) (off:Nat) (C:aa Value),jO w B aj nm off ps C -> jO w B aj nm off (tN l x) C
 |[],[],x,_,h=>⟨rfl,λnm off C D=>D⟩
 | [(b,t,g)],[(E,C)],x,O,h=>by
  unfold qg at h;cases hb:b==E with
  |false=>rw[hb]at h;cases h
  | true=>
   rw[hb]at h;have h:dec t g C=some x:=h;have hb:b=E:=by simpa using hb
   subst hb;have U:full t <= g:=by simpa [mq]using O
   refine⟨rfl,λnm off us D=>?_⟩
   match us,D with
   |[u],⟨⟨_,L⟩,_⟩=>exact⟨⟨afA t g x U,L.tS (mJ t g C x h)⟩,trivial⟩
 | (b,t,g) :: q :: r,(E,C) :: ps,x,O,h=>by
  unfold qg at h;cases hb:b==E with
  |false=>grind
  | true=>
   rw[hb,au]at h;have hb:b=E:=by simpa using hb
   subst hb;have T:full t <= g/\mq (q :: r)=true:=by
    simp only[mq,List.all_cons,aU]at O ⊢;simp_all
   split at h
   ·rename_i y ys L Y;injection h with h;subst h;obtain⟨Z,k2⟩:=YJ (q :: r) ps ys T.2 Y
    refine⟨by simp[tN,Z],λnm off us D=>?_⟩
    match us,D with
    | u :: us,⟨⟨_,hp⟩,vJ⟩=>
     have hlen:=(mJ t g C y L).1;refine⟨⟨afA t g y T.1,hp.tS (mJ t g C y L)⟩,?_⟩;simp_all
   ·cases h
 |[],_::_,x,_,h=>by simp[qg]at h
 |[_],[],x,_,h=>by simp[qg]at h
 |[_],_::_::_,x,_,h=>by simp[qg]at h
 |_::_::_,[],x,_,h=>by simp[qg]at h
def afB{l:aa (Bool×TC×Nat)}{E:gj}{x:iT l}(O:mq l=true)(h:mh l E=some x){nm:Nat -> Nat}{v:Value}(D:qf w B aj nm E v):qf w B aj nm (fF l x) v:=by
 cases E with
 | one p=>
  obtain⟨C,L⟩:=YJ (w:=w) (B:=B) (aj:=aj) l [p] x O h;have D:jO w B aj nm 0 [p] [v]:=D;have:=L nm 0 [v] D;unfold fF
  match hm:tN l x,C,this with
  |[q],_,this=>exact this
  |[],C,_=>cases C
  |_::_::_,C,_=>simp at C
 | fk ps=>
  simp only[mh]at h;cases hb:Nat.beq ps.length 1 with
  |true=>simp_all
  | false=>
   rw[hb,aq]at h;obtain⟨C,L⟩:=YJ (w:=w) (B:=B) (aj:=aj) l ps x O h;obtain⟨T,e,D⟩:=D;have:=L nm 0 _ D;unfold fF
   match hm:tN l x,C,this with
   |[q],C,this=>simp_all
   |[],_,this=>exact⟨T,e,this⟩
   |_::_::_,_,this=>exact⟨T,e,this⟩
def afC:∀ (l:aa (Bool×TC)) (x:kT l),(gB l x).length=l.length
 |[],x=>rfl
 |(b,t)::l,x=>by simp[gB,afC l]
def afD:∀ (l:aa (Bool×TC)) (x:kT l) (j:Nat) (p:Pt),(gB l x)[j]?=some p->∀ y∈p.2,y.aF=true
 |[],x,j,p,C,_,_=>by simp[gB]at C
 | (b,t) :: l,x,0,p,C,y,D=>by
  simp[gB]at C;subst C;obtain⟨i,hi⟩:=List.mem_iff_getElem?.1 D;exact sj t 0 x.1 (by omega) i y hi
 |(b,t)::l,x,j+1,p,C,y,D=>afD l x.2 j p (by simpa [gB]using C) y D
def Jx{f:Nat}{fn:Func}{code:Code}{uc:aa Pt}{ro:aa (Bool×TC×Nat)}{y:iT ro}(hf:P.funcs[f]?=some fn)(hb:fn.body=some code)(hN:fn.ntmps=N)(T:uc.length <= N)(eY:mq ro=true)
  (eE:fX P Φ) (x5:qq P N Λ (occs code)) (ath:∀(j:Nat) p,uc[j]?=some p -> ∀y∈p.2,y.aF=true) (L:qw P N Φ Λ code fn.results uc (mh ro)=some y) (nm:Nat -> Nat) (w:World) (cc:Array Value) (U:pH w uc cc) (Y:Hd w (λ_=>none)):
  Calls P f cc w λe w'=>∃v aD,e = .returned v/\Below w.heap.size w w'/\(∀b k,aD b=some k -> w.heap.size <= b/\b<w'.heap.size/\k≠[])/\qf w' w.heap.size aD nm (fF ro y) v:=by
 have T:cc.size <= N:=by rw[U.1];exact T
 refine calls_of_wp hf hb ?_;unfold qw at L;have hR:R (.of w Y) N (afy uc) { tmps:=cc++Array.replicate (fn.ntmps-cc.size) undef,defers:=[] } w:=by
  refine⟨λ_=>none,λ_=>.aB 0 0,.of (Below.refl w.heap.size w) (dQ _),(λb k D=>by cases D),(λn y L=>by cases L),λj=>?_,by simp[hN];omega,rfl,(λr l h=>by cases h),(λ_ _=>rfl)⟩
  show RA w w.heap.size _ _ (match uc[j]? with|some p=>YG p|none=>.undef) _;cases Z:uc[j]? with
  |none=>trivial
  | some p=>
   obtain⟨u,hu,sC⟩:=U.2 j p Z;have hj:=(iW.1 hu).1;have e:(cc++Array.replicate (fn.ntmps-cc.size) undef).getD j undef=u:=by rw[iM,Array.getElem?_append_left hj,hu];rfl
   rw[e];exact sC.ra (ath j p Z)
 refine wp_mono (Js (w0:=.of w Y) eE code _ _ L x5 _ w hR) λe O w' C=>?_
 obtain⟨dn,D,aj,ρ,E⟩:=C;have fin:Ix P dn fn.results (mh ro)=some y -> O.defers=[] /\ ∃ v,(results fn O.tmps).run P w' = .ok v w' /\ ∃ Ag aD,Ending.returned v=Ending.returned Ag/\Below w.heap.size w w'/\(∀ b k,aD b=some k -> w.heap.size <= b/\b<w'.heap.size/\k≠[])/\qf w' w.heap.size aD nm (fF ro y) Ag:=by
  intro pO;obtain⟨res,mg,dP⟩:=aqr pO;obtain⟨v,aD,h1,h2,h3⟩:=dP aj ρ O w' E nm;exact⟨E.defers,v,h1,v,aD,rfl,⟨E.below.os,E.below.tape,E.below.output,E.below.size,λk D=>E.below.block k D rfl⟩,λb k hb=>⟨(h2 b k hb).1.resolve_right (λh=>h rfl),(h2 b k hb).2⟩,afB eY mg h3⟩
 split at D
 next C=>have C:=vX C;subst C;exact fin D
 next C=>have C:=vX C;subst C;exact fin D
 ·cases D
def ati{ai:aa (Bool×TC)}{args:aa Pt}{x:kT ai}{cc:Array Value}(E:x4 ai args=some x)(C:pH w args cc):pH w (gB ai x) cc:=by
 obtain⟨L,O⟩:=YI ai args x E
 refine⟨C.1.trans L.symm,λj p T=>?_⟩
 obtain⟨q,U,D,Y⟩:=O j p T;obtain⟨u,Z,sC⟩:=C.2 j q U;refine⟨u,Z,?_⟩;obtain⟨b,ys⟩:=p;obtain⟨b',xs⟩:=q;simp only at D;subst D;exact sC.tS Y
def YK{f:Nat}{ai:aa (Bool×TC)}{ro:aa (Bool×TC×Nat)}{F:kT ai->ah (iT ro)}(h:∀ x y,F x=some y->∀ (nm:Nat->Nat) (w:World) (cc:Array Value),pH w (gB ai x) cc->Hd w (λ_=>none)->
  Calls P f cc w λe w'=>∃v aD,e = .returned v/\Below w.heap.size w w'/\(∀b k,aD b=some k->w.heap.size<=b/\b<w'.heap.size/\k≠[])/\qf w' w.heap.size aD nm (fF ro y) v):iH P f (gQ ai ro F):=by
 refine⟨λargs X Y k g=>?_,λargs T C nm w cc D E=>?_⟩
 ·unfold gQ;dsimp only;split
  ·split<;>rfl
  ·rfl
 ·simp only[gQ]at C;split at C
  ·rename_i x L;split at C
   next y O=>injection C with C;subst C;exact h x y O nm w cc (ati L D) E
   ·cases C
  ·cases C
def atj{f:Nat}{fn:Func}{code:Code}{ai:aa (Bool×TC)}{ro:aa (Bool×TC×Nat)}{F:kT ai->ah (iT ro)}(C:P.funcs[f]?=some fn)(hb:fn.body=some code)(D:fn.ntmps=N)(E:(fn.name == "runtime.NumGoroutine")=false)(L:Nat.ble ai.length N=true)(O:mq ro=true)
  (T:fX P Φ) (U:qq P N Λ (occs code)) (Y:∀x,qw P N Φ Λ code fn.results (gB ai x) (mh ro)=F x):enters P f/\iH P f (gQ ai ro F):=
 ⟨⟨fn,C,E,by rw[hb];rfl⟩,YK λx y Z nm w cc me hQ=>Jx C hb D (by rw[afC];exact cZ L) O T U (afD ai x) ((Y x).trans Z) nm w cc me hQ⟩
def atk{f:Nat}{fn:Func}{code:Code}{t:TC}{g:Nat}{F:aa (T t)->ah (aa (T t))}(E:P.funcs[f]?=some fn)(hb:fn.body=some code)(O:fn.ntmps=N)(Jy:(fn.name == "runtime.NumGoroutine")=false)(YL:Nat.ble 1 N=true)(U:mq [(false,.sl t,g)]=true)
  (Y:fX P Φ) (Z:qq P N Λ (occs code)) (hF:∀x:aa (T t),qw P N Φ Λ code fn.results [(false,[.sl t 0 false x])] (mh [(false,.sl t,g)])=F x)
  (h0:qw P N Φ Λ code fn.results [(false,[.nil])] (mh [(false,.sl t,g)])=some ([]:aa (T t))) (h1:qw P N Φ Λ code fn.results [(false,[.sl t 0 true []])] (mh [(false,.sl t,g)])=some ([]:aa (T t))):
  enters P f/\iH P f (gQ [(false,.sl t)] [(false,.sl t,g)] λx=>bif jN x.1 then some ([]:aa (T t))else F x.1):=by
 refine⟨⟨fn,E,Jy,by rw[hb];rfl⟩,YK λx y D nm w cc L hQ=>?_⟩
 obtain⟨l,_⟩:=x;have L:pH w [(false,[.sl t 0 false l])] cc:=L;have hle:1<=N:=cZ YL;have P9:∀ (v:V),v.aF=true->∀ (j:Nat) p,([(false,[v])]:aa Pt)[j]?=some p->∀ y∈p.2,y.aF=true:=by
  intro v hv j p C y D;rcases j with _|j
  ·injection C with C;subst C;rw[List.mem_singleton.1 D];exact hv
  ·cases C
 obtain⟨u,hu,C⟩:=L.2 0 _ rfl;obtain⟨us,e,_,hv⟩:=C.pv;have e:us = #[u]:=e;subst e;obtain⟨v,g1,hr⟩:=hv 0 _ rfl;have g1:u=v:=by simpa using g1
 subst g1;have one:∀ v:V,RV w w.heap.size (λ_=>none) [] v u->pH w [(false,[v])] cc:=λv hr=>⟨L.1,λj p C=>by
  rcases j with _|j
  ·injection C with C;subst C;exact⟨u,hu,.v _ _ ⟨#[u],rfl,rfl,λi x hx=>by
    rcases i with _|i
    ·injection hx with hx;subst hx;exact⟨u,rfl,hr⟩
    ·cases hx⟩⟩
  ·cases C⟩
 cases l with
 |cons a l=>exact Jx (uc:=[(false,[.sl t 0 false (a::l)])]) E hb O hle U Y Z (P9 _ rfl) ((hF _).trans D) nm w cc L hQ
 | nil=>
  have D:some ([]:aa (T t))=some y:=D;injection D with D;subst D;cases hr with
  |eI=>exact Jx (uc:=[(false,[.nil])]) E hb O hle U Y Z (P9 _ rfl) h0 nm w cc (one _ (.nil _)) hQ
  |fN _ _ _ A c ho=>exact Jx (uc:=[(false,[.sl t 0 true []])]) E hb O hle U Y Z (P9 _ rfl) h1 nm w cc (one _ (.fW _ _ _ _ _ ho)) hQ
  |aF _ _ _ qn l b off cap us ho hl OD hB jA hc nJ=>exact Jx (uc:=[(false,[.sl t 0 true []])]) E hb O hle U Y Z (P9 _ rfl) h1 nm w cc (one _ (.fW _ _ _ _ _ ho)) hQ
end
def Jz(N:Nat)(σ:S)(t:Nat):S:=match σ.t t with
 | .view [q] s 0 j=>bif Nat.blt t N then (match σ.m q with
  |some (.sl (.sl C (o+2) D l))=>bif Nat.beq (full C) 0 then (((σ.drop q).drop t).root t (.sl (.sl C 2 false (l.take j)))).set t (.lf (.own [t]))else σ
  |_=>σ)else σ
 |_=>σ
def vY(N:Nat)(σ:S):aa ResultVar->S
 |[]=>σ
 |.tmp t::r=>vY N (Jz N σ t) r
 |_::r=>vY N σ r
def CB{X:Type}(P:Program)(N:Nat)(Φ:eK)(Λ:nR)(code:Code)(C:Array ResultVar)(D:aa In)(args:aa Ar)(k:aa In->gj->ah X):ah X:=
 mm P N Φ Λ code (B4 D args) λe σ=>match CA e with
  |some 0=>IF P (vY N σ C.toList) C D k
  |some 1=>IF P (vY N σ C.toList) C D k
  |_=>none
section
variable {P:Program} {w w':World} {w0:Wd} {B N:Nat} {aj aD:bK} {ρ ρ':Nat->Loc} {σ:S} {a:Act} {X:Type} {d:Nat} {r:X} {o:Oper} {Φ:eK} {Λ:nR}
def Rl.Jz{t:Nat}(h:Rl w0 N aj ρ σ a w):∃ aD ρ',Rl w0 N aD ρ' (Proofs.YtnilicojgkhpnaaGreat.Jz N σ t) a w:=by
 unfold Proofs.YtnilicojgkhpnaaGreat.Jz;split
 ·rename_i q s j ht;cases hN:Nat.blt t N with
  |false=>exact⟨aj,ρ,h⟩
  | true=>
   have hN:t<N:=by have:=cZ hN;omega
   rw[au];split
   ·rename_i E g qn l hm;cases Y:Nat.beq (full E) 0 with
    |false=>exact⟨aj,ρ,h⟩
    | true=>
     have Y:=cK Y;rw[au];have hv:=h.tmp t;rw[ht]at hv;obtain⟨A,n,c,Z,_,hj,hu⟩:=hv;have gu:sliced A 0 j c s = .slice A j c:=by cases A<;>simp[sliced,Addr.add]
     rw[gu]at hu;let D:bK:=λb=>match aj b with
      |some k=>bif dc q k then (bif Nat.beq k.length 1 then some [t]else none)else some k
      |none=>none
     have hrel:Rel q aj D:=⟨h.xk,λb hb=>by simp[D,hb],λb k hb C=>by simp[D,hb,C]⟩
     have h1:=h.rel hrel (λb k C=>by
      simp only[D]at C;cases hl:aj b with
      |none=>rw[hl]at C;cases C
      | some k'=>
       rw[hl]at C;simp only at C;refine⟨⟨_,rfl⟩,?_⟩;cases hq:dc q k' with
       | true=>
        rw[hq,au]at C;cases hlen:Nat.beq k'.length 1 with
        |true=>rw[hlen,au]at C;injection C with C;rw[<- C];simp
        |false=>rw[hlen,aq]at C;cases C
       | false=>
        rw[hq,aq]at C;injection C with C;subst C;exact(h.dw b k' hl).2.2)
     have eY:=h.root q _ hm;generalize O:bh.sl (.sl E (g+2) qn l)=z at eY;cases eY with
     |aB=>cases O
     |mp=>cases O
     |gh=>cases O
     | sl v y cF T=>
      injection O with O;subst O;simp only[di,cF]at Z;injection Z with Z;subst Z;have hn:n=l.length:=by cases T<;>rfl
      have atl:RV w w0.heap.size D [t] (.sl E 2 false (l.take j)) (.slice A j c):=by
       cases T with
       | eI=>
        have:j=0:=by simpa using hj
        subst this;exact .eI _ _ _
       |fN _ _ _ _ _ ho=>omega
       |fW _ _ _ _ _ ho=>omega
       |aF _ _ _ _ _ _ _ _ _ ho=>omega
       | own _ _ _ _ _ b cap cs us qd hh hs BO sk hc T=>
        have hl:(l.take j).length=j:=by rw[fT];omega
        have hle:∀i (hi:i<(l.take j).length),∃sF:i<l.length,(l.take j)[i]=l[i]:=λi hi=>⟨by omega,List.getElem_take⟩
        have:=RV.own (w:=w) (B:=w0.heap.size) (aj:=D) [t] E 0 false (l.take j) b c cs us (by simp[D,qd,dc]) hh hs (by omega) ⟨sk.1,λh=>by cases h⟩ (λi hi k x U=>by
         obtain⟨sF,e⟩:=hle i hi;rw[e,EF E Y 0]at U;exact hc i sF k x U) (λi hi k x U=>by
         obtain⟨sF,e⟩:=hle i hi;rw[e,EF E Y 0]at U;exact(T i sF k x U).tw (zg E g _ Y x (hU U)))
        rw[hl]at this;exact this
      have hrm:EC w w D D t:=⟨dQ _,λ_ _ _=>rfl,λ_ _=>rfl,h1.xk⟩
      have L:=h1.zn (d:=t) (ρ':=cg ρ t (.ep (.slice A j c))) (x:=.sl (.sl E 2 false (l.take j))) (h.dH t (.inl hN)) ⟨rfl,rfl,rfl,dQ _,λ_ _ _=>rfl⟩ hrm (λb k hb C=>by
       have:=(h1.dw b k C).2.1;omega) (λr T=>cR _ _ _ T) (.sl _ _ (cv _ _ _) atl)
      refine⟨_,_,L.below,L.dw,L.root,λk=>?_,L.size,L.defers,L.fix,L.dH⟩
      show RA w w0.heap.size D _ (cg _ t _ k) _;by_cases C:k=t
      ·subst C;rw[cv,hu];exact⟨rfl,by simp only[di,cv]⟩
      ·rw[cR _ _ _ C];exact L.tmp k
   ·exact⟨aj,ρ,h⟩
 ·exact⟨aj,ρ,h⟩
def Rl.vY:∀ (l:aa ResultVar) (σ:S) (aj:bK) (ρ:Nat -> Loc),Rl w0 N aj ρ σ a w -> ∃ aD ρ',Rl w0 N aD ρ' (Proofs.YtnilicojgkhpnaaGreat.vY N σ l) a w
 |[],_,aj,ρ,h=>⟨aj,ρ,h⟩
 | .tmp t :: r,_,_,_,h=>by
  obtain⟨C,D,E⟩:=h.Jz;exact Rl.vY r _ C D E
 |.cell _ _::r,_,aj,ρ,h=>Rl.vY r _ aj ρ h
def fnM_core{f:Nat}{fn:Func}{code:Code}{C:aa In}{args:aa Ar}{k:aa In -> gj -> ah X}(hf:P.funcs[f]?=some fn)(hb:fn.body=some code)(hN:fn.ntmps=N)(YM:N <= 20000)(hlen:args.length <= N)
  (eE:fX P Φ) (x5:qq P N Λ (occs code)) (h:CB P N Φ Λ code fn.results C args k=some r) (nm:Nat -> Nat) (w:World) (aj:bK) (ρ:Nat -> Loc) (cc:Array Value)
  (hE:pJ w w.heap.size aj ρ 0 C) (ot:∀b k,aj b=some k -> b<w.heap.size/\k≠[]) (iL:cc.size=args.length) (hv:∀i,RA w w.heap.size aj ρ ((B4 C args).t i) (cc.getD i undef)) (U:Hd w aj):
  Calls P f cc w λe w'=>∃v aD outs D,k outs D=some r/\e = .returned v/\js ⟨w,aj,λ_=>none,U,λ_ _=>rfl⟩ w w'/\(∀b k,aD b=some k -> (w.heap.size <= b \/ aj b≠none)/\b<w'.heap.size/\k≠[])/\qf w' w.heap.size aD nm D v/\rj w w' aD ρ nm 0 D.len C outs:=by
 let W:Wd:=⟨w,aj,λr=>if 20000 <= r/\r<60000 then some (ρ r)else none,U,λr hr=>bU⟩
 refine calls_of_wp hf hb ?_;unfold CB at h;have hR:R W N (B4 C args) { tmps:=cc++Array.replicate (fn.ntmps-cc.size) undef,defers:=[] } w:=by
  refine⟨aj,ρ,.of (Below.refl w.heap.size w) (dQ _),λb k hb=>⟨.inr (by rw[show W.L b=aj b from rfl,hb];simp),ot b k hb⟩,pJ.roots C 0 _ hE (λr x hx=>by cases hx),λj=>?_,by simp[hN];omega,rfl,λr l hr=>?_,λr hr=>?_⟩
  ·by_cases hj:j<cc.size
   ·have e:(cc++Array.replicate (fn.ntmps-cc.size) undef).getD j undef=cc.getD j undef:=by
     rw[iM,Array.getElem?_append_left hj,iM]
    rw[e];exact hv j
   ·have e:(B4 C args).t j = .undef:=by
     simp only[B4,List.getElem?_eq_none (by omega:args.length <= j)]
    rw[e];trivial
  ·grind
  ·grind
 refine wp_mono (Js (w0:=W) eE code _ _ h x5 _ w hR) λe Y w' E=>?_
 obtain⟨dn,T,IB,Iz,O⟩:=E;have fin:IF P (Proofs.YtnilicojgkhpnaaGreat.vY N dn fn.results.toList) fn.results C k=some r -> Y.defers=[] /\ ∃ v,(results fn Y.tmps).run P w' = .ok v w' /\ ∃ Ag aD outs D,k outs D=some r/\Ending.returned v=Ending.returned Ag/\js ⟨w,aj,λ_=>none,U,λ_ _=>rfl⟩ w w'/\(∀ b k,aD b=some k -> (w.heap.size <= b \/ aj b≠none)/\b<w'.heap.size/\k≠[])/\qf w' w.heap.size aD nm D Ag/\rj w w' aD ρ nm 0 D.len C outs:=by
  intro pO;obtain⟨outs,D,hko,dP⟩:=aqt (w0:=W) rfl (λr Z h2=>bI ⟨Z,h2⟩) (pJ.WV C 0 hE) pO;obtain⟨dN,fm,lI⟩:=Rl.vY _ dn IB Iz O;obtain⟨v,aD,Z,h2,h3,h4⟩:=dP dN fm Y w' lI nm;exact⟨O.defers,v,Z,v,aD,outs,D,hko,rfl,⟨O.below.os,O.below.tape,O.below.output,O.below.size,λk T=>O.below.block k T⟩,h2,h3,h4⟩
 split at T
 next E=>have E:=vX E;subst E;exact fin T
 next E=>have E:=vX E;subst E;exact fin T
 ·cases T
end
def rC:(l:aa (Bool×TC×Nat))->aa In->ah (sB l)
 |[],[]=>some ()
 | (true,t,g) :: r,.aB cs :: is=>match dec t g cs,rC r is with
  |some x,some xs=>some (x,xs)
  |_,_=>none
 | (false,t,g) :: r,.sl y :: is=>match (bif Nat.ble 1000000 g then (bif y.kg then none else y.fB t (g+2))else bif y.kg then y.fB t (g+2)else none),rC r is with
  |some x,some xs=>some (x,xs)
  |_,_=>none
 |_,_=>none
def Qa:aa In->aa In->aa In->Prop
 |[],[],[]=>True
 |.aB L::C,.aB cs::r,.aB eM::D=>(lF cs eM/\L.map (λv=>(v.plain,v.aF))=eM.map (λv=>(v.plain,v.aF))/\∀x∈eM,x.kg=true)/\Qa C r D
 |.sl _::C,.sl y::r,.sl E::D=>(Wk y E/\(y = .nil->E = .nil))/\Qa C r D
 |_,_,_=>False
def Qb:∀ (ps:aa PK) (C:mM ps) (is:aa In) (x:sB (fC ps)),rC (fC ps) is=some x -> Qa (nN ps C) is (lJ (fC ps) x)
 |[],_,[],x,_=>trivial
 |[],_,_::_,x,h=>by simp[rC,fC]at h
 |.v b t::ps,C,is,x,h=>Qb ps C.2 is x h
 |.p t g off::ps,C,[],x,h=>by simp[rC,fC]at h
 |.s t g::ps,C,[],x,h=>by simp[rC,fC]at h
 |.p t g off::ps,C,.sl _::_,x,h=>by simp[rC,fC]at h
 |.s t g::ps,C,.aB _::_,x,h=>by simp[rC,fC]at h
 | .p t g off :: ps,C,.aB cs :: is,x,h=>by
  have h:rC ((true,t,g)::fC ps) (.aB cs::is)=some x:=h;unfold rC at h;split at h
  next y ys D L=>injection h with h;subst h;exact⟨⟨mJ t g cs y D,apx t g C.1 y,λz O=>VM t g y z O⟩,Qb ps C.2 is ys L⟩
  ·cases h
 | .s t g :: ps,C,.sl y :: is,x,h=>by
  have h:rC ((false,t,g)::fC ps) (.sl y::is)=some x:=h;unfold rC at h;split at h
  ·rename_i z T D L;injection h with h;subst h;refine⟨?_,Qb ps C.2 is T L⟩;cases hb:Nat.ble 1000000 g with
   | true=>
    cases E:y.kg with
    |true=>simp_all
    | false=>
     have:y = .nil:=by cases y<;>first|rfl|cases E
     subst this;exact⟨.same _,λ_=>rfl⟩
   | false=>
    cases E:y.kg with
    |false=>simp_all
    | true=>
     rw[hb,E]at D;exact⟨V.HO D,λe=>by subst e;cases E⟩
  ·cases h
def rj.typed{w w':World}{aD:bK}{ρ:Nat -> Loc}{nm:Nat -> Nat}:∀ (E:aa In) (i Y:Nat) (outs T:aa In),rj w w' aD ρ nm i Y E outs -> Qa E outs T -> IE w w' aD ρ nm i Y E T
 |[],i,Y,[],[],h,C=>trivial
 | .aB cs0 :: E,i,Y,.aB cs1 :: outs,.aB cs2 :: T,h,C=>by
  obtain⟨⟨b,off,cells,xz,e,e',Z,h2,h3,h4,h5,h6,h7⟩,hr⟩:=h;obtain⟨⟨U,YN,hnn⟩,pF⟩:=C
  refine⟨⟨b,off,cells,xz,e,e',Z,h2,h3,h4,by rw[<- U.1];exact h5,by rw[<- U.1];exact h6,λj x hx=>?_⟩,rj.typed E _ _ outs T hr pF⟩
  have hj:j<cs1.length:=by rw[U.1];exact(dV.1 hx).1
  obtain⟨u,hu,hc⟩:=h7 j _ (bZ hj);have C:=U.2 j _ x (bZ hj) hx;have YO:∀ L,cs0[j]?=some L -> L.plain=x.plain/\L.aF=x.aF:=by
   intro L h0;have e1:(cs0.map (λv=>(v.plain,v.aF)))[j]?=(cs2.map (λv=>(v.plain,v.aF)))[j]?:=by rw[YN]
   grind
  have hxn:=hnn x (hU hx);generalize cs1[j]=y at hc C;refine⟨u,hu,?_⟩;rcases hc with ⟨D,O⟩|⟨D,O,L,c3,c4⟩|⟨D,O,c6,⟨L,c3,c4⟩,c5⟩|⟨D,O⟩
  ·cases C with
   |same=>grind
   |nil t o=>cases D
   |q t o l=>cases D
   |gr=>cases D
  ·subst D O;have hf:x.aF=false:=by rw[<- (YO L c3).2];exact c4
   cases C with
   |same=>cases hxn
   |nil t o=>exact .inr (.inr ⟨hf,.eI _ _ _⟩)
  ·cases C with
   |same=>grind
   |nil t o=>cases c6
   |q t o l=>exact .inr (.inl ⟨rfl,O,c5⟩)
   |gr t o o' qn l Z h2=>simp[V.aF]at O;omega
  ·have hf:=C.adS D;exact .inr (.inr ⟨hf,O.wk C⟩)
 | .sl y0 :: E,i,Y,.sl y1 :: outs,.sl y2 :: T,h,C=>by
  obtain⟨h,hr⟩:=h;obtain⟨⟨U,hn⟩,pF⟩:=C;exact⟨h.imp hn (λ⟨v,Z,h2⟩=>⟨v,Z,h2.wk U⟩),rj.typed E _ _ outs T hr pF⟩
 |[],_,_,_::_,_,h,_=>h.elim
 |[],_,_,[],_::_,_,h=>h.elim
 |.aB _::_,_,_,[],_,h,_=>h.elim
 |.sl _::_,_,_,[],_,h,_=>h.elim
 |.aB _::_,_,_,.sl _::_,_,h,_=>h.elim
 |.sl _::_,_,_,.aB _::_,_,h,_=>h.elim
 |.aB _::_,_,_,.aB _::_,[],_,h=>h.elim
 |.aB _::_,_,_,.aB _::_,.sl _::_,_,h=>h.elim
 |.sl _::_,_,_,.sl _::_,[],_,h=>h.elim
 |.sl _::_,_,_,.sl _::_,.aB _::_,_,h=>h.elim
def afE:∀ (l:aa (Bool×TC×Nat)) (ps:aa Pt) (x:iT l),qg l ps=some x -> (ps.map λp=>p.2.length)=((tN l x).map λp=>p.2.length)
 |[],[],x,h=>rfl
 | [(b,t,g)],[(C,D)],x,h=>by
  unfold qg at h;cases hb:b==C with
  |false=>rw[hb]at h;cases h
  | true=>
   rw[hb]at h;simp[tN,(mJ t g D x h).1]
 | (b,t,g) :: q :: r,(C,D) :: ps,x,h=>by
  unfold qg at h;cases hb:b==C with
  |false=>simp_all
  | true=>
   rw[hb]at h;split at h
   next y ys E L=>injection h with h;subst h;simp only[tN,List.map_cons];rw[afE _ ps ys L,(mJ t g D y E).1]
   ·cases h
def atm{l:aa (Bool×TC×Nat)}{C:gj}{x:iT l}(h:mh l C=some x):C.len=(fF l x).len:=by
 have key:∀ ps,qg l ps=some x -> (ps.map λp=>p.2.length).sum=(fF l x).len:=by
  intro ps h;rw[afE l ps x h];unfold fF
  match hm:tN l x with
  |[q]=>simp[gj.len]
  |[]=>rfl
  |_::_::_=>rfl
 cases C with
 |one p=>have:=key [p] h;simpa [gj.len]using this
 | fk ps=>
  simp only[mh]at h;cases hb:Nat.beq ps.length 1 with
  |true=>simp_all
  |false=>rw[hb]at h;exact key ps h
section
variable {P:Program} {w w':World} {w0:Wd} {B N:Nat} {aj aD:bK} {ρ ρ':Nat->Loc} {σ:S} {a:Act} {X:Type} {d:Nat} {r:X} {o:Oper} {Φ:eK} {Λ:nR}
def Fh(l ro:aa (Bool×TC×Nat))(outs:aa In)(C:gj):ah (iT ro×sB l):=
 match mh ro C,rC l outs with
 |some x,some y=>some (x,y)
 |_,_=>none
def Qc{f:Nat}{fn:Func}{code:Code}{ps:aa PK}{ro:aa (Bool×TC×Nat)}{F:mM ps->ah (iT ro×sB (fC ps))}(L:P.funcs[f]?=some fn)(hb:fn.body=some code)(T:fn.ntmps=N)(U:(fn.name == "runtime.NumGoroutine")=false)(Y:Nat.ble ps.length N=true)(Z:Nat.ble N 20000=true)(eY:mq ro=true)
  (eE:fX P Φ) (x5:qq P N Λ (occs code)) (hF:∀x,CB P N Φ Λ code fn.results (nN ps x) (kr ps 0 x) (Fh (fC ps) ro)=F x):enters P f/\tO P f ⟨ps,ro,F⟩:=by
 refine⟨⟨fn,L,U,by rw[hb];rfl⟩,λx y h nm w aj ρ cc hE ot D hv hQ=>?_⟩
 have h:F x=some y:=h;rw[<-hF x]at h;have hlen:∀ (ps:aa PK) (i:Nat) (x:mM ps),(kr ps i x).length=ps.length:=by
  intro ps
  induction ps with
  |nil=>intro i x;rfl
  | cons p ps E=>
   intro i x;cases p with
   |v=>exact aZ (· + 1) (E _ _)
   |p=>exact aZ (· + 1) (E _ _)
   |s=>exact aZ (· + 1) (E _ _)
 have D:cc.size=(kr ps 0 x).length:=by rw[hlen];exact D
 refine(fnM_core L hb T (cZ Z) (by rw[hlen];exact cZ Y) eE x5 h nm w aj ρ cc hE ot D hv hQ).mono λe w' tK=>?_
 obtain⟨v,aD,outs,res,C,he,su,hl,mg,Xc⟩:=tK;unfold Fh at C;split at C
 next y1 y2 O h2=>injection C with C;subst C;refine⟨v,aD,he,su,hl,afB eY O mg,?_⟩;rw[<-atm O];exact rj.typed _ _ _ _ _ Xc (Qb ps x outs y2 h2)
 ·cases C
end
set_option maxRecDepth 100000
section
variable {P:Program} {w w':World} {w0:Wd} {B N:Nat} {aj aD:bK} {ρ ρ':Nat->Loc} {σ:S} {a:Act} {X:Type} {d:Nat} {r:X} {o:Oper} {Φ:eK} {Λ:nR}
end
def nV(i j:Nat):Nat:=20001+1000*i+j
def Fi(i j:Nat)(x:V):Lf:=match x with
 |.sl ..=>.own [nV i j]
 |x=>.v x
def x6(i:Nat):Nat->aa V->aa Lf
 |_,[]=>[]
 |j,x::xs=>Fi i j x::x6 i (j+1) xs
def YP(args:aa Pt)(n:Nat):ah bh:=bif Nat.ble 20001 n&&Nat.blt n 60000 then (match args[(n-20001) / 1000]? with
 | some (_,xs)=>(match xs[(n-20001) % 1000]? with
  |some (.sl t g q l)=>some (.sl (.sl t g q l))
  |_=>none)
 |none=>none)else none
def afF(args:aa Pt):S:=⟨λi=>match args[i]? with
 |some (false,[x])=>.lf (Fi i 0 x)
 |some (true,xs)=>.agg (x6 i 0 xs)
 |_=>.undef,YP args⟩
def Qd(σ:S)(C:Array ResultVar)(a j:Nat)(t:TC):ah (Nat×Nat):=match C.toList with
 | [.tmp s]=>(match σ.t s with
  |.view [n] D i k=>bif Nat.beq n (nV a j)&&Nat.beq D (aE t)then some (i,k)else none
  |_=>none)
 |_=>none
def afG(P:Program)(N:Nat)(Φ:eK)(Λ:nR)(code:Code)(C:Array ResultVar)(a j:Nat)(t:TC)(args:aa Pt):ah (Nat×Nat):=
 mm P N Φ Λ code (afF args) λe σ=>match CA e with
  |some 0=>Qd σ C a j t
  |some 1=>Qd σ C a j t
  |_=>none
def YQ(ai:aa (Bool×TC))(a j:Nat)(t:TC)(F:kT ai->ah (Nat×Nat)):Cg:=⟨a,j,t,λargs=>match x4 ai args with
 |some x=>F x
 |none=>none⟩
section
variable {P:Program} {w w':World} {w0:Wd} {B N:Nat} {aj aD:bK} {ρ ρ':Nat->Loc} {σ:S} {a:Act} {X:Type} {d:Nat} {r:X} {o:Oper} {Φ:eK} {Λ:nR}
def afH(i:Nat):∀ (xs:aa V) (C j:Nat),(x6 i C xs)[j]?=(xs[j]?).map λx=>Fi i (C+j) x
 |[],C,j=>by simp[x6]
 |x::xs,C,0=>by simp[x6]
 | x :: xs,C,j+1=>by
  simp[x6,List.getElem?_cons_succ,afH]
  grind
def afI(i:Nat):∀ (xs:aa V) (C:Nat),(x6 i C xs).length=xs.length
 |[],_=>rfl
 |x::xs,C=>by simp[x6,afI i xs (C+1)]
def afJ{i j:Nat}(h:j<1000):(nV i j-20001) / 1000=i/\(nV i j-20001) % 1000=j:=by
 unfold nV;omega
def Ah(cc:Array Value)(n:Nat):Loc:=.ep ((tU cc ((n-20001) / 1000) ((n-20001) % 1000)).getD undef)
def afK{cc:Array Value}{i j:Nat}{x:V}{u:Value}(D:j<1000)(E:tU cc i j=some u)(L:x.aF=true)(C:RV w B (λ_=>none) [] x u):dZ w B (λ_=>none) (Ah cc) (Fi i j x) u:=by
 unfold Fi;split
 ·refine⟨C.nG rfl rfl,?_⟩;obtain⟨O,T⟩:=afJ (i:=i) D;simp only[di,Ah,O,T,E];rfl
 ·exact⟨L,C⟩
def atn{f:Nat}{fn:Func}{code:Code}{ai:aa (Bool×TC)}{O T:Nat}{t:TC}{F:kT ai -> ah (Nat×Nat)}(hf:P.funcs[f]?=some fn)(hb:fn.body=some code)(hN:fn.ntmps=N)(Jy:(fn.name == "runtime.NumGoroutine")=false)(YL:Nat.ble ai.length N=true)(YM:Nat.ble N 20000=true)(iL:(ai.all λp=>Nat.blt (aE p.2) 1000&&(p.1 || Nat.beq (aE p.2) 1))=true)(hjj:Nat.blt T 1000=true)(haa:Nat.blt O 30=true)
  (eE:fX P Φ) (x5:qq P N Λ (occs code)) (hF:∀x,afG P N Φ Λ code fn.results O T t (gB ai x)=F x):enters P f/\Pm P f (YQ ai O T t F):=by
 refine⟨⟨fn,hf,Jy,by rw[hb];rfl⟩,λargs p h w cc me hQ=>?_⟩
 simp only[YQ]at h;split at h
 ·rename_i x hx;obtain⟨k1,k2⟩:=YI ai args x hx;have hlen:∀ (l:aa (Bool×TC)) (x:kT l),(gB l x).length=l.length:=by
   intro l
   induction l with
   |nil=>intro x;rfl
   |cons p l ih=>obtain⟨b,t⟩:=p;intro x;simp[gB,ih]
  have kR:cc.size=ai.length:=by rw[me.1,<- k1,hlen]
  have hle:cc.size <= N:=by rw[kR];exact cZ YL
  have YM:=cZ YM;have xT:∀ (l:aa (Bool×TC)) (x:kT l),(l.all λp=>Nat.blt (aE p.2) 1000&&(p.1 || Nat.beq (aE p.2) 1))=true -> ∀ (j:Nat) p,(gB l x)[j]?=some p -> (∀ y∈p.2,y.aF=true)/\p.2.length<1000/\(p.1=true \/ p.2.length=1):=by
   intro l
   induction l with
   |nil=>intro x _ j p U;simp[gB]at U
   | cons c l ih=>
    obtain⟨b,t⟩:=c;intro x hs j p U;rw[List.all_cons,aU]at hs;cases j with
    | zero=>
     simp[gB]at U;subst U
     refine⟨λy C=>?_,?_⟩
     ·obtain⟨i,hi⟩:=List.mem_iff_getElem?.1 C;exact sj t 0 x.1 (by omega) i y hi
     ·show (enc t 0 x.1).length<1000/\(b=true \/ (enc t 0 x.1).length=1);rw[kP];have h8:=hs.1;rw[aU,eG]at h8;have h9:=cZ h8.1;exact⟨h9,h8.2.imp id cK⟩
    |succ j=>exact ih x.2 hs.2 j p (by simpa [gB]using U)
  have qc:∀ (i:Nat) (p:Pt),(gB ai x)[i]?=some p -> ∃ u:Value,cc[i]?=some u/\PV w w.heap.size (λ_=>none) (λ_=>[]) p u/\(∀ y∈p.2,y.aF=true)/\p.2.length<1000:=by
   intro i p U;obtain⟨q,hq,EG,BU⟩:=k2 i p U;obtain⟨u,Y,sC⟩:=me.2 i q hq;obtain⟨g1,g2,g3⟩:=xT ai x iL i p U;refine⟨u,Y,?_,g1,g2⟩;obtain⟨b,ys⟩:=p;obtain⟨b',xs⟩:=q;simp only at EG;subst EG;have hw:=sC.tS BU;rcases g3 with g3|g3
   ·simp only at g3;subst g3;exact hw.pvS
   ·obtain⟨y,rfl⟩:=List.length_eq_one_iff.1 g3;cases b' with
    |true=>exact hw.pvS
    |false=>exact hw.pv
  have YR:∀ (i:Nat) (p:Pt),(gB ai x)[i]?=some p -> ∀ (j:Nat) y,p.2[j]?=some y -> ∃ u,tU cc i j=some u/\RV w w.heap.size (λ_=>none) [] y u/\y.aF=true/\j<1000:=by
   intro i p U j y C;obtain⟨u,Y,⟨us,D,h2,h3⟩,h4,h5⟩:=qc i p U;obtain⟨v,E,L⟩:=h3 j y C;refine⟨v,?_,L,h4 y (hU C),by have:=(dV.1 C).1;omega⟩;unfold tU;rw[Y];obtain⟨b,ys⟩:=p;cases b with
   | true=>
    have D:u = .agg us:=D;subst D;exact E
   | false=>
    have D:us = #[u]:=D;subst D;have hj:j=0:=by
     have:=(iW.1 E).1
     simpa using this
    subst hj;have:u=v:=by simpa using E
    subst this;have vT:∀ us,u ≠ .agg us:=by
     rintro us rfl;cases L
    cases u<;>first|exact absurd rfl (vT _)|rfl
  let W:Wd:=⟨w,λ_=>none,λr=>if 20000 <= r/\r<60000 then some (Ah cc r)else none,hQ,λr L=>bU⟩
  refine calls_of_wp hf hb ?_;rw[<- hF x]at h;unfold afG at h;have hR:R W N (afF (gB ai x)) { tmps:=cc++Array.replicate (fn.ntmps-cc.size) undef,defers:=[] } w:=by
   refine⟨λ_=>none,Ah cc,.of (Below.refl w.heap.size w) (dQ _),(λb k hk=>by cases hk),(λn y C=>?_),λi=>?_,by simp[hN];omega,rfl,λr l L=>?_,λr L=>?_⟩
   ·have C:YP (gB ai x) n=some y:=C;unfold YP at C;cases hb:(Nat.ble 20001 n&&Nat.blt n 60000)with
    |false=>rw[hb]at C;cases C
    | true=>
     rw[hb,au]at C;split at C
     ·rename_i b xs U;split at C
      next t' g q l hl=>injection C with C;subst C;obtain⟨u,Y,L,vD,_⟩:=YR _ _ U _ _ hl;refine .sl u _ ?_ (L.key vD);unfold Ah;simp[*]
      ·cases C
     ·cases C
   ·show RA w w.heap.size _ _ (match (gB ai x)[i]? with | some (false,[x])=>A.lf (Fi i 0 x) | some (true,xs)=>.agg (x6 i 0 xs) | _=>.undef) _;have Ev:∀ p:Pt,(gB ai x)[i]?=some p -> ∃ u:Value,cc[i]?=some u/\(cc++Array.replicate (fn.ntmps-cc.size) undef).getD i undef=u:=by
     intro p U;obtain⟨u,Y,_⟩:=qc i p U;have hi:=(iW.1 Y).1;exact⟨u,Y,by rw[iM,Array.getElem?_append_left hi,Y];rfl⟩
    split
    ·rename_i x' mb;obtain⟨u,Y,e⟩:=Ev _ mb;rw[e];obtain⟨v,E,L,vD,_⟩:=YR i _ mb 0 x' rfl;have IC:u=v:=by
      unfold tU at E;rw[Y]at E;obtain⟨u2,q8,⟨us,D,h2,h3⟩,_⟩:=qc i _ mb;rw[Y]at q8;injection q8 with q8;subst q8;have D:us = #[u]:=D;subst D;obtain⟨v3,hv3,hr3⟩:=h3 0 x' rfl;have:u=v3:=by simpa using hv3
      subst this;have vT:∀ us,u ≠ .agg us:=by
       rintro us rfl;cases hr3
      cases u<;>first|exact absurd rfl (vT _)|(simp only[show Nat.beq 0 0=true from rfl,au,iO]at E;exact E)
     subst IC;exact afK (by omega) E vD L
    ·rename_i xs mb;obtain⟨u,Y,e⟩:=Ev _ mb;rw[e];obtain⟨u2,q8,⟨us,D,h2,h3⟩,_⟩:=qc i _ mb;rw[Y]at q8;injection q8 with q8;subst q8;have D:u = .agg us:=D
     refine⟨us,D,by rw[afI];exact h2,λj y C=>?_⟩
     rw[afH]at C;cases hz:xs[j]? with
     |none=>rw[hz]at C;cases C
     | some z=>
      rw[hz]at C;injection C with C;subst C;obtain⟨v,E,L,vD,hj⟩:=YR i _ mb j z hz;have huj:us[j]?=some v:=by
       unfold tU at E;rw[Y,D]at E;exact E
      refine⟨v,huj,?_⟩;rw[fD];exact afK hj E vD L
    ·trivial
   ·have L:(if 20000 <= r/\r<60000 then some (Ah cc r)else none)=some l:=L;split at L
    ·injection L
    ·cases L
   ·show (if 20000 <= r/\r<60000 then some (Ah cc r)else none)=none;rw[bU]
  refine wp_mono (Js (w0:=W) eE code _ _ h x5 _ w hR) λe a' w' he=>?_
  obtain⟨dn,hk,IB,Iz,dJ⟩:=he;have fin:Qd dn fn.results O T t=some p -> a'.defers=[] /\ ∃ u,(results fn a'.tmps).run P w' = .ok u w' /\ ∃ A n cap,tU cc O T=some (.slice A n cap)/\p.1 <= p.2/\p.2 <= n/\Ending.returned u = .returned (sliced A p.1 p.2 cap (aE t))/\Below w.heap.size w w':=by
   intro pO;unfold Qd at pO;split at pO
   ·rename_i s hs;split at pO
    ·rename_i n sz i k E;cases gZ:(Nat.beq n (nV O T)&&Nat.beq sz (aE t))with
     |false=>rw[gZ]at pO;cases pO
     | true=>
      rw[gZ,au]at pO;injection pO with pO;subst pO;rw[aU]at gZ;have hn:=cK gZ.1;have ato:=cK gZ.2;subst hn ato;have D:=dJ.tmp s;rw[E]at D;obtain⟨A,m,c,Z,e2,e3,e4⟩:=D;have hjj:=cZ hjj;have vT:20000 <= nV O T:=by unfold nV;omega
      by_cases dI:nV O T<60000
      ·have atp:=dJ.fix (nV O T) (Ah cc (nV O T)) (bI ⟨vT,dI⟩);have Z:(match Iz (nV O T)with | .ep v=>some v | _=>none)=some (Value.slice A m c):=Z;rw[atp]at Z;obtain⟨d1,d2⟩:=afJ (i:=O) (j:=T) (by omega);have Z:some ((tU cc ((nV O T-20001) / 1000) ((nV O T-20001) % 1000)).getD undef)=some (Value.slice A m c):=Z;rw[d1,d2]at Z;injection Z with Z
       refine⟨dJ.defers,_,?_,A,m,c,?_,e2,e3,aZ Ending.returned e4,⟨dJ.below.os,dJ.below.tape,dJ.below.output,dJ.below.size,λk hk=>dJ.below.block k hk rfl⟩⟩
       ·have mg:results fn a'.tmps=(do let vs <- fn.results.mapM (tL a'.tmps);pure (if h:vs.size=1 then vs[0]else .tuple vs)):=by
         unfold results;congr 1
        have xT:fn.results = #[.tmp s]:=by apply Array.ext';exact hs
        rw[mg,xT];simp[tL]
       ·cases hl:tU cc O T with
        |none=>rw[hl]at Z;cases Z
        |some u=>rw[hl]at Z;exact aZ some Z
      ·exfalso;have:=cZ haa;unfold nV at dI;omega
    ·cases pO
   ·cases pO
  split at hk
  next he=>have he:=vX he;subst he;exact fin hk
  next he=>have he:=vX he;subst he;exact fin hk
  ·cases hk
 ·cases h
end
def Wd.pin(d:Wd)(g:Nat)(l:ah Loc)(D:20000<=g):Wd:=⟨d.w,d.L,λr=>if r=g then l else d.F r,d.held,λr C=>by
 show (if r=g then l else d.F r)=none;rw[bU];exact d.low r C⟩
def CC(g:Nat):aa (Bool×aa Lf)->A
 |[(false,[x])]=>.lf (x.drop g)
 |[(true,cs)]=>.agg (cs.map (Lf.drop g))
 |[(false,_)]=>.undef
 |ps=>.fk (ps.map λp=>(p.1,p.2.map (Lf.drop g)))
def CD{X:Type}(P:Program)(g:Nat)(D:Array ResultVar)(C:S)(k:S->A->ah X):ah X:=
 sA P C D.toList λps=>match C.m g with
  |some (.gh ys)=>k ⟨λj=>((ys.map (A.drop g))[j]?).getD .undef,(C.drop g).m⟩ (CC g ps)
  |_=>none
def afL(g N:Nat)(σ:S)(xs:aa A):S:=⟨λj=>((xs.map (A.drop g))[j]?).getD .undef,cg (σ.drop g).m g (some (.gh ((List.range N).map λj=>(σ.t j).drop g)))⟩
def noB:nR:=λ_=>none
def JA{X:Type}(P:Program)(M g:Nat)(Φ:eK)(code:Code)(C:Array ResultVar)(N:Nat)(σ:S)(xs:aa A)(k:S->A->ah X):ah X:=
 bif Nat.ble xs.length M then mm P M Φ noB code (afL g N σ xs) λe D=>match CA e with
  |some 0=>CD P g C D k
  |some 1=>CD P g C D k
  |_=>none
 else none
def afM(P:Program)(M g:Nat)(Φ:eK)(code:Code)(C:Array ResultVar):tV:=⟨λX N σ xs k=>JA P M g Φ code C N σ xs k⟩
section
variable {P:Program} {w w':World} {w0:Wd} {B M N g:Nat} {aj aD:bK} {ρ ρ':Nat->Loc} {σ:S} {a:Act} {X:Type} {d:Nat} {r:X} {o:Oper} {Φ:eK} {Λ:nR}
def YS{C:ah Tmp}{D:Bool}:cP λX k=>sG (X:=X) σ C D k:=λX Y k g=>by
 unfold sG
 repeat' first|rfl|refine dz ?_ ?_|split
def atq{ops:Array Oper}{L i:Nat}:cP λX k=>Jc (X:=X) P N Φ ops L i σ o k:=λX Y k g=>by
 unfold Jc;split
 ·refine(XM _ _ _ _).trans (aZ _ (funext λv=>?_))
  exact dz (xJ _ _ _ _) rfl
 ·exact xJ _ _ _ _
 ·rfl
def YT(D:fX P Φ){ops:Array Oper}:∀ (f L:Nat) (σ:S),cP λX k=>rq (X:=X) P N Φ ops f L σ k
 | 0,L,σ=>λX Y k g=>by
  unfold rq;split<;>rfl
 | f+1,L,σ=>λX Y k g=>by
  have st:∀E o T,cP λX k=>dL (X:=X) P N Φ ops σ o λO=>sG O o.dst T λC=>rq P N Φ ops f E C k:=λE o T=>(aeN D).comp λO=>YS.comp λC=>YT D f E C
  unfold rq
  repeat' first
   |rfl
   |exact st _ _ _ _ _ _ _
   |exact(atq.comp λO=>YS.comp λC=>YT D f _ C) X Y k g
   |split
def atr{t:TypeId}{x lo hi C:A}{X Y:Type}(k:ah X)(g:X->ah Y):(E3 P σ t x lo hi C k).bind g=E3 P σ t x lo hi C (k.bind g):=by
 unfold E3
 repeat' first
  |rfl
  |refine(xH _ _ _ _ _).trans (aZ _ (funext λy=>?_))
  |split
def att(C:fX P Φ):cP λX k=>I8 (X:=X) P N Φ σ o k:=λX Y k g=>by
 unfold I8
 repeat' first
  |exact aeJ C _ _ _ _
  |exact arP _ _ _ _
  |exact(atr _ _).trans (aZ _ (dz rfl rfl))
  |split
def YU(C:fX P Φ){ops:Array Oper}:∀ (rest:aa Oper) (j:Nat) (σ:S),cP λX k=>Cm (X:=X) P N Φ ops j rest σ k
 |[],j,σ=>λ_ _ _ _=>rfl
 | o :: rest,j,σ=>λX Y k g=>by
  unfold Cm;split
  ·exact((att C).comp λD=>YS.comp λE=>YU C rest _ E) X Y k g
  ·exact(xJ.comp λD=>YU C rest _ D) X Y k g
  ·rfl
def afN(E:fX P Φ):∀ (c:Code) (σ:S),E2 λX k=>mm (X:=X) P N Φ noB c σ k:=by
 intro c
 induction c with
 | region id ops draw=>
  intro σ X Y k g;cases draw with
  |true=>exact dz (YT E _ _ _ _ _ _ _) rfl
  |false=>exact YU E _ _ _ _ _ _ _
 | seq x y C D=>
  intro σ X Y k g
  refine(C σ _ _ _ _).trans (aZ _ (funext λe=>funext λL=>?_))
  cases e with
  |normal=>exact D L _ _ _ _
  |_=>rfl
 | cond c x y C D=>
  intro σ X Y k g;simp only[mm];split
  ·exact dz (C σ _ _ _ _) (D σ _ _ _ _)
  ·rfl
 | block id c O=>
  intro σ X Y k g
  refine(O σ _ _ _ _).trans (aZ _ (funext λe=>funext λL=>?_))
  cases e with
  | exit T=>
   simp only;split<;>rfl
  |_=>rfl
 |_=>intro σ X Y k g;rfl
def Qe:∀ (l:aa ResultVar),cP λX k=>sA (X:=X) P σ l k
 |[]=>λ_ _ _ _=>rfl
 | .tmp t :: rest=>λX Y k g=>by
  simp only[sA];split
  ·exact Qe rest _ _ _ _
  ·rfl
 | .cell c ty :: rest=>λX Y k g=>by
  simp only[sA]
  refine(ad9 _ _ _ _).trans (aZ _ (funext λy=>?_))
  split
  ·exact Qe rest _ _ _ _
  ·rfl
def afO{C:Array ResultVar}:E2 λX k=>CD (X:=X) P g C σ k:=λX Y k f=>by
 unfold CD
 refine(Qe _ _ _ _ _).trans (aZ _ (funext λps=>?_))
 split<;>rfl
def atu(C:fX P Φ){code:Code}{D:Array ResultVar}{xs:aa A}:E2 λX k=>JA (X:=X) P M g Φ code D N σ xs k:=λX Y k f=>by
 unfold JA
 refine dz ((afN C _ _ _ _ _ _).trans (aZ _ (funext λe=>funext λE=>?_))) rfl
 split
 ·exact afO _ _ _ _
 ·exact afO _ _ _ _
 ·rfl
def atv{D:Array ResultVar}{E:S}{y:A}(h:CD P g D σ (λσ y=>some (σ,y))=some (E,y)):∃ ys ps,σ.m g=some (.gh ys)/\sA P σ D.toList some=some ps/\⟨λj=>((ys.map (A.drop g))[j]?).getD .undef,(σ.drop g).m⟩=E/\CC g ps=y:=by
 unfold CD at h;obtain⟨ps,C,L⟩:=(Qe _).nK h;split at C
 next ys O=>injection C with C;injection C with T U;exact⟨ys,ps,O,L.at_ _,T,U⟩
 ·cases C
def List.afP(xs:aa A)(g j:Nat):((xs.map (A.drop g))[j]?).getD .undef=A.drop g ((xs[j]?).getD .undef):=by
 rw[eR];cases xs[j]?<;>rfl
def RP.CC{ps:aa (Bool×aa Lf)}{C:aa Value}(L:∀ r,r≠g->ρ' r=ρ r)(hl:C.length=ps.length)(h:∀ (i:Nat) p v,ps[i]?=some p->C[i]?=some v->RP w B aj ρ p v):
  RA w B aj ρ' (CC g ps) (if h:C.toArray.size=1 then C.toArray[0]else .tuple C.toArray):=by
 have fk:ps.length≠1->RA w B aj ρ' (.fk (ps.map λp=>(p.1,p.2.map (Lf.drop g)))) (if h:C.toArray.size=1 then C.toArray[0]else .tuple C.toArray):=by
  intro T;rw[dif_neg (by simpa [hl]using T)]
  refine⟨C.toArray,rfl,by simpa using hl,λj p D=>?_⟩
  rw[eR]at D;cases E:ps[j]? with
  |none=>rw[E]at D;cases D
  | some q=>
   rw[E]at D;injection D with D;subst D;have O:j<C.length:=by rw[hl];exact(dV.1 E).1
   exact⟨C[j],by simp[O],(h j q C[j] E (bZ O)).fl L⟩
 unfold Proofs.YtnilicojgkhpnaaGreat.CC;split
 ·rename_i x
  match C,hl,h with
  | [v],_,h=>
   have:=h 0 _ v rfl rfl;obtain⟨u,U,Y⟩:=this.2 0 x rfl;have:v=u:=by simpa using U
   subst this;exact Y.fl L
 ·rename_i cs
  match C,hl,h with
  |[v],_,h=>exact RP.fl L (p:=(true,cs)) (h 0 _ v rfl rfl)
 ·trivial
 ·rename_i h1 Z h3
  refine fk λe=>?_
  obtain⟨⟨b,cs⟩,rfl⟩:=List.length_eq_one_iff.1 e;cases b with
  |true=>exact Z cs rfl
  |false=>exact h3 cs rfl
def atw{f:Nat}{fn:Func}{code:Code}(hf:P.funcs[f]?=some fn)(hb:fn.body=some code)(hN:fn.ntmps=M)(hM:M<=20000)(Jy:(fn.name == "runtime.NumGoroutine")=false)(hg:20000<=g/\g<60000)(eE:fX P Φ):
  enters P f/\jR P f (afM P M g Φ code fn.results):=by
 refine⟨⟨fn,hf,Jy,by rw[hb];rfl⟩,λN σ xs=>atu eE,λN σ xs τ0 y0 h w0 aj ρ a w cc hR iL hv=>?_⟩
 have h:JA P M g Φ code fn.results N σ xs _=_:=h;unfold JA at h;cases hl:Nat.ble xs.length M with
 |false=>rw[hl]at h;cases h
 | true=>
  rw[hl,au]at h;have BW:=cZ hl;obtain⟨e,τ,h1,h2⟩:=(afN eE _ _).nK h;have h3:(e = .normal\/e = .ret)/\CD P g fn.results τ (λσ y=>some (σ,y))=some (τ0,y0):=by
   split at h1
   next U=>exact⟨.inl (vX U),h1⟩
   next U=>exact⟨.inr (vX U),h1⟩
   ·cases h1
  obtain⟨hex,h3⟩:=h3;obtain⟨ys,ps,hy,ri,rfl,rfl⟩:=atv h3;let us:=a.tmps.toList
  let W:Wd:=w0.pin g (some (.cc us)) hg.1
  let Y:=cg ρ g (.cc us)
  have cF:∀r,r≠g->Y r=ρ r:=λr hr=>cR _ _ _ hr
  have kQ:∀ j,us.getD j undef=a.tmps.getD j undef:=λj=>by
   show a.tmps.toList.getD j undef=_;rw[fz,Array.getElem?_toList,iM]
  have hle:cc.size<=M:=by rw[iL];exact BW
  have vR:Rl W M aj Y (afL g N σ xs) { tmps:=cc++Array.replicate (fn.ntmps-cc.size) undef,defers:=[] } w:=by
   refine⟨⟨hR.below.os,hR.below.tape,hR.below.output,hR.below.size,hR.below.block⟩,hR.dw,λr x C=>?_,λj=>?_,by simp[hN];omega,rfl,λr l hr=>?_,λr hr=>?_⟩
   ·have C:cg (σ.drop g).m g (some (.gh ((List.range N).map λj=>(σ.t j).drop g))) r=some x:=C;by_cases D:r=g
    ·subst D;rw[cv]at C;injection C with C;subst C
     refine .gh us _ (cv _ _ _) λj x L=>?_
     rw[eR]at L;cases hr:(List.range N)[j]? with
     |none=>rw[hr]at L;cases L
     | some j'=>
      rw[hr]at L;injection L with L;obtain⟨dI,qW⟩:=dV.1 hr;rw[iY]at qW;subst qW L;rw[kQ];exact(hR.tmp j).fl cF
    ·rw[cR _ _ _ D]at C;have C:(bif Nat.beq r g then none else (σ.m r).map (bh.drop g))=some x:=C;cases hb:Nat.beq r g with
     |true=>rw[hb]at C;cases C
     | false=>
      rw[hb,aq]at C;cases hm:σ.m r with
      |none=>rw[hm]at C;cases C
      | some y=>
       rw[hm]at C;injection C with C;subst C;exact(hR.root r y hm).fl cF D
   ·show RA w w0.heap.size aj Y (((xs.map (A.drop g))[j]?).getD .undef) _;rw[List.afP];by_cases L:j<cc.size
    ·have e1:(cc++Array.replicate (fn.ntmps-cc.size) undef).getD j undef=cc.getD j undef:=by
      rw[iM,Array.getElem?_append_left L,iM]
     show RA w w0.heap.size aj Y _ ((cc++Array.replicate (fn.ntmps-cc.size) undef).getD j undef);rw[e1];exact(hv j).fl cF
    ·rw[List.getElem?_eq_none (by omega:xs.length<=j)];trivial
   ·have hr:(if r=g then some (Loc.cc us)else w0.F r)=some l:=hr;by_cases D:r=g
    ·rw[bI D]at hr;injection hr with hr;rw[D,<-hr];exact cv _ _ _
    ·rw[bU D]at hr;rw[cF r D];exact hR.fix r l hr
   ·show (if r=g then some (Loc.cc us)else w0.F r)=none;rw[bU];rcases hr with hr | hr
    ·exact w0.low r (by omega)
    ·exact hR.dH r (.inr hr)
  refine calls_of_wp hf hb ?_
  refine wp_mono (Js (w0:=W) eE code _ (λe τ=>some (e,τ)) (h2 _ _) (λp hp b hb=>by cases hb) _ w ⟨aj,Y,vR⟩) λe' O w' U=>?_
  obtain⟨dn,pF,aD,ρ',E⟩:=U;injection pF with pF;injection pF with k1 k2;subst k1 k2;have IS:ρ' g = .cc us:=E.fix g _ (bI rfl);let fm:=cg ρ' g ((w0.F g).getD (.aB 0 0))
  have EU:∀r,r≠g->fm r=ρ' r:=λr hr=>cR _ _ _ hr
  obtain⟨xx,YV,ki⟩:=ID (w0:=W) (N:=M) _ _ ri;injection YV with YV;subst YV;obtain⟨Z,dP,hlen,kj⟩:=ki aD ρ' O w' E;have atx:(fn.results.mapM (tL O.tmps)).run P w' = .ok Z.toArray w':=by
   rw[Array.mapM_eq_mapM_toList];simp[dP]
  have mg:results fn O.tmps=(do let Z <-fn.results.mapM (tL O.tmps);pure (if h:Z.size=1 then Z[0]else .tuple Z)):=by
   unfold results;congr 1
  have hRf:Rl w0 N aD fm ⟨λj=>((ys.map (A.drop g))[j]?).getD .undef,(dn.drop g).m⟩ a w':=by
   refine⟨⟨E.below.os,E.below.tape,E.below.output,E.below.size,E.below.block⟩,E.dw,λr x C=>?_,λj=>?_,hR.size,hR.defers,λr l hr=>?_,hR.dH⟩
   ·have C:(bif Nat.beq r g then none else (dn.m r).map (bh.drop g))=some x:=C;cases hb:Nat.beq r g with
    |true=>rw[hb]at C;cases C
    | false=>
     have D:r≠g:=by rintro rfl;simp at hb
     rw[hb,aq]at C;cases hm:dn.m r with
     |none=>rw[hm]at C;cases C
     | some y=>
      rw[hm]at C;injection C with C;subst C;exact(E.root r y hm).fl EU D
   ·show RA w' w0.heap.size aD fm (((ys.map (A.drop g))[j]?).getD .undef) _;rw[List.afP];cases hyj:ys[j]? with
    |none=>trivial
    | some y=>
     have eY:=E.root g _ hy;generalize T:bh.gh ys=z at eY;cases eY with
     |aB=>cases T
     |sl=>cases T
     |mp=>cases T
     | gh OG xs' xF hx3=>
      injection T with T;subst T;rw[IS]at xF;injection xF with xF;subst xF;have:=hx3 j y hyj;rw[kQ]at this;exact this.fl EU
   ·by_cases D:r=g
    ·subst D;show cg ρ' r ((w0.F r).getD (.aB 0 0)) r=l;rw[cv,hr];rfl
    ·rw[EU r D];exact E.fix r l ((bU D).trans hr)
  have fin:O.defers=[]/\∃ v,(results fn O.tmps).run P w' = .ok v w'/\∃ Ag aD ρ',Ending.returned v=Ending.returned Ag/\Rl w0 N aD ρ' ⟨λj=>((ys.map (A.drop g))[j]?).getD .undef,(dn.drop g).m⟩ a w'/\RA w' w0.heap.size aD ρ' (CC g xx) Ag:=
   ⟨E.defers,_,by rw[mg,gq,atx,mH,Sem.run_pure],_,aD,fm,rfl,hRf,RP.CC EU hlen kj⟩
  rcases hex with rfl|rfl
  ·exact fin
  ·exact fin
end
def ud:Nat:=1000000000
def stays(n:Nat):Bool:=Nat.ble 20000 (n % ud)
def aty:60000<=ud:=cZ rfl
def qx(n:Nat):Nat:=bif stays n then n else n+ud
def Ai(n:Nat):ah Nat:=bif stays n then some n else bif Nat.ble ud n && !stays (n-ud)then some (n-ud)else none
def lM:aa Nat->aa Nat
 |[]=>[]
 |[r]=>[qx r]
 |x::y::k=>x::lM (y::k)
def Lf.up:Lf->Lf
 |.v x=>.v x
 |.own k=>.own (lM k)
 |.dead=>.dead
def A.up:A->A
 |.undef=>.undef
 |.skip=>.skip
 |.lf x=>.lf x.up
 |.agg cs=>.agg (cs.map Lf.up)
 |.fk xs=>.fk (xs.map λp=>(p.1,p.2.map Lf.up))
 |.ptr k=>.ptr (lM k)
 |.aH r j=>.aH (qx r) j
 |.jr cs=>.jr cs
 |.nH f cs=>.nH f cs
 |.pk r n=>.pk (qx r) n
 |.view k s i j=>.view (lM k) s i j
 |.fn f cap=>.fn f (cap.map λp=>(qx p.1,p.2))
def bh.up:bh->bh
 |.aB cs=>.aB (cs.map Lf.up)
 |.sl y=>.sl y
 |.mp l=>.mp l
 |.gh xs=>.gh (xs.map A.up)
def S.up(σ:S):S:=⟨λk=>(σ.t k).up,λn=>match Ai n with
 |some r=>(σ.m r).map bh.up
 |none=>none⟩
def upI(c:tV):tV:=⟨λX N σ xs k=>c.run X N σ.up (xs.map A.up) λC y=>k C.up y.up⟩
section
variable {P:Program} {w w':World} {w0:Wd} {B N:Nat} {aj aD:bK} {ρ ρ':Nat->Loc} {σ:S} {a:Act} {X:Type}
def atz(r:Nat):Ai (qx r)=some r:=by
 unfold Ai qx;cases h:stays r with
 |true=>simp_all
 | false=>
  have C:stays (r+ud)=false:=by
   unfold stays at h ⊢;simp_all
  have D:Nat.ble ud (r+ud)=true:=jn (Nat.le_add_left _ _);simp[*]
def atA{n r:Nat}(h:Ai n=some r):n=qx r:=by
 unfold Ai at h;cases D:stays n with
 | true=>
  rw[D]at h;injection h with h;subst h;simp[qx,D]
 | false=>
  rw[D,aq]at h;cases C:(Nat.ble ud n && !stays (n-ud))with
  |false=>simp_all
  | true=>
   rw[C]at h;have h:=Option.some.inj h;rw[aU]at C;have L:=cZ C.1;have E:stays r=false:=by rw[<- h];simpa using C.2
   simp[qx,E,aq];omega
def mU(aj:bK):bK:=λb=>(aj b).map lM
def vZ(ρ:Nat->Loc):Nat->Loc:=λn=>match Ai n with
 |some r=>ρ r
 |none=>ρ n
def CE(r:Nat):vZ ρ (qx r)=ρ r:=by unfold vZ;rw[atz]
def atB{k:aa Nat}(h:k≠[]):lM k≠[]:=by
 match k with
 |[r]=>simp[lM]
 |x::y::k=>simp[lM]
def Fj{x:Nat}{k:aa Nat}(h:k≠[]):lM (x :: k)=x :: lM k:=by
 match k with
 |[]=>exact absurd rfl h
 |y::k=>rfl
def afQ(x y:Nat)(k:aa Nat):∃ C D,lM (x :: y :: k)=x :: C :: D:=by
 match k with
 |[]=>exact⟨_,_,rfl⟩
 |z::k=>exact⟨y,_,rfl⟩
def YW:∀ (k:aa Nat) (ad:Addr),addrAt w aj ρ k=some ad -> addrAt w (mU aj) (vZ ρ) (lM k)=some ad
 |[],_,h=>by simp[addrAt]at h
 | [j,i,s,r],ad,h=>by
  simp only[addrAt]at h;simp only[lM,addrAt,CE];split at h
  ·rename_i b n c C;split at h
   next hl=>rw[bI (by simp[mU,hl,lM])];exact h
   ·cases h
  ·cases h
 | j :: i :: s :: x :: y :: q,ad,h=>by
  simp only[addrAt]at h;split at h
  ·rename_i b n c C;split at h
   ·rename_i hl;cases D:addrAt w aj ρ (x :: y :: q)with
    |none=>simp_all
    | some L=>
     have E:=YW (x::y::q) L D;have e:mU aj b=some (lM (x::y::q)):=by simp[mU,hl]
     rw[Fj (by simp),Fj (by simp),Fj (by simp)];rw[D]at C;obtain⟨T,U,O⟩:=afQ x y q;rw[O]at E e ⊢;simp only[addrAt,E,C,e,if_true];exact h
   ·cases h
  ·cases h
def afR{k:aa Nat}{u:Value}(h:di w aj ρ k=some u):di w (mU aj) (vZ ρ) (lM k)=some u:=by
 match k with
 | [r]=>
  simp[lM,di,CE];exact h
 | x :: y :: k=>
  simp[di]at h;cases C:addrAt w aj ρ _ with
  |none=>rw[C]at h;cases h
  | some ad=>
   have:=YW _ _ C;obtain⟨E,L,D⟩:=afQ x y k;rw[D]at this ⊢;simp[di,this];simp_all
def YX{b:Nat}(h:aj b=none):mU aj b=none:=by simp[mU,h]
def RV.up(D:∀ b k,aj b=some k->k≠[]){k:aa Nat}{x:V}{v:Value}(h:RV w B aj k x v):RV w B (mU aj) (lM k) x v:=
 h.map (Q:=λk C=>C=lM k) (dQ _) (λb _ h=>⟨rfl,YX h⟩) (λb k C _ hl e=>by
  subst e;exact⟨rfl,by simp[mU,hl],λj i s=>by rw[Fj (by simp),Fj (by simp),Fj (D b k hl)]⟩) (.inr rfl)
def dZ.up(C:∀ b k,aj b=some k->k≠[]){x:Lf}{u:Value}(h:dZ w B aj ρ x u):dZ w B (mU aj) (vZ ρ) x.up u:=by
 cases x with
 |v x=>exact⟨h.1,RV.up C h.2⟩
 |own k=>exact⟨h.1,afR h.2⟩
 |dead=>trivial
def eO.up(E:∀ b k,aj b=some k -> k≠[]){cs:aa Lf}{us:Array Value}(h:eO w B aj ρ cs us):eO w B (mU aj) (vZ ρ) (cs.map Lf.up) us:=by
 refine⟨by rw[eS];exact h.1,λj x C=>?_⟩
 rw[eR]at C;cases D:cs[j]? with
 |none=>simp_all
 | some z=>
  rw[D]at C;injection C with C;subst C;obtain⟨u,L,O⟩:=h.2 j z D;exact⟨u,L,O.up E⟩
def RP.up(C:∀ b k,aj b=some k->k≠[]){p:Bool×aa Lf}{u:Value}(h:RP w B aj ρ p u):RP w B (mU aj) (vZ ρ) (p.1,p.2.map Lf.up) u:=by
 obtain⟨b,cs⟩:=p;cases b with
 | true=>
  obtain⟨us,rfl,h⟩:=h;exact⟨us,rfl,eO.up C h⟩
 |false=>exact eO.up C h
def RA.up(L:∀ b k,aj b=some k -> k≠[]){x:A}{u:Value}(h:RA w B aj ρ x u):RA w B (mU aj) (vZ ρ) x.up u:=by
 cases x with
 |undef=>trivial
 |skip=>exact h
 |lf x=>exact dZ.up L h
 |agg cs=>exact RP.up L (p:=(true,cs)) h
 | fk xs=>
  obtain⟨us,rfl,D,E⟩:=h
  refine⟨us,rfl,by rw[eS];exact D,λj p C=>?_⟩
  rw[eR]at C;cases O:xs[j]? with
  |none=>simp_all
  | some z=>
   rw[O]at C;injection C with C;subst C;obtain⟨v,T,U⟩:=E j z O;exact⟨v,T,U.up L⟩
 | ptr k=>
  obtain⟨ad,rfl,h⟩:=h;exact⟨ad,rfl,YW _ _ h⟩
 | aH r j=>
  obtain⟨b,off,D,E⟩:=h;exact⟨b,off,(CE r).trans D,E⟩
 | jr cs=>
  obtain⟨b,off,Y,Z,g3,g4⟩:=h
  refine⟨b,off,Y,Z,YX g3,λj x hx=>?_⟩
  obtain⟨f1,v,f2,f3⟩:=g4 j x hx;exact⟨f1,v,f2,RV.up L f3⟩
 | nH f cs=>
  obtain⟨pv,e0,h⟩:=h;refine⟨pv,e0,?_⟩;obtain⟨b,off,Y,Z,g3,g4⟩:=h
  refine⟨b,off,Y,Z,YX g3,λj x hx=>?_⟩
  obtain⟨f1,v,f2,f3⟩:=g4 j x hx;exact⟨f1,v,f2,RV.up L f3⟩
 | pk r n=>
  obtain⟨b,D,E⟩:=h;exact⟨b,(CE r).trans D,E⟩
 | view k s i j=>
  obtain⟨A,n,c,D,E⟩:=h;exact⟨A,n,c,afR D,E⟩
 | fn f cap=>
  obtain⟨vs,rfl,D,E⟩:=h
  refine⟨vs,rfl,by rw[eS];exact D,λj p C=>?_⟩
  rw[eR]at C;cases O:cap[j]? with
  |none=>simp_all
  | some z=>
   rw[O]at C;injection C with C;subst C;obtain⟨b,off,T,U⟩:=E j z O;exact⟨b,off,(CE _).trans T,U⟩
def ez.up(U:∀ b k,aj b=some k -> k≠[]){r:Nat}{x:bh}(h:ez w B aj ρ r x):ez w B (mU aj) (vZ ρ) (qx r) x.up:=by
 have T:=CE (ρ:=ρ) r;have hl:∀{b},aj b=some [r] -> mU aj b=some [qx r]:=λh=>by simp[mU,h,lM]
 cases h with
 | aB b off cells e cs us C L Y hs Z=>
  refine .aB b off cells e _ us (T.trans C) (hl L) Y (by rw[eS];exact hs) λj x D=>?_
  rw[eR]at D;cases E:cs[j]? with
  |none=>simp_all
  | some z=>
   rw[E]at D;injection D with D;subst D;exact⟨(Z j z E).1,(Z j z E).2.up U⟩
 |sl v y C L=>exact .sl v y (T.trans C) (RV.up U L)
 |mp b c es l C L Y he=>exact .mp b c es l (T.trans C) (hl L) Y he
 | gh us xs C D=>
  refine .gh us _ (T.trans C) λj x O=>?_
  rw[eR]at O;cases E:xs[j]? with
  |none=>simp_all
  | some z=>
   rw[E]at O;injection O with O;subst O;exact RA.up U (D j z E)
def Rl.up(h:Rl w0 N aj ρ σ a w):Rl w0 N (mU aj) (vZ ρ) σ.up a w:=by
 have T:=λb k D=>(h.dw b k D).2.2
 refine⟨h.below,λb k D=>?_,λn x C=>?_,λk=>RA.up T (h.tmp k),h.size,h.defers,λr l E=>?_,h.dH⟩
 ·unfold mU at D;cases hl:aj b with
  |none=>simp_all
  | some q=>
   rw[hl]at D;injection D with D;obtain⟨L,O,Y⟩:=h.dw b q hl;exact⟨L,O,by rw[<- D];exact atB Y⟩
 ·have C:(match Ai n with | some r=>(σ.m r).map _ | none=>none)=some x:=C;cases U:Ai n with
  |none=>simp_all
  | some r=>
   rw[U]at C;have C:(σ.m r).map _=some x:=C;cases hm:σ.m r with
   |none=>simp_all
   | some y=>
    rw[hm]at C;injection C with C;subst C;rw[atA U];exact(h.root r y hm).up T
 ·have Z:stays r=true:=by
   have L:20000 <= r:=Nat.le_of_not_lt λdI=>by rw[w0.low r dI]at E;cases E
   have O:r<60000:=Nat.lt_of_not_le λhle=>by rw[h.dH r (.inr hle)]at E;cases E
   unfold stays;rw[Nat.mod_eq_of_lt (Nat.lt_of_lt_of_le O aty)];exact jn L
  have hu:qx r=r:=by simp[qx,Z]
  have:=CE (ρ:=ρ) r;rw[hu]at this;rw[this];exact h.fix r l E
def atC{f:Nat}{c:tV}(h:jR P f c):jR P f (upI c):=by
 refine⟨λN σ xs X Y k g=>h.1 N σ.up (xs.map A.up) X Y _ g,λN σ xs τ z L w0 aj ρ a w cc hR O T=>?_⟩
 obtain⟨U,y,C,Z⟩:=(h.1 N σ.up (xs.map A.up)).nK L;injection C with C;injection C with h4 h5;subst h4 h5;have h3:=h.2 N σ.up (xs.map A.up) U y (Z _ _);have dy:∀b k,aj b=some k->k≠[]:=λb k D=>(hR.dw b k D).2.2
 refine(h3 w0 _ _ a w cc hR.up (by rw[eS];exact O) λi=>?_).mono λe w' hp=>?_
 ·rw[eR];have:=T i;cases hx:xs[i]? with
  |none=>trivial
  | some x=>
   rw[hx]at this;exact RA.up dy this
 ·obtain⟨v,aD,ρ',he,E,hy⟩:=hp;exact⟨v,_,_,he,E.up,RA.up (λb k D=>(E.dw b k D).2.2) hy⟩
end
def aX:Nat:=4611686018427387904
def rD(c:Code)(id:Nat):Code:=match (occs c).lookup id with
 |some (.loop b)=>b
 |_=>.skip
def aW(fn:Func):Code:=fn.body.getD .skip
def mV(l:aa (Nat×qp)):eK:=λf=>l.lookup f
def CF(P:Program):aa (Nat×qp)->Prop
 |[]=>True
 |(f,c)::l=>(enters P f/\Xx P f c)/\CF P l
def v5{P:Program}:∀ (l:aa (Nat×qp)),CF P l -> fX P (mV l)
 |[],_=>λf c h=>by cases h
 | (E,L) :: l,⟨O,D⟩=>λf c h=>by
  have C:List.lookup f _=some c:=h;rw[List.lookup_cons]at C;split at C
  ·simp_all
  ·exact v5 l D f c C
def kA(l:aa (Nat×sI)):nR:=λid=>l.lookup id
def YY(P:Program)(N:Nat)(code:Code):aa (Nat×sI)->Prop
 |[]=>True
 |(id,b)::l=>(∃c,(occs code).lookup id=some c/\Cq P N (.block id c) b)/\YY P N code l
def ids(l:aa (Nat×Code)):Bool:=(l.map (·.1)).all λi=>Nat.beq ((l.filter λp=>Nat.beq p.1 i).length) 1
def afS:∀ (l:aa (Nat×Code)) (p:Nat×Code),(∀ q∈l,q.1=p.1 -> q=p) -> p∈l -> l.lookup p.1=some p.2
 |[],p,_,h=>by cases h
 | q :: l,p,C,h=>by
  rw[List.lookup_cons];by_cases D:p.1=q.1
  ·simp_all
  ·have hb:(p.1==q.1)=false:=by simpa using D
   rw[hb];rcases iw.1 h with rfl|h
   ·simp_all
   ·exact afS l p (λq E=>C q (.tail _ E)) h
def atD{l:aa (Nat×Code)}(h:ids l=true){p q:Nat×Code}(D:p∈l)(E:q∈l)(L:q.1=p.1):q=p:=by
 have C:=cx.1 h p.1 (List.mem_map_of_mem D);have C:=cK C;have O:p∈l.filter λr=>Nat.beq r.1 p.1:=List.mem_filter.2 ⟨D,by simp⟩
 have T:q∈l.filter λr=>Nat.beq r.1 p.1:=List.mem_filter.2 ⟨E,by simp[L]⟩
 obtain⟨z,U⟩:=List.length_eq_one_iff.1 C
 grind
def afT{P:Program}{N:Nat}{code:Code}(hi:ids (occs code)=true):∀ (l:aa (Nat×sI)),YY P N code l -> qq P N (kA l) (occs code)
 |[],_=>λp D b h=>by cases h
 | (id,T) :: l,⟨⟨c,U,Y⟩,L⟩=>λp D b h=>by
  have C:List.lookup p.1 _=some b:=h;rw[List.lookup_cons]at C;split at C
  ·rename_i E;have E:p.1=id:=by simpa using E
   injection C with C;subst C;have:=afS _ p (λq O e=>atD hi D O e) D;simp_all
  ·exact afT hi l L p D b C
def rE{P:Program}{N:Nat}{l:aa (Nat×Code)}:qq P N (kA []) l:=λp C b h=>by cases h
def ci(P:Program)(fn:Func)(C:Nat)(l:aa (Nat×qp)):tV:=afM P fn.ntmps (59000+C) (mV l) (aW fn) fn.results
def pP{P:Program}{f:Nat}{fn:Func}(C:Nat)(l:aa (Nat×qp))(D:P.funcs[f]?=some fn)(hl:CF P l)(hb:fn.body=some (aW fn):=by kernel_rfl)(E:Nat.ble fn.ntmps 20000=true:=by kernel_rfl)(L:Nat.ble C 900=true:=by kernel_rfl)(O:(fn.name == "runtime.NumGoroutine")=false:=by kernel_rfl):enters P f/\jR P f (ci P fn C l):=
 atw D hb rfl (cZ E) O ⟨by omega,by have:=cZ L;omega⟩ (v5 l hl)
def cj(P:Program)(fn:Func)(C:Nat)(l:aa (Nat×qp)):tV:=upI (ci P fn C l)
def qy{P:Program}{f:Nat}{fn:Func}{C:Nat}{l:aa (Nat×qp)}(h:enters P f/\jR P f (ci P fn C l)):enters P f/\jR P f (cj P fn C l):=⟨h.1,atC h.2⟩
def Qf{P:Program}{f:Nat}{fn:Func}{ai:aa (Bool×TC)}{ro:aa (Bool×TC×Nat)}{F:kT ai->ah (iT ro)}(N:Nat)(l:aa (Nat×qp))(b:aa (Nat×sI))(C:P.funcs[f]?=some fn)(hl:CF P l)(D:qq P N (kA b) (occs (aW fn)))(E:∀x,qw P N (mV l) (kA b) (aW fn) fn.results (gB ai x) (mh ro)=F x)(hb:fn.body=some (aW fn):=by kernel_rfl)(L:fn.ntmps=N:=by kernel_rfl)(O:(fn.name == "runtime.NumGoroutine")=false:=by kernel_rfl)(T:Nat.ble ai.length N=true:=by kernel_rfl)(U:mq ro=true:=by kernel_rfl):enters P f/\iH P f (gQ ai ro F):=atj C hb L O T U (v5 l hl) D E
def CG{P:Program}{f:Nat}{fn:Func}{t:TC}{g:Nat}{F:aa (T t)->ah (aa (T t))}(N:Nat)(l:aa (Nat×qp))(b:aa (Nat×sI))(C:P.funcs[f]?=some fn)(hl:CF P l)(D:qq P N (kA b) (occs (aW fn)))(E:∀ x:aa (T t),qw P N (mV l) (kA b) (aW fn) fn.results [(false,[.sl t 0 false x])] (mh [(false,.sl t,g)])=F x)
  (L:qw P N (mV l) (kA b) (aW fn) fn.results [(false,[.nil])] (mh [(false,.sl t,g)])=some ([]:aa (T t)):=by kernel_rfl) (O:qw P N (mV l) (kA b) (aW fn) fn.results [(false,[.sl t 0 true []])] (mh [(false,.sl t,g)])=some ([]:aa (T t)):=by kernel_rfl)
  (hb:fn.body=some (aW fn):=by kernel_rfl) (U:fn.ntmps=N:=by kernel_rfl) (Y:(fn.name == "runtime.NumGoroutine")=false:=by kernel_rfl) (Z:Nat.ble 1 N=true:=by kernel_rfl) (eY:mq [(false,.sl t,g)]=true:=by kernel_rfl):enters P f/\iH P f (gQ [(false,.sl t)] [(false,.sl t,g)] λx=>bif jN x.1 then some ([]:aa (T t))else F x.1):=atk C hb U Y Z eY (v5 l hl) D E L O
def ju{α β:Type}(a:α)(f:α->β):β:=f a
def afU{P:Program}{id:Nat}{body:Code}{C:bL}{D:aa (Nat×bL)}{F:C.St->ah (C.St⊕ua D)}{fuel:C.St->Nat}(N:Nat)(l:aa (Nat×qp))(b:aa (Nat×sI))(hl:CF P l)(E:qq P N (kA b) (occs body))(L:∀x,Fg P N (mV l) (kA b) body C D x=F x):Cq P N (.block id (.loop body)) (P8 id C D F fuel):=atf (v5 l hl) E L
abbrev W6 (x:Int):Int:=IntKind.i64.wrap x
/-! Words for what printed functions say often. -/
def xI{α β:Type}(l:aa α)(i:Int)(k:α->ah β):ah β:=if h:0<=i/\i.toNat<l.length then (let e:=l[i.toNat]'h.2;k e)else none
def xC{α β:Type}(l:aa α)(i:Int)(k:ah β):ah β:=if h:0<=i/\i.toNat<l.length then k else none
def xM{α β:Type}(l:aa α)(i:Int)(k:α->ah β):ah β:=if h:i.toNat<l.length then (let e:=l[i.toNat]'h;k e)else none
def xL{α β:Type}(l:aa α)(i:Int)(k:α->ah β):ah β:=if h:0<=i/\i.toNat<l.length then (if h:i.toNat<l.length then (let e:=l[i.toNat]'h;k e)else none)else none
def xZ{α:Type}(l:aa α):Bool:=bM (([]:aa α).length+l.length)
def xA{α:Type}(l:aa α):aa α:=([]:aa α)++l
def bk{S A C:Type}(L:S->ah (S⊕(A⊕Empty)))(s:S)(f:A->ah C):ah C:=(iter L aX s).bind (Sum.elim f (λz=>nomatch z))
def bE{S A B C:Type}(L:S->ah (S⊕(A⊕(B⊕Empty))))(s:S)(f:A->ah C)(g:B->ah C):ah C:=(iter L aX s).bind (Sum.elim f (Sum.elim g (λz=>nomatch z)))
def xG{S E:Type}(s:S):ah (S⊕E):=some (.inl s)
def av{S A E:Type}(v:A):ah (S⊕(A⊕E)):=some (.inr (.inl v))
def aQ{S A B E:Type}(v:B):ah (S⊕(A⊕(B⊕E))):=some (.inr (.inr (.inl v)))
abbrev tI:Tm:=.lf (.int .i64)
abbrev tB:Tm:=.lf (.bool)
structure KC (P:Program) where
 f:Nat
 c:qp
 ok:enters P f/\Xx P f c
def KL{P:Program}(l:aa (KC P)):aa (Nat×qp):=l.map λk=>(k.f,k.c)
def ue{P:Program}:∀ l:aa (KC P),CF P (KL l)
 |[]=>trivial
 |k::l=>⟨k.ok,ue l⟩
structure BK (P:Program) (N:Nat) (code:Code) where
 id:Nat
 b:sI
 ok:Cq P N (.block id (.loop (rD code id))) b
section
variable {P:Program} {f N:Nat} {fn:Func} {code:Code}
def BL(l:aa (BK P N code)):aa (Nat×sI):=l.map λk=>(k.id,k.b)
def BC(l:aa (BK P N code)):aa (ah Code):=l.map λk=>(occs code).lookup k.id
def BD(l:aa (BK P N code)):aa (ah Code):=l.map λk=>some (.loop (rD code k.id))
def afV:∀ l:aa (BK P N code),BC l=BD l -> YY P N code (BL l)
 |[],_=>trivial
 | k :: l,h=>by
  unfold BC BD at h;injection h with C D;exact⟨⟨_,C,k.ok⟩,afV l D⟩
def BT(l:aa (BK P N code))(C:BC l=BD l)(hi:ids (occs code)=true):qq P N (kA (BL l)) (occs code):=afT hi _ (afV l C)
def lB(id:Nat)(C:bL)(D:aa (Nat×bL))(F:C.St->ah (C.St⊕ua D)):sI:=P8 id C D F λ_=>aX
def lp{body:Code}{id:Nat}{C:bL}{D:aa (Nat×bL)}{F:C.St->ah (C.St⊕ua D)}(l:aa (KC P))(E:∀x,Fg P N (mV (KL l)) (kA []) body C D x=F x:=by intro x;kernel_rfl):Cq P N (.block id (.loop body)) (lB id C D F):=afU N (KL l) [] (ue l) rE E
def lq{id:Nat}{C:bL}{D:aa (Nat×bL)}{F:C.St->ah (C.St⊕ua D)}(l:aa (KC P))(b:aa (BK P N code))(E:BC b=BD b:=by kernel_rfl)(hi:ids (occs code)=true:=by kernel_rfl)(L:∀x,Fg P N (mV (KL l)) (kA (BL b)) code C D x=F x:=by intro x;kernel_rfl):Cq P N (.block id (.loop code)) (lB id C D F):=afU N (KL l) (BL b) (ue l) (BT b E hi) L
def kp{ai:aa (Bool×TC)}{ro:aa (Bool×TC×Nat)}{F:kT ai->ah (iT ro)}(N:Nat)(l:aa (KC P))(C:P.funcs[f]?=some fn)(D:∀x,qw P N (mV (KL l)) (kA []) (aW fn) fn.results (gB ai x) (mh ro)=F x:=by intro x;kernel_rfl)(hb:fn.body=some (aW fn):=by kernel_rfl)(E:fn.ntmps=N:=by kernel_rfl)(L:(fn.name == "runtime.NumGoroutine")=false:=by kernel_rfl)(O:Nat.ble ai.length N=true:=by kernel_rfl)(T:mq ro=true:=by kernel_rfl):enters P f/\iH P f (gQ ai ro F):=Qf N (KL l) [] C (ue l) rE D hb E L O T
def kq{ai:aa (Bool×TC)}{ro:aa (Bool×TC×Nat)}{F:kT ai->ah (iT ro)}(N:Nat)(l:aa (KC P))(b:aa (BK P N (aW fn)))(C:P.funcs[f]?=some fn)(D:BC b=BD b:=by kernel_rfl)(hi:ids (occs (aW fn))=true:=by kernel_rfl)(E:∀x,qw P N (mV (KL l)) (kA (BL b)) (aW fn) fn.results (gB ai x) (mh ro)=F x:=by intro x;kernel_rfl)(hb:fn.body=some (aW fn):=by kernel_rfl)(L:fn.ntmps=N:=by kernel_rfl)(O:(fn.name == "runtime.NumGoroutine")=false:=by kernel_rfl)(T:Nat.ble ai.length N=true:=by kernel_rfl)(U:mq ro=true:=by kernel_rfl):enters P f/\iH P f (gQ ai ro F):=Qf N (KL l) (BL b) C (ue l) (BT b D hi) E hb L O T U
def km{ps:aa PK}{ro:aa (Bool×TC×Nat)}{F:mM ps->ah (iT ro×sB (fC ps))}(N:Nat)(l:aa (KC P))(C:P.funcs[f]?=some fn)(D:∀x,CB P N (mV (KL l)) (kA []) (aW fn) fn.results (nN ps x) (kr ps 0 x) (Fh (fC ps) ro)=F x:=by intro x;kernel_rfl)(hb:fn.body=some (aW fn):=by kernel_rfl)(E:fn.ntmps=N:=by kernel_rfl)(L:(fn.name == "runtime.NumGoroutine")=false:=by kernel_rfl)(O:Nat.ble ps.length N=true:=by kernel_rfl)(T:Nat.ble N 20000=true:=by kernel_rfl)(U:mq ro=true:=by kernel_rfl):enters P f/\tO P f ⟨ps,ro,F⟩:=Qc C hb E L O T U (v5 _ (ue l)) rE D
def kn{ps:aa PK}{ro:aa (Bool×TC×Nat)}{F:mM ps->ah (iT ro×sB (fC ps))}(N:Nat)(l:aa (KC P))(b:aa (BK P N (aW fn)))(C:P.funcs[f]?=some fn)(D:BC b=BD b:=by kernel_rfl)(hi:ids (occs (aW fn))=true:=by kernel_rfl)(E:∀x,CB P N (mV (KL l)) (kA (BL b)) (aW fn) fn.results (nN ps x) (kr ps 0 x) (Fh (fC ps) ro)=F x:=by intro x;kernel_rfl)(hb:fn.body=some (aW fn):=by kernel_rfl)(L:fn.ntmps=N:=by kernel_rfl)(O:(fn.name == "runtime.NumGoroutine")=false:=by kernel_rfl)(T:Nat.ble ps.length N=true:=by kernel_rfl)(U:Nat.ble N 20000=true:=by kernel_rfl)(Y:mq ro=true:=by kernel_rfl):enters P f/\tO P f ⟨ps,ro,F⟩:=Qc C hb L O T U Y (v5 _ (ue l)) (BT b D hi) E
def aP(ai:aa (Bool×TC))(ro:aa (Bool×TC×Nat))(F:kT ai->ah (iT ro))(N:Nat)(l:aa (KC P))(C:P.funcs[f]?=some fn)(D:∀x,qw P N (mV (KL l)) (kA []) (aW fn) fn.results (gB ai x) (mh ro)=F x:=by intro x;kernel_rfl)(hb:fn.body=some (aW fn):=by kernel_rfl)(E:fn.ntmps=N:=by kernel_rfl)(L:(fn.name == "runtime.NumGoroutine")=false:=by kernel_rfl)(O:Nat.ble ai.length N=true:=by kernel_rfl)(T:mq ro=true:=by kernel_rfl):KC P:=⟨f,.p (gQ ai ro F),Qf N (KL l) [] C (ue l) rE D hb E L O T⟩
def bS(ai:aa (Bool×TC))(ro:aa (Bool×TC×Nat))(F:kT ai->ah (iT ro))(N:Nat)(l:aa (KC P))(b:aa (BK P N (aW fn)))(C:P.funcs[f]?=some fn)(D:BC b=BD b:=by kernel_rfl)(hi:ids (occs (aW fn))=true:=by kernel_rfl)(E:∀x,qw P N (mV (KL l)) (kA (BL b)) (aW fn) fn.results (gB ai x) (mh ro)=F x:=by intro x;kernel_rfl)(hb:fn.body=some (aW fn):=by kernel_rfl)(L:fn.ntmps=N:=by kernel_rfl)(O:(fn.name == "runtime.NumGoroutine")=false:=by kernel_rfl)(T:Nat.ble ai.length N=true:=by kernel_rfl)(U:mq ro=true:=by kernel_rfl):KC P:=⟨f,.p (gQ ai ro F),Qf N (KL l) (BL b) C (ue l) (BT b D hi) E hb L O T U⟩
def x7(ps:aa PK)(ro:aa (Bool×TC×Nat))(F:mM ps->ah (iT ro×sB (fC ps)))(N:Nat)(l:aa (KC P))(C:P.funcs[f]?=some fn)(D:∀x,CB P N (mV (KL l)) (kA []) (aW fn) fn.results (nN ps x) (kr ps 0 x) (Fh (fC ps) ro)=F x:=by intro x;kernel_rfl)(hb:fn.body=some (aW fn):=by kernel_rfl)(E:fn.ntmps=N:=by kernel_rfl)(L:(fn.name == "runtime.NumGoroutine")=false:=by kernel_rfl)(O:Nat.ble ps.length N=true:=by kernel_rfl)(T:Nat.ble N 20000=true:=by kernel_rfl)(U:mq ro=true:=by kernel_rfl):KC P:=⟨f,.m ⟨ps,ro,F⟩,Qc C hb E L O T U (v5 _ (ue l)) rE D⟩
def je(ps:aa PK)(ro:aa (Bool×TC×Nat))(F:mM ps->ah (iT ro×sB (fC ps)))(N:Nat)(l:aa (KC P))(b:aa (BK P N (aW fn)))(C:P.funcs[f]?=some fn)(D:BC b=BD b:=by kernel_rfl)(hi:ids (occs (aW fn))=true:=by kernel_rfl)(E:∀x,CB P N (mV (KL l)) (kA (BL b)) (aW fn) fn.results (nN ps x) (kr ps 0 x) (Fh (fC ps) ro)=F x:=by intro x;kernel_rfl)(hb:fn.body=some (aW fn):=by kernel_rfl)(L:fn.ntmps=N:=by kernel_rfl)(O:(fn.name == "runtime.NumGoroutine")=false:=by kernel_rfl)(T:Nat.ble ps.length N=true:=by kernel_rfl)(U:Nat.ble N 20000=true:=by kernel_rfl)(Y:mq ro=true:=by kernel_rfl):KC P:=⟨f,.m ⟨ps,ro,F⟩,Qc C hb L O T U Y (v5 _ (ue l)) (BT b D hi) E⟩
def bG{A Z R:Type}(F:A->R)(x:A×Z):R:=F x.1
def bq{A B Z R:Type}(F:A->B->R)(x:A×B×Z):R:=F x.1 x.2.1
def fO{A B C Z R:Type}(F:A->B->C->R)(x:A×B×C×Z):R:=F x.1 x.2.1 x.2.2.1
def mW{A B C D Z R:Type}(F:A->B->C->D->R)(x:A×B×C×D×Z):R:=F x.1 x.2.1 x.2.2.1 x.2.2.2.1
def CH{A B C D E Z R:Type}(F:A->B->C->D->E->R)(x:A×B×C×D×E×Z):R:=F x.1 x.2.1 x.2.2.1 x.2.2.2.1 x.2.2.2.2.1
end
end Go.Proofs.YtnilicojgkhpnaaGreat
