/-
  Running the program over pure contents, and that it follows (part Z). Nothing here is a claim.
-/
import Derived.Test.YthmgjjfedieljaaGreatDoorV4
set_option linter.unusedSimpArgs false
namespace Go.Proofs.YthmgjjfedieljaaGreatDoor
set_option linter.defProp false
open Go.RowKit
set_option linter.unusedVariables false
section
variable {P:Program} {w w':World} {w0:Wd} {B N:Nat} {lab ax:bg} {ρ ρ':Nat->Loc} {σ:S} {a:Act} {X:Type} {d:Nat} {r:X} {o:Oper} {Φ:dG} {Λ:kP}
def ako{E:ah Tmp}{g:Bool}{k:S -> ah X}(h:qH σ E g k=some r):∃ C,k C=some r /\ ∀ a w,R w0 N σ a w -> R w0 N C a w:=by
 unfold qH at h;cases g with
 |false=>grind
 | true=>
  rw[aj]at h;split at h
  ·rename_i d;split at h
   ·rename_i b hb;have key:∀ c:Bool,b=c -> ∀ a w,R w0 N σ a w -> R w0 N (σ.set d (.lf (.v (.bool c)))) a w:=by
     rintro c rfl a w ⟨lab,ρ,hR⟩
     refine⟨lab,ρ,hR.below,hR.cE,hR.root,λk=>?_,hR.size,hR.defers,hR.fix,hR.cY⟩
     show RA w w0.heap.size lab ρ (bE σ.t d (.lf (.v (.bool b))) k) _;by_cases D:k=d
     ·subst D;rw[bF,<- hb];exact hR.tmp k
     ·rw[bZ _ _ _ D];exact hR.tmp k
    grind
   ·grind
  ·grind
def K2(O:fj P Φ)(ops:Array Oper):∀ (rest:aa Oper) (j:Nat) (σ:S) (k:S -> ah X),zZ P N Φ ops j rest σ k=some r -> ∃ Y,k Y=some r /\ ∀ a w,R w0 N σ a w -> ∀ Q,(∀ E w',R w0 N Y E w' -> Q Exit.normal E w') -> wpList P ops Q rest a w
 |[],j,σ,k,h=>⟨σ,h,λa w hR Q D=>D a w hR⟩
 | o :: rest,j,σ,k,h=>by
  unfold zZ at h;split at h
  ·rename_i T;obtain⟨oz,h1,xP⟩:=ajj O h;obtain⟨σ2,h2,uK⟩:=ako h1;obtain⟨F,I,L⟩:=K2 O ops rest (j+1) σ2 k h2
   refine⟨F,I,λa w hR Q D=>?_⟩
   obtain⟨lab,ρ,C⟩:=hR;simp only[wpList,Cz T C,if_true];exact .inl (xP a w _ Q ⟨lab,ρ,C⟩ λE w' qE=>L E w' (uK E w' qE) Q D)
  ·rename_i T;unfold gk at h;split at h
   ·rename_i U;obtain⟨F,I,L⟩:=K2 O ops rest _ σ k h
    refine⟨F,I,λa w hR Q D=>?_⟩
    obtain⟨lab,ρ,C⟩:=hR;simp[wpList,Cz T C,U];exact L a w ⟨lab,ρ,C⟩ Q D
   ·rename_i d U;cases Z:Nat.blt d N with
    |false=>simp_all
    | true=>
     rw[Z,aj]at h;obtain⟨F,I,L⟩:=K2 O ops rest (j+1) _ k h
     refine⟨F,I,λa w hR Q D=>?_⟩
     obtain⟨lab,ρ,C⟩:=hR;simp only[wpList,Cz T C,U];exact L _ w ⟨lab,ρ,C.set rfl (by have:=cr Z;omega)⟩ Q D
  ·cases h
def CA(Z:fj P Φ):∀ (c:Code) (σ:S) (k:Exit->S->ah X),jH P N Φ Λ c σ k=some r->pN P N Λ (occs c)->AW P w0 N c σ λe D=>k e D=some r:=by
 intro c
 induction c with
 |skip=>exact λσ k h _ a w hR=>wp_skip ⟨σ,h,hR⟩
 |label l=>exact λσ k h _ a w hR=>wp_label ⟨σ,h,hR⟩
 |ret=>exact λσ k h _ a w hR=>wp_ret ⟨σ,h,hR⟩
 |exit id=>exact λσ k h _ a w hR=>wp_exit ⟨σ,h,hR⟩
 | region id ops draw=>
  intro σ k h _ a w hR;cases draw with
  | true=>
   simp only[jH]at h;cases hm:P.follows .mixedOrders with
   |false=>rw[hm]at h;cases h
   | true=>
    rw[hm,aj]at h
    haveI:Inhabited Wd:=⟨w0⟩
    exact akn Z hm h (λτ gW a w hR=>⟨τ,gW,hR⟩) hR
  | false=>
   simp only[jH]at h;obtain⟨D,h',hw⟩:=K2 (w0:=w0) Z ops _ _ _ _ h;exact wp_region_list (hw a w hR _ λL w' C=>⟨D,h',C⟩)
 | seq x y O T=>
  intro σ k h F a w hR;simp only[jH]at h;have U:=O σ _ h (λp E=>F p (List.mem_append_left _ E))
  refine wp_seq (wp_mono (U a w hR) λe L w' Y=>?_)
  obtain⟨D,I,C⟩:=Y;cases e with
  |normal=>exact T D k I (λp E=>F p (List.mem_append_right _ E)) L w' C
  |_=>exact⟨D,I,C⟩
 | cond c x y O T=>
  intro σ k h F a w hR;simp only[jH]at h;split at h
  ·rename_i b hb;obtain⟨lab,ρ,C⟩:=hR;have hc:=C.aE c;rw[hb]at hc;have Ys:=hc.2.wS;cases b with
   |true=>exact wp_cond_true Ys (O σ k h (λp E=>F p (List.mem_append_left _ E)) a w ⟨lab,ρ,C⟩)
   |false=>exact wp_cond_false Ys (T σ k h (λp E=>F p (List.mem_append_right _ E)) a w ⟨lab,ρ,C⟩)
  ·cases h
 | block id c ih=>
  intro σ k h F a w hR;simp only[jH]at h;split at h
  next b hb=>exact F (id,c) (.head _) b hb X σ k r w0 h a w hR
  ·have U:=ih σ _ h (λp E=>F p (.tail _ E))
   refine wp_block (wp_mono (U a w hR) λe L w' Y=>?_)
   obtain⟨D,I,C⟩:=Y;cases e with
   | exit Yt=>
    simp only[Exit.inBlock];by_cases hid:Yt=id
    ·simp only[hid,if_true]at I ⊢;exact⟨D,I,C⟩
    ·simp only[hid,if_false]at I ⊢;exact⟨D,I,C⟩
   |_=>exact⟨D,I,C⟩
 |_=>exact λσ k h=>by simp[jH]at h
end
/-! What a loop carries. -/
inductive Lm where
 |int (k:IntKind)
 |bool
 |str
 |own (r:Nat)
 |aF (t:TC) (o:Nat)
def Lm.T:Lm->Type
 |.int _=>Int
 |.bool=>Bool
 |.str=>ByteArray
 |.own _=>af
 |.aF t _=>aa (Proofs.YthmgjjfedieljaaGreatDoor.T t)
def Lm.mk:(m:Lm)->m.T->Lf
 |.int k,n=>.v (.int k n)
 |.bool,b=>.v (.bool b)
 |.str,s=>.v (.str s)
 |.own r,_=>.own [r]
 |.aF t o,l=>.v (.sl t o false l)
def Lm.rd:(m:Lm)->Lf->ah m.T
 |.int k,.v (.int C n)=>if C=k then some n else none
 |.bool,.v (.bool b)=>some b
 |.str,.v (.str s)=>some s
 |.own r,.own [D]=>bif Nat.beq D r then some ()else none
 |.aF t o,.v x=>bif Nat.blt o 2 then x.eF t o else none
 |_,_=>none
inductive Tm where
 |lf (m:Lm)
 |aI (r j:Nat)
 |fp (t:TC) (o:Nat)
 |fc (f:Nat) (t:TC)
 |ag (t:TC)
 |pk (r n:Nat)
def Tm.T:Tm->Type
 |.lf m=>m.T
 |.aI _ _=>af
 |.fp t _=>Proofs.YthmgjjfedieljaaGreatDoor.T t
 |.fc _ t=>Proofs.YthmgjjfedieljaaGreatDoor.T t
 |.ag t=>Proofs.YthmgjjfedieljaaGreatDoor.T t
 |.pk _ _=>af
def Tm.mk:(m:Tm)->m.T->A
 |.lf m,x=>.lf (m.mk x)
 |.aI r j,_=>.aI r j
 |.fp t o,x=>.ij (enc t o x)
 |.fc f t,x=>.lN f (enc t 0 x)
 |.ag t,x=>.agg ((enc t 0 x).map .v)
 |.pk r n,_=>.pk r n
def Tm.rd:(m:Tm)->A->ah m.T
 |.lf m,.lf x=>m.rd x
 |.aI r j,.aI C D=>bif Nat.beq C r&&Nat.beq D j then some ()else none
 |.fp t o,.ij cs=>bif Nat.blt o 2 then dec t o cs else none
 |.fc f t,.lN E cs=>bif Nat.beq E f then dec t 0 cs else none
 | .ag t,.agg cs=>(match rI cs with
  |some F=>dec t 0 F
  |none=>none)
 |.pk r n,.pk C I=>bif Nat.beq C r&&Nat.beq I n then some ()else none
 |_,_=>none
def FW:aa Lm->Type
 |[]=>af
 |m::C=>m.T×FW C
def vt:(C:aa Lm)->FW C->aa Lf
 |[],_=>[]
 |m::C,x=>m.mk x.1::vt C x.2
def K3:(C:aa Lm)->aa Lf->ah (FW C)
 |[],[]=>some ()
 | m :: C,x :: xs=>match m.rd x,K3 C xs with
  |some y,some ys=>some (y,ys)
  |_,_=>none
 |_,_=>none
inductive Rm where
 |sl (t:TC) (o:Nat)
 |st (t:TC)
 |blk (ms:List Lm)
 |mp
def Rm.T:Rm->Type
 |.sl t _=>aa (Proofs.YthmgjjfedieljaaGreatDoor.T t)
 |.st t=>Proofs.YthmgjjfedieljaaGreatDoor.T t
 |.blk C=>FW C
 |.mp=>aa (Int×Bool)
def Rm.mk:(m:Rm)->m.T->aM
 |.sl t o,l=>.sl (.sl t o false l)
 |.st t,x=>.blk ((enc t 0 x).map .v)
 |.blk C,x=>.blk (vt C x)
 |.mp,l=>.mp l
def Rm.rd:(m:Rm)->aM->ah m.T
 |.sl t o,.sl y=>y.eF t o
 | .st t,.blk cs=>(match rI cs with
  |some C=>dec t 0 C
  |none=>none)
 |.blk D,.blk cs=>K3 D cs
 |.mp,.mp l=>some l
 |_,_=>none
def CB:aa (Nat×Tm)->Type
 |[]=>af
 |(_,m)::C=>m.T×CB C
def vu:(C:aa (Nat×Tm))->CB C->Nat->A
 |[],_,_=>.undef
 |(n,m)::C,x,k=>bif Nat.beq k n then m.mk x.1 else vu C x.2 k
def FX:(C:aa (Nat×Tm))->(Nat->A)->ah (CB C)
 |[],_=>some ()
 | (n,m) :: C,t=>match m.rd (t n),FX C t with
  |some x,some xs=>some (x,xs)
  |_,_=>none
def vw:aa (Nat×Rm)->Type
 |[]=>af
 |(_,m)::C=>m.T×vw C
def vA:(C:aa (Nat×Rm))->vw C->Nat->ah aM
 |[],_,_=>none
 |(n,m)::C,x,k=>bif Nat.beq k n then some (m.mk x.1)else vA C x.2 k
def CC:(C:aa (Nat×Rm))->(Nat->ah aM)->ah (vw C)
 |[],_=>some ()
 | (n,m) :: C,t=>match (t n).bind m.rd,CC C t with
  |some x,some xs=>some (x,xs)
  |_,_=>none
structure iF where
 ts:List (Nat×Tm)
 rs:List (Nat×Rm)
def iF.St(C:iF):Type:=CB C.ts×vw C.rs
def iF.mk'(C:iF)(x:C.St):S:=⟨vu C.ts x.1,vA C.rs x.2⟩
def iF.K4(C:iF)(σ:S):ah C.St:=match FX C.ts σ.t,CC C.rs σ.m with
 |some x,some y=>some (x,y)
 |_,_=>none
/-! Roots by other names. -/
abbrev Rn:=aa (Nat×Nat)
def Rn.inv(rs:Rn)(n:Nat):ah Nat:=(rs.find? λp=>Nat.beq p.2 n).map (·.1)
def Rn.add(rs:Rn)(r n:Nat):Rn:=bif rs.any (λp=>Nat.beq p.1 r&&Nat.beq p.2 n)then rs else (r,n)::rs
def RU(n:Nat):ah Nat->Bool
 |some m=>Nat.beq m n
 |none=>false
def Rn.ok(rs:Rn):Bool:=rs.all λp=>(Nat.beq p.1 p.2 ||Nat.ble 60000 p.2)&&RU p.2 (rs.lookup p.1)&&RU p.1 (rs.inv p.2)
def Lf.dD(rs:Rn):Lf->Lf
 |.v x=>.v x
 | .own [r]=>(match rs.lookup r with
  |some n=>.own [n]
  |none=>.dead)
 |_=>.dead
def A.dD(rs:Rn):A->A
 |.lf x=>.lf (x.dD rs)
 | .aI r j=>(match rs.lookup r with
  |some n=>.aI n j
  |none=>.undef)
 |.ij cs=>.ij cs
 |.lN f cs=>.lN f cs
 |.agg cs=>.agg (cs.map (Lf.dD rs))
 |_=>.undef
def aM.dD(rs:Rn):aM->aM
 |.blk cs=>.blk (cs.map (Lf.dD rs))
 |.sl y=>.sl y
 |.mp l=>.mp l
 |.gh _=>.gh []
def S.dD(rs:Rn)(σ:S):S:=⟨λk=>(σ.t k).dD rs,λn=>match rs.inv n with
 |some r=>(σ.m r).map (aM.dD rs)
 |none=>none⟩
def Yu:Lm->Lf->Rn->Rn
 |.own n,.own [r],rs=>rs.add r n
 |_,_,rs=>rs
def RX:aa Lm->aa Lf->Rn->Rn
 |m::C,x::xs,rs=>RX C xs (Yu m x rs)
 |_,_,rs=>rs
def rnT:Tm->A->Rn->Rn
 |.lf m,.lf x,rs=>Yu m x rs
 |.aI n j,.aI r C,rs=>rs.add r n
 |_,_,rs=>rs
def Yv(t:Nat->A):aa (Nat×Tm)->Rn->Rn
 |[],rs=>rs
 |(k,m)::C,rs=>Yv t C (rnT m (t k) rs)
def Yw(m:Nat->ah aM):aa (Nat×Rm)->Rn->Rn
 |[],rs=>rs
 | (n,x) :: xs,rs=>Yw m xs (match x,rs.inv n with
  | .blk C,some r=>(match m r with
   |some (.blk cs)=>RX C cs rs
   |_=>rs)
  | .blk C,none=>(match m n with
   |some (.blk cs)=>RX C cs (rs.add n n)
   |_=>rs)
  |_,some _=>rs
  |_,none=>rs.add n n)
def iF.rn(C:iF)(σ:S):Rn:=Yw σ.m C.rs (Yv σ.t C.ts [])
def RY(rs:aa (Nat×Rm))(p:Nat×Tm)(σ:S):S:=match p.2,σ.t p.1 with
 | .lf (.own n),.lf (.v .nil)=>(match rs.lookup n with
  |some (.sl t o)=>bif Nat.ble 60000 n then ⟨bE ((σ.drop n).root n (.sl (.sl t o false []))).t p.1 (.lf (.own [n])),((σ.drop n).root n (.sl (.sl t o false []))).m⟩else σ
  |_=>σ)
 |_,_=>σ
def K5(rs:aa (Nat×Rm)):aa (Nat×Tm)->S->S
 |[],σ=>σ
 |p::ps,σ=>K5 rs ps (RY rs p σ)
def RZ(n j r:Nat)(σ:S):S:=match σ.m r with
 | some (.blk cs)=>(match cs[j]? with
  |some (.v .nil)=>⟨σ.t,bE σ.m r (some (.blk (cs.set j (.own [n]))))⟩
  |_=>σ)
 |_=>σ
def R1(rs:aa (Nat×Rm))(n j r:Nat)(σ:S):S:=match rs.lookup n with
 |some (.sl t o)=>bif Nat.ble 60000 n then RZ n j r ((σ.drop n).root n (.sl (.sl t o false [])))else σ
 |_=>σ
def Ai(rs:aa (Nat×Rm))(r:Nat):Nat->aa Lm->aa Lf->S->S
 |j,.own n::C,.v .nil::cs,σ=>Ai rs r (j+1) C cs (R1 rs n j r σ)
 |j,_::C,_::cs,σ=>Ai rs r (j+1) C cs σ
 |_,_,_,σ=>σ
def K6(rs:aa (Nat×Rm)):aa (Nat×Rm)->S->S
 |[],σ=>σ
 | (r,.blk C) :: ps,σ=>K6 rs ps (match σ.m r with
  |some (.blk cs)=>Ai rs r 0 C cs σ
  |_=>σ)
 |_::ps,σ=>K6 rs ps σ
def iF.Yx(C:iF)(σ:S):ah C.St:=bif (C.rn σ).ok then C.K4 (K6 C.rs C.rs (σ.dD (C.rn σ)))else none
def iF.rd(C:iF)(σ:S):ah C.St:=match C.K4 σ with
 |some x=>some x
 |none=>C.Yx (K5 C.rs C.ts σ)
section
variable {P:Program} {w w':World} {w0:Wd} {B N:Nat} {lab ax:bg} {ρ ρ':Nat->Loc} {σ:S} {a:Act} {X:Type} {d:Nat} {r:X} {o:Oper} {Φ:dG} {Λ:kP}
def Lm.oC{m:Lm}{x:Lf}{y:m.T}(h:m.rd x=some y){u:Value}(C:di w B lab ρ x u):di w B lab ρ (m.mk y) u:=by
 unfold Lm.rd at h;split at h
 ·split at h
  next D=>subst D;injection h with h;subst h;exact C
  ·cases h
 ·injection h with h;subst h;exact C
 ·injection h with h;subst h;exact C
 ·rename_i E F;cases hb:Nat.beq F E with
  |false=>simp_all
  |true=>obtain rfl:=cv hb;exact C
 ·rename_i t o x;cases hb:Nat.blt o 2 with
  |false=>rw[hb]at h;cases h
  | true=>
   rw[hb]at h;have:=cr hb;exact⟨by simp[V.aF];omega,C.2.wk (V.Em h)⟩
 ·cases h
def Tm.oC{m:Tm}{x:A}{y:m.T}(h:m.rd x=some y){u:Value}(F:RA w B lab ρ x u):RA w B lab ρ (m.mk y) u:=by
 cases m with
 | lf m=>
  cases x with
  |lf x=>exact Lm.oC h F
  |_=>cases h
 | aI r j=>
  cases x with
  | aI L j'=>
   have h:(bif Nat.beq L r&&Nat.beq j' j then some ()else none)=some y:=h;cases hb:(Nat.beq L r&&Nat.beq j' j)with
   |false=>simp_all
   | true=>
    rw[aH]at hb;obtain rfl:=cv hb.1;obtain rfl:=cv hb.2;exact F
  |_=>cases h
 | fp t o=>
  cases x with
  | ij cs=>
   have h:(bif Nat.blt o 2 then dec t o cs else none)=some y:=h;cases hb:Nat.blt o 2 with
   |false=>simp_all
   | true=>
    rw[hb,aj]at h;have ho:=cr hb;have D:=jU t o cs y h;obtain⟨b,off,O,U,Y,h4⟩:=F
    refine⟨b,off,O,U,Y,λj z C=>?_⟩
    have Z:j<cs.length:=by rw[D.1];exact(de.1 C).1
    have E:=bQ Z;obtain⟨g1,v,g2,g3⟩:=h4 j _ E;exact⟨oh t o y (by omega) j z C,v,g2,g3.wk (D.2 j _ z E C)⟩
  |_=>cases h
 | fc f t=>
  cases x with
  | lN f' cs=>
   have h:(bif Nat.beq f' f then dec t 0 cs else none)=some y:=h;cases hb:Nat.beq f' f with
   |false=>simp_all
   | true=>
    rw[hb,aj]at h;obtain rfl:=cv hb;have D:=jU t 0 cs y h;obtain⟨pv,e0,b,off,O,U,Y,h4⟩:=F
    refine⟨pv,e0,b,off,O,U,Y,λj z C=>?_⟩
    have Z:j<cs.length:=by rw[D.1];exact(de.1 C).1
    have E:=bQ Z;obtain⟨g1,v,g2,g3⟩:=h4 j _ E;exact⟨oh t 0 y (by omega) j z C,v,g2,g3.wk (D.2 j _ z E C)⟩
  |_=>cases h
 | ag t=>
  cases x with
  | agg cs=>
   have h:(match rI cs with|some I=>dec t 0 I|none=>none)=some y:=h;cases jX:rI cs with
   |none=>simp_all
   | some I=>
    rw[jX]at h;have h:dec t 0 I=some y:=h;have kH:=EK _ _ jX;have D:=jU t 0 I y h;obtain⟨us,O,U,Y⟩:=F
    refine⟨us,O,?_,λj x hx=>?_⟩
    ·rw[U,kH,eE,eE,D.1]
    ·rw[dI]at hx;cases C:(enc t 0 y)[j]? with
     |none=>simp_all
     | some z=>
      rw[C]at hx;injection hx with hx;subst hx;have Z:j<I.length:=by rw[D.1];exact(de.1 C).1
      have E:=bQ Z;obtain⟨v,g1,g2⟩:=Y j (.v I[j]) (by rw[kH,dI,E];rfl);exact⟨v,g1,oh t 0 y (by omega) j z C,g2.2.wk (D.2 j _ z E C)⟩
  |_=>cases h
 | pk r n=>
  cases x with
  | pk L n'=>
   have h:(bif Nat.beq L r&&Nat.beq n' n then some ()else none)=some y:=h;cases hb:(Nat.beq L r&&Nat.beq n' n)with
   |false=>simp_all
   | true=>
    rw[aH]at hb;obtain rfl:=cv hb.1;obtain rfl:=cv hb.2;exact F
  |_=>cases h
def Yy:∀ (C:aa Lm) (cs:aa Lf) (y:FW C),K3 C cs=some y -> (vt C y).length=cs.length /\ ∀ (j:Nat) x,(vt C y)[j]?=some x -> ∃ z,cs[j]?=some z/\(∀ (w:World) (B:Nat) (lab:bg) (ρ:Nat -> Loc) (u:Value),di w B lab ρ z u -> di w B lab ρ x u)
 |[],[],y,h=>⟨rfl,λj x D=>by simp[vt]at D⟩
 | m :: C,c :: cs,y,h=>by
  unfold K3 at h;split at h
  ·rename_i T ys E F;injection h with h;subst h;obtain⟨I,L⟩:=Yy C cs ys F
   refine⟨by simp[vt,I],λj x D=>?_⟩
   cases j with
   |zero=>simp[vt]at D;subst D;exact⟨c,rfl,λw B lab ρ u O=>Lm.oC E O⟩
   |succ j=>exact L j x (by simpa [vt]using D)
  ·cases h
def Rm.oC{m:Rm}{x:aM}{y:m.T}(h:m.rd x=some y){n:Nat}(C:dz w B lab ρ n x):dz w B lab ρ n (m.mk y):=by
 cases m with
 | sl t o=>
  cases C with
  |sl v y' D hr=>exact .sl v _ D (hr.wk (V.Em h))
  |blk=>cases h
  |mp=>cases h
  |gh=>cases h
 | mp=>
  cases C with
  |gh=>cases h
  |sl=>cases h
  |blk=>cases h
  |mp b c es l D hl F he=>injection h with h;subst h;exact .mp b c es _ D hl F he
 | st t=>
  cases C with
  |sl=>cases h
  |mp=>cases h
  |gh=>cases h
  | blk b off cells e cs us D hl F I U=>
   have h:(match rI cs with|some E=>dec t 0 E|none=>none)=some y:=h;cases Y:rI cs with
   |none=>simp_all
   | some E=>
    rw[Y]at h;have h:dec t 0 E=some y:=h;have Z:=EK _ _ Y;have O:=jU t 0 E y h
    refine .blk b off cells e _ us D hl F (by rw[eE,<- O.1];rw[Z,eE]at I;exact I) λj x C=>?_
    rw[dI]at C;cases L:(enc t 0 y)[j]? with
    |none=>simp_all
    | some z=>
     rw[L]at C;injection C with C;subst C;have hj:j<E.length:=by rw[O.1];exact(de.1 L).1
     have hv:=bQ hj;obtain⟨h1,h2⟩:=U j (.v E[j]) (by rw[Z,dI,hv];rfl);exact⟨h1,oh t 0 y (by omega) j z L,h2.2.wk (O.2 j _ z hv L)⟩
 | blk ms=>
  cases C with
  |sl=>cases h
  |mp=>cases h
  |gh=>cases h
  | blk b off cells e cs us D hl F I U=>
   obtain⟨k1,k2⟩:=Yy ms cs y h
   refine .blk b off cells e _ us D hl F (by show off+(vt ms y).length <= _;rw[k1];exact I) λj x C=>?_
   grind
def R2:∀ (C:aa (Nat×Tm)) (t:Nat -> A) (y:CB C),FX C t=some y -> ∀ k,vu C y k = .undef \/ ∃ m z,(Tm.rd m (t k)=some z/\vu C y k=m.mk z)
 |[],t,y,h,k=>.inl rfl
 | (n,m) :: C,t,y,h,k=>by
  unfold FX at h;split at h
  ·rename_i x xs D E;injection h with h;subst h;by_cases F:k=n
   ·subst F;exact .inr ⟨m,x,D,by simp[vu]⟩
   ·have hb:Nat.beq k n=false:=by
     cases hb:Nat.beq k n with
     |false=>rfl
     |true=>simp_all
    simp only[vu,hb,au];exact R2 C t xs E k
  ·cases h
def R3:∀ (C:aa (Nat×Rm)) (t:Nat -> ah aM) (y:vw C),CC C t=some y -> ∀ k,vA C y k=none \/ ∃ m x z,t k=some x/\Rm.rd m x=some z/\vA C y k=some (m.mk z)
 |[],t,y,h,k=>.inl rfl
 | (n,m) :: C,t,y,h,k=>by
  unfold CC at h;split at h
  ·rename_i x xs D E;injection h with h;subst h;by_cases F:k=n
   ·subst F;cases I:t k with
    |none=>simp_all
    |some z=>rw[I]at D;exact .inr ⟨m,z,x,rfl,D,by simp[vA]⟩
   ·have hb:Nat.beq k n=false:=by
     cases hb:Nat.beq k n with
     |false=>rfl
     |true=>simp_all
    simp only[vA,hb,au];exact R3 C t xs E k
  ·cases h
def iF.Yz{C:iF}{x:C.St}(h:C.K4 σ=some x)(hR:R w0 N σ a w):R w0 N (C.mk' x) a w:=by
 unfold iF.K4 at h;split at h
 ·rename_i u v I L;injection h with h;subst h;obtain⟨lab,ρ,hR⟩:=hR
  refine⟨lab,ρ,hR.below,hR.cE,λn y D=>?_,λk=>?_,hR.size,hR.defers,hR.fix,hR.cY⟩
  ·have D:vA C.rs v n=some y:=D;rcases R3 C.rs σ.m v L n with e | ⟨m,x,z,E,F,O⟩
   ·simp_all
   ·rw[O]at D;injection D with D;subst D;exact Rm.oC F (hR.root n x E)
  ·show RA _ _ _ _ (vu C.ts u k) _;rcases R2 C.ts σ.t u I k with e | ⟨m,z,E,F⟩
   ·rw[e];trivial
   ·rw[F];exact Tm.oC E (hR.tmp k)
 ·cases h
def YA{n:Nat}{o:ah Nat}(h:RU n o=true):o=some n:=by
 cases o with
 |none=>cases h
 |some m=>rw[cv h]
def YB{rs:Rn}{r n:Nat}(h:rs.lookup r=some n):(r,n)∈rs:=by
 induction rs with
 |nil=>cases h
 |cons p rs C =>grind
def YC{rs:Rn}{r n:Nat}(h:rs.inv n=some r):(r,n)∈rs:=by
 unfold Rn.inv at h;cases C:rs.find? _ with
 |none=>rw[C]at h;cases h
 | some p=>
  rw[C]at h;injection h with h;subst h;have D:=List.find?_some C;have E:=List.mem_of_find?_eq_some C;rw[<- cv D];exact E
def Rn.eA(rs:Rn)(ρ:Nat->Loc):Nat->Loc:=λn=>match rs.inv n with
 |some r=>ρ r
 |none=>ρ n
def Rn.K7{rs:Rn}(h:rs.ok=true){r n:Nat}(C:(r,n)∈rs):(r=n \/ 60000 <= n)/\rs.lookup r=some n/\rs.inv n=some r:=by
 have:=bW.1 h _ C;rw[aH,aH,dA]at this;refine⟨?_,YA this.1.2,YA this.2⟩;simp_all
def di.dD{rs:Rn}(C:rs.ok=true){x:Lf}{u:Value}(h:di w B lab ρ x u):di w B (dO lab rs id) (rs.eA ρ) (x.dD rs) u:=by
 unfold Lf.dD;split
 ·exact⟨h.1,h.2.Jy h.1 λb=>xg⟩
 ·rename_i r;split
  next n D=>have hi:=(Rn.K7 C (YB D)).2.2;refine⟨h.1,?_⟩;have E:=h.2;simp[cC]at E ⊢;unfold Rn.eA;simp_all
  ·trivial
 ·trivial
def Rl.dD{rs:Rn}(I:rs.ok=true)(h:Rl w0 N lab ρ σ a w):Rl w0 N (dO lab rs id) (rs.eA ρ) (σ.dD rs) a w:=by
 have hl:∀ b r n,lab b=some [r] -> rs.lookup r=some n -> dO lab rs id b=some [n]:=by
  intro b r n E F;simp[dO,E,F]
 refine⟨h.below,λb k D=>?_,λn x C=>?_,λk=>?_,h.size,h.defers,λr l O=>?_,h.cY⟩
 ·unfold dO at D;split at D
  ·cases D
  ·rename_i k0 Qr;split at D
   ·cases D
   ·rename_i r O;cases hn:rs.lookup r with
    |none=>grind
    | some n=>
     rw[hn]at D;injection D with D;subst D;obtain⟨E,F,_⟩:=h.cE b k0 Qr;simp_all
 ·have C:(match rs.inv n with | some r=>(σ.m r).map (aM.dD rs) | none=>none)=some x:=C;cases hi:rs.inv n with
  |none=>grind
  | some r=>
   rw[hi]at C;have C:(σ.m r).map (aM.dD rs)=some x:=C;have rM:=(Rn.K7 I (YC hi)).2.1;have Z:rs.eA ρ n=ρ r:=by unfold Rn.eA;rw[hi]
   cases hm:σ.m r with
   |none=>grind
   | some y=>
    rw[hm]at C;injection C with C;subst C;cases h.root r y hm with
    | blk b off cells e cs us E F hh hs hc=>
     refine .blk b off cells e _ us (Z.trans E) (hl b r n F rM) hh (by rw[eE];exact hs) λj x C=>?_
     rw[dI]at C;cases L:cs[j]? with
     |none=>grind
     | some z=>
      rw[L]at C;injection C with C;subst C;exact⟨(hc j z L).1,(hc j z L).2.dD I⟩
    | sl v y E F=>
     exact .sl v y (Z.trans E) (RV.dO (p:=[]) (nm:=id) F rM)
    |mp b c es l E F hh he=>exact .mp b c es l (Z.trans E) (hl b r n F rM) hh he
    |gh us xs E C=>exact .gh us _ (Z.trans E) λj x hj=>by simp at hj
 ·show RA _ _ _ _ ((σ.t k).dD rs) _;have D:=h.tmp k;generalize σ.t k=x at D;unfold A.dD;split
  ·exact D.dD I
  ·rename_i r j;split
   next n hn=>have hi:=(Rn.K7 I (YB hn)).2.2;obtain⟨b,off,E,F⟩:=D;exact⟨b,off,by unfold Rn.eA;rw[hi];exact E,F⟩
   ·trivial
  ·obtain⟨b,off,T,U,Y,g4⟩:=D
   refine⟨b,off,T,U,xg Y,λj x C=>?_⟩
   obtain⟨f1,v,f2,f3⟩:=g4 j x C;exact⟨f1,v,f2,f3.Jy f1 λb=>xg⟩
  ·obtain⟨pv,e0,b,off,T,U,Y,g4⟩:=D
   refine⟨pv,e0,b,off,T,U,xg Y,λj x C=>?_⟩
   obtain⟨f1,v,f2,f3⟩:=g4 j x C;exact⟨f1,v,f2,f3.Jy f1 λb=>xg⟩
  ·obtain⟨us,T,U,Y⟩:=D
   refine⟨us,T,by rw[eE];exact U,λj x C=>?_⟩
   rw[dI]at C;rename_i cs;cases L:cs[j]? with
   |none=>grind
   | some z=>
    rw[L]at C;injection C with C;subst C;obtain⟨v,f1,f2⟩:=Y j z L;exact⟨v,f1,f2.dD I⟩
  ·trivial
 ·show rs.eA ρ r=l;unfold Rn.eA;split
  ·rename_i r0 hi;rcases(Rn.K7 I (YC hi)).1 with e | e
   ·rw[e];exact h.fix r l O
   ·rw[h.cY r (.inr e)]at O;cases O
  ·exact h.fix r l O
def akp{rs:aa (Nat×Rm)}{p:Nat×Tm}(hR:R w0 N σ a w):R w0 N (RY rs p σ) a w:=by
 unfold RY;split
 ·rename_i n T I;split
  ·rename_i t o hl;cases hb:Nat.ble 60000 n with
   |false=>exact hR
   | true=>
    have L:=cr hb;obtain⟨lab,ρ,hR⟩:=hR;have D:=hR.tmp p.1;rw[I]at D;have O:a.tmps.getD p.1 undef = .slice none 0 0:=by
     have E:=D.2;generalize a.tmps.getD p.1 undef=u at E;cases E;rfl
    have C:=hR.new (d:=n) (x:=.sl (.sl t o false [])) (.cO (.slice none 0 0)) (.sl _ _ (bF _ _ _) (.dN _ _ _)) (hR.cY n (.inr L))
    refine⟨lab,_,C.below,C.cE,C.root,λk=>?_,C.size,C.defers,C.fix,C.cY⟩
    show RA _ _ _ _ (bE ((σ.drop n).root n (.sl (.sl t o false []))).t p.1 (.lf (.own [n])) k) _;by_cases F:k=p.1
    ·subst F;rw[bF,O];exact⟨rfl,by simp[cC,bF]⟩
    ·rw[bZ _ _ _ F];exact C.tmp k
  ·exact hR
 ·exact hR
def akq{n j r:Nat}{y:V}(hR:Rl w0 N lab ρ σ a w)(O:ρ n = .cO (.slice none 0 0)):Rl w0 N lab ρ (RZ n j r σ) a w:=by
 unfold RZ;split
 ·rename_i cs T;split
  ·rename_i I
   refine⟨hR.below,hR.cE,λE x C=>?_,hR.tmp,hR.size,hR.defers,hR.fix,hR.cY⟩
   have C:bE σ.m r (some (.blk (cs.set j (.own [n])))) E=some x:=C;by_cases L:E=r
   ·subst L;rw[bF]at C;injection C with C;subst C;cases hR.root E _ T with
    | blk b off cells e cs us U F Y Z hc=>
     refine .blk b off cells e _ us U F Y (by rw[js];exact Z) λi z D=>?_
     rw[List.getElem?_set]at D;by_cases hi:j=i
     ·subst hi;have dV:j<cs.length:=(de.1 I).1;rw[bJ rfl,bJ dV]at D;injection D with D;subst D;obtain⟨k1,k2⟩:=hc j _ I;refine⟨k1,?_⟩;have hu:us j = .slice none 0 0:=by
       have F:=k2.2;generalize us j=u at F;cases F;rfl
      rw[hu];exact⟨rfl,by simp only[cC,O]⟩
     ·grind
   ·rw[bZ _ _ _ L]at C;exact hR.root E x C
  ·exact hR
 ·exact hR
def akr{rs:aa (Nat×Rm)}{n j r:Nat}(hR:R w0 N σ a w):R w0 N (R1 rs n j r σ) a w:=by
 unfold R1;split
 ·rename_i t o hl;cases hb:Nat.ble 60000 n with
  |false=>exact hR
  | true=>
   have C:=cr hb;obtain⟨lab,ρ,hR⟩:=hR;exact⟨lab,_,akq (y:=.nil) (hR.new _ (.sl _ _ (bF _ _ _) (.dN _ _ _)) (hR.cY n (.inr C))) (bF _ _ _)⟩
 ·exact hR
def R4{rs:aa (Nat×Rm)}{r:Nat}:∀ (C:aa Lm) (cs:aa Lf) (j:Nat) (σ:S),R w0 N σ a w -> R w0 N (Ai rs r j C cs σ) a w
 |[],cs,j,σ,h=>by unfold Ai;exact h
 | m :: C,[],j,σ,h=>by
  unfold Ai;simp_all
 | m :: C,c :: cs,j,σ,h=>by
  unfold Ai;split
  next D E=>cases D;cases E;exact R4 C cs _ _ (akr h)
  next D E=>cases D;cases E;exact R4 C cs _ _ h
  ·exact h
def FY{rs:aa (Nat×Rm)}:∀ (ps:aa (Nat×Rm)) (σ:S),R w0 N σ a w -> R w0 N (K6 rs ps σ) a w
 |[],σ,h=>h
 |(r,.sl t o)::ps,σ,h=>FY ps σ h
 |(r,.st t)::ps,σ,h=>FY ps σ h
 |(r,.mp)::ps,σ,h=>FY ps σ h
 | (r,.blk C) :: ps,σ,h=>by
  refine FY ps _ ?_;split
  ·exact R4 C _ 0 σ h
  ·exact h
def YD{rs:aa (Nat×Rm)}:∀ (ps:aa (Nat×Tm)) (σ:S),R w0 N σ a w->R w0 N (K5 rs ps σ) a w
 |[],σ,h=>h
 |p::ps,σ,h=>YD ps _ (akp h)
def iF.oC{C:iF}{x:C.St}(h:C.rd σ=some x)(hR:R w0 N σ a w):R w0 N (C.mk' x) a w:=by
 unfold iF.rd at h;split at h
 next y D=>injection h with h;subst h;exact iF.Yz D hR
 ·have hR:=YD (rs:=C.rs) C.ts σ hR;revert h hR;generalize K5 C.rs C.ts σ=E;intro h hR;unfold iF.Yx at h;cases hb:(C.rn E).ok with
  |false=>simp_all
  | true=>
   rw[hb,aj]at h;obtain⟨lab,ρ,hR⟩:=hR;exact iF.Yz h (FY C.rs _ ⟨_,_,hR.dD hb⟩)
end
def vB:aa V->aa Nat->aa Lf
 |[],_=>[]
 | x :: xs,ns=>bif x.plain then .v x :: vB xs ns else (match ns with
  |n::ns=>.own [n]::vB xs ns
  |[]=>.dead::vB xs [])
def Aj:aa V->aa Nat->(Nat->ah aM)->Nat->ah aM
 |[],_,m,k=>m k
 | x :: xs,ns,m,k=>bif x.plain then Aj xs ns m k else (match ns with
  |n::ns=>bif Nat.beq k n then some (.sl x)else Aj xs ns m k
  |[]=>Aj xs [] m k)
def jj(m:Nat->ah aM):aa Lf->aa Nat->ah (aa V)
 |[],[]=>some []
 | .v x :: cs,ns=>bif x.plain then (match jj m cs ns with
  |some C=>some (x::C)
  |none=>none)else none
 | .own [r] :: cs,n :: ns=>bif Nat.beq r n then (match m n with
  | some (.sl y)=>bif y.plain then none else (match jj m cs ns with
   |some C=>some (y::C)
   |none=>none)
  |_=>none)else none
 |_,_=>none
abbrev Gp:=Nat×TC×Nat×aa Nat
def FZ:aa Gp->Type->Type
 |[],X=>X
 |g::gs,X=>T g.2.1×FZ gs X
def K8:(gs:aa Gp)->(rs:aa (Nat×Rm))->FZ gs (vw rs)->Nat->ah aM
 |[],rs,x,k=>vA rs x k
 |(n,t,o,ns)::gs,rs,x,k=>bif Nat.beq k n then some (.blk (vB (enc t o x.1) ns))else Aj (enc t o x.1) ns (K8 gs rs x.2) k
def K9:(gs:aa Gp)->(rs:aa (Nat×Rm))->(Nat->ah aM)->ah (FZ gs (vw rs))
 |[],rs,m=>CC rs m
 | (n,t,o,ns) :: gs,rs,m=>match m n with
  | some (.blk cs)=>(match jj m cs ns with
   | some C=>(match dec t o C,K9 gs rs m with
    |some x,some y=>some (x,y)
    |_,_=>none)
   |none=>none)
  |_=>none
def CD:aa V->aa Nat->aa Lm
 |[],_=>[]
 |.int k _::xs,ns=>.int k::CD xs ns
 |.bool _::xs,ns=>.bool::CD xs ns
 |.str _::xs,ns=>.str::CD xs ns
 |_::xs,n::ns=>.own n::CD xs ns
 |_::xs,[]=>.bool::CD xs []
def R5:aa V->aa Nat->aa (Nat×Rm)
 |.sl t o _ _::xs,n::ns=>(n,.sl t o)::R5 xs ns
 |_::xs,ns=>R5 xs ns
 |[],_=>[]
def R6:aa Gp->aa (Nat×Rm)->aa (Nat×Rm)
 |[],rs=>rs
 |(n,t,o,ns)::gs,rs=>(n,.blk (CD (VD t o) ns))::(R5 (VD t o) ns++R6 gs rs)
structure cc where
 ts:List (Nat×Tm)
 rs:List (Nat×Rm)
 gs:List Gp
def cc.St(C:cc):Type:=CB C.ts×FZ C.gs (vw C.rs)
def cc.mk'(C:cc)(x:C.St):S:=⟨vu C.ts x.1,K8 C.gs C.rs x.2⟩
def cc.La(C:cc)(σ:S):ah C.St:=match FX C.ts σ.t,K9 C.gs C.rs σ.m with
 |some x,some y=>some (x,y)
 |_,_=>none
def cc.rd(C:cc)(σ:S):ah C.St:=match C.La σ with
 |some x=>some x
 | none=>match iF.rd ⟨C.ts,R6 C.gs C.rs⟩ σ with
  |some z=>C.La (iF.mk' ⟨C.ts,R6 C.gs C.rs⟩ z)
  |none=>none
section
variable {P:Program} {w w':World} {w0:Wd} {B N:Nat} {lab ax:bg} {ρ ρ':Nat->Loc} {σ:S} {a:Act} {m:Nat->ah aM}
def jx.inv{x:V}{xs ys:aa V}(k:jx (x :: xs) ys):∃ y C,ys=y :: C/\Wk x y/\jx xs C:=by
 obtain⟨D,E⟩:=k;cases ys with
 |nil=>simp at D
 |cons y C=>exact⟨y,C,rfl,E 0 x y rfl rfl,by simpa using D,λj a b F hb=>E (j+1) a b (by simpa using F) (by simpa using hb)⟩
def Wk.YE{x y:V}(h:Wk x y)(C:x.plain=true):y=x:=by
 cases h<;>first|rfl|cases C
def Wk.YF{x y:V}(h:Wk x y)(C:x.plain=false):y.plain=false:=by
 cases h<;>first|exact C|rfl
def R7:∀ (cs:aa Lf) (ns:aa Nat) (C ys:aa V),jj m cs ns=some C -> jx C ys -> (vB ys ns).length=cs.length /\ ∀ (j:Nat) z,(vB ys ns)[j]?=some z -> cs[j]?=some z
 | [],[],C,ys,h,E=>by
  simp only[jj,gG]at h;subst h;have:ys=[]:=List.eq_nil_of_length_eq_zero E.1.symm;subst this;exact⟨rfl,λj z F=>by simp[vB]at F⟩
 | .v x :: cs,ns,C,ys,h,E=>by
  unfold jj at h;cases D:x.plain with
  |false=>simp_all
  | true=>
   rw[D,aj]at h;split at h
   ·rename_i us I;injection h with h;subst h;obtain⟨y,L,rfl,O,T⟩:=E.inv;obtain rfl:=O.YE D;obtain⟨U,Y⟩:=R7 cs ns us L I T;simp only[vB,D,aj]
    refine⟨by simp[U],λj z F=>?_⟩
    cases j with
    |zero=>simp_all
    |succ j=>simp_all
   ·cases h
 | .own [r] :: cs,n :: ns,C,ys,h,E=>by
  unfold jj at h;cases hb:Nat.beq r n with
  |false=>simp_all
  | true=>
   rw[hb,aj]at h;obtain rfl:=cv hb;split at h
   ·rename_i y hy;cases D:y.plain with
    |true=>simp_all
    | false=>
     rw[D,au]at h;split at h
     ·rename_i us I;injection h with h;subst h;obtain⟨y',L,rfl,O,T⟩:=E.inv;have Z:=O.YF D;obtain⟨U,Y⟩:=R7 cs ns us L I T;simp only[vB,Z,au]
      refine⟨by simp[U],λj z F=>?_⟩
      cases j with
      |zero=>simp_all
      |succ j=>simp_all
     ·cases h
   ·cases h
 |[],_::_,C,ys,h,_=>by simp[jj]at h
 |.dead::_,_,C,ys,h,_=>by simp[jj]at h
 |.own []::_,_,C,ys,h,_=>by simp[jj]at h
 |.own (_::_::_)::_,_,C,ys,h,_=>by simp[jj]at h
 |.own [_]::_,[],C,ys,h,_=>by simp[jj]at h
def R8{f:Nat -> ah aM}{k:Nat}{x:aM}:∀ (cs:aa Lf) (ns:aa Nat) (D ys:aa V),jj m cs ns=some D -> jx D ys -> Aj ys ns f k=some x -> f k=some x \/ ∃ v y,m k=some (.sl v)/\x = .sl y/\Wk v y
 | [],[],D,ys,h,F,C=>by
  simp only[jj,gG]at h;subst h;have:ys=[]:=List.eq_nil_of_length_eq_zero F.1.symm;subst this;exact .inl C
 | .v Y :: cs,ns,D,ys,h,F,C=>by
  unfold jj at h;cases E:Y.plain with
  |false=>simp_all
  | true=>
   rw[E,aj]at h;split at h
   next us I=>injection h with h;subst h;obtain⟨y,L,rfl,O,T⟩:=F.inv;obtain rfl:=O.YE E;simp[Aj,E]at C;exact R8 cs ns us L I T C
   ·cases h
 | .own [r] :: cs,n :: ns,D,ys,h,F,C=>by
  unfold jj at h;cases hb:Nat.beq r n with
  |false=>simp_all
  | true=>
   rw[hb,aj]at h;obtain rfl:=cv hb;split at h
   ·rename_i y hy;cases E:y.plain with
    |true=>simp_all
    | false=>
     rw[E,au]at h;split at h
     ·rename_i us I;injection h with h;subst h;obtain⟨y',L,rfl,O,T⟩:=F.inv;have Z:=O.YF E;simp only[Aj,Z,au]at C;cases U:Nat.beq k r with
      | true=>
       rw[U]at C;injection C with C;obtain rfl:=cv U
       grind
      | false=>
       rw[U]at C;exact R8 cs ns us L I T C
     ·cases h
   ·cases h
 |[],_::_,D,ys,h,_,_=>by simp[jj]at h
 |.dead::_,_,D,ys,h,_,_=>by simp[jj]at h
 |.own []::_,_,D,ys,h,_,_=>by simp[jj]at h
 |.own (_::_::_)::_,_,D,ys,h,_,_=>by simp[jj]at h
 |.own [_]::_,[],D,ys,h,_,_=>by simp[jj]at h
def YG:∀ (gs:aa Gp) (rs:aa (Nat×Rm)) (y:FZ gs (vw rs)),K9 gs rs m=some y -> ∀ k x,K8 gs rs y k=some x -> ∃ I,m k=some I /\ ∀ (w:World) (B:Nat) (lab:bg) (ρ:Nat -> Loc),dz w B lab ρ k I -> dz w B lab ρ k x
 | [],rs,y,h,k,x,C=>by
  have h:CC rs m=some y:=h;have C:vA rs y k=some x:=C;rcases R3 rs m y h k with e|⟨m',I,z,E,F,Z⟩
  ·simp_all
  ·rw[Z]at C;injection C with C;subst C;exact⟨I,E,λw B lab ρ D=>Rm.oC F D⟩
 | (n,t,o,ns) :: gs,rs,y,h,k,x,C=>by
  unfold K9 at h;split at h
  ·rename_i cs hm;split at h
   ·rename_i L U;split at h
    ·rename_i x1 y1 h1 h2;injection h with h;subst h;have Y:=jU t o L x1 h1;simp only[K8]at C;cases O:Nat.beq k n with
     | true=>
      rw[O,aj]at C;injection C with C;subst C;obtain rfl:=cv O;obtain⟨E,F⟩:=R7 cs ns L _ U Y
      refine⟨_,hm,λw B lab ρ D=>?_⟩
      cases D with
      |blk b off cells e _ us T hl hh hs hc=>exact .blk b off cells e _ us T hl hh (by rw[E];exact hs) λj z hz=>hc j z (F j z hz)
     | false=>
      rw[O,au]at C;rcases R8 cs ns L _ U Y C with e|⟨v,y',E,rfl,F⟩
      ·exact YG gs rs y1 h2 k x e
      ·refine⟨_,E,λw B lab ρ D=>?_⟩
       cases D with
       |sl u _ T D=>exact .sl u _ T (D.wk F)
    ·cases h
   ·cases h
  ·cases h
def cc.YH{C:cc}{x:C.St}(h:C.La σ=some x)(hR:R w0 N σ a w):R w0 N (C.mk' x) a w:=by
 unfold cc.La at h;split at h
 ·rename_i u v F I;injection h with h;subst h;obtain⟨lab,ρ,hR⟩:=hR
  refine⟨lab,ρ,hR.below,hR.cE,λn y L=>?_,λk=>?_,hR.size,hR.defers,hR.fix,hR.cY⟩
  ·obtain⟨O,D,E⟩:=YG C.gs C.rs v I n y L;exact E _ _ _ _ (hR.root n O D)
  ·show RA _ _ _ _ (vu C.ts u k) _;rcases R2 C.ts σ.t u F k with e | ⟨m,z,D,E⟩
   ·rw[e];trivial
   ·rw[E];exact Tm.oC D (hR.tmp k)
 ·cases h
def cc.oC{C:cc}{x:C.St}(h:C.rd σ=some x)(hR:R w0 N σ a w):R w0 N (C.mk' x) a w:=by
 unfold cc.rd at h;split at h
 next y D=>injection h with h;subst h;exact cc.YH D hR
 ·split at h
  next z E=>exact cc.YH h (iF.oC E hR)
  ·cases h
end
def xS:Exit->ah Nat
 |.normal=>some 0
 |.ret=>some 1
 |.exit n=>some (n+2)
 |_=>none
def R9:Nat->Exit
 |0=>.normal
 |1=>.ret
 |n+2=>.exit n
def qL{e:Exit}{n:Nat}(h:xS e=some n):e=R9 n:=by
 cases e<;>simp[xS]at h<;>subst h<;>rfl
def r6:aa (Nat×cc)->Type
 |[]=>Empty
 |(_,C)::r=>C.St⊕r6 r
def Lb:(l:aa (Nat×cc))->Nat->S->ah (r6 l)
 |[],_,_=>none
 | (n,C) :: r,e,σ=>bif Nat.beq n e then (match C.rd σ with
  |some x=>some (.inl x)
  |none=>none)else (match Lb r e σ with
  |some x=>some (.inr x)
  |none=>none)
def Sa{X:Type}:(l:aa (Nat×cc))->r6 l->(Exit->S->ah X)->ah X
 |[],z,_=>nomatch z
 | (n,C) :: r,z,k=>match z with
  |.inl x=>k (R9 n) (C.mk' x)
  |.inr z=>Sa r z k
def iter{α β:Type}(step:α->ah (α⊕β)):Nat->α->ah β
 |0,_=>none
 | n+1,x=>match step x with
  |some (.inl y)=>iter step n y
  |some (.inr z)=>some z
  |none=>none
def CE(P:Program)(N:Nat)(Φ:dG)(Λ:kP)(body:Code)(C:cc)(D:aa (Nat×cc))(x:C.St):ah (C.St⊕r6 D):=
 jH P N Φ Λ body (C.mk' x) λe σ=>match xS e with
  | some 0=>(match C.rd σ with
   |some x=>some (.inl x)
   |none=>none)
  | some n=>(match Lb D n σ with
   |some x=>some (.inr x)
   |none=>none)
  |none=>none
def Sb{X:Type}(id:Nat)(k:Exit->S->ah X)(e:Exit)(σ:S):ah X:=
 match e with
 |.exit C=>if C=id then k .normal σ else k (.exit C) σ
 |e=>k e σ
def Lc(id:Nat)(C:cc)(D:aa (Nat×cc))(F:C.St->ah (C.St⊕r6 D))(fuel:C.St->Nat):rZ:=
 ⟨λX σ k=>match C.rd σ with
  | some x=>(match iter F (fuel x) x with
   |some z=>Sa D z (Sb id k)
   |none=>none)
  |none=>none⟩
def jd:aa (Bool×TC)->Type
 |[]=>af
 |(_,t)::r=>T t×jd r
def fl:(l:aa (Bool×TC))->jd l->aa Pt
 |[],_=>[]
 |(b,t)::r,x=>(b,enc t 0 x.1)::fl r x.2
def vC:(l:aa (Bool×TC))->aa Pt->ah (jd l)
 |[],[]=>some ()
 | (b,t) :: r,(C,D) :: ps=>bif b==C then (match dec t 0 D,vC r ps with
  |some x,some xs=>some (x,xs)
  |_,_=>none)else none
 |_,_=>none
def jI(ai:aa (Bool×TC))(ro:aa (Bool×TC×Nat))(F:jd ai->ah (gT ro)):ji:=
 ⟨λX args k=>match vC ai args with
  | some x=>(match F x with
   |some y=>k (ek ro y)
   |none=>none)
  |none=>none⟩
def Sc:Pt->A
 |(false,[x])=>.lf (.v x)
 |(true,xs)=>.agg (xs.map .v)
 |(false,.bool true::c::cs)=>.ij (c::cs)
 |(false,.bool false::.int .i64 (.ofNat g)::c::cs)=>.lN g (c::cs)
 |_=>.undef
def YI(args:aa Pt):S:=⟨λk=>match args[k]? with
 |some p=>Sc p
 |none=>.undef,λ_=>none⟩
def Ak{X:Type}(P:Program)(N:Nat)(Φ:dG)(Λ:kP)(code:Code)(C:Array ResultVar)(args:aa Pt)(k:fq->ah X):ah X:=
 jH P N Φ Λ code (YI args) λe σ=>match xS e with
  |some 0=>EX P σ C k
  |some 1=>EX P σ C k
  |_=>none
section
variable {P:Program} {w w':World} {w0:Wd} {B N:Nat} {lab ax:bg} {ρ ρ':Nat->Loc} {σ:S} {a:Act} {X:Type} {d:Nat} {r:X} {o:Oper} {Φ:dG} {Λ:kP}
def YJ:∀ (l:aa (Nat×cc)) (e:Nat) (z:r6 l),Lb l e σ=some z->∀ (X:Type) (k:Exit->S->ah X),∃ D,Sa l z k=k (R9 e) D/\∀ a w,R w0 N σ a w->R w0 N D a w
 |[],e,z,h=>by cases h
 | (n,E) :: l,e,z,h=>by
  intro X k;unfold Lb at h;cases hb:Nat.beq n e with
  | true=>
   obtain rfl:=cv hb;rw[hb,aj]at h;split at h
   next x C=>injection h with h;subst h;exact⟨E.mk' x,rfl,λa w hR=>cc.oC C hR⟩
   ·cases h
  | false=>
   rw[hb,au]at h;split at h
   next x C=>injection h with h;subst h;exact YJ l e x C X k
   ·cases h
def aks{id:Nat}{body:Code}{E:cc}{T:aa (Nat×cc)}{F:E.St -> ah (E.St⊕r6 T)}{fuel:E.St -> Nat}(dH:fj P Φ)(r7:pN P N Λ (occs body))(hF:∀ x,CE P N Φ Λ body E T x=F x):Ab P N (.block id (.loop body)) (Lc id E T F fuel):=by
 intro X σ k r w0 h a w hR;simp only[Lc]at h;split at h
 ·rename_i x I;split at h
  ·rename_i z hz;refine wp_block ?_;have key:∀ (n:Nat) (x:E.St),iter F n x=some z -> ∀ (a:Act) (w:World),R w0 N (E.mk' x) a w -> ∀ (b:Frame) (L:aa Item) (cs:aa Frame),
     ∃e O w',Exit.inBlock id (λe O w'=>∃cN,k e cN=some r/\R w0 N cN O w') e O w'/\Arrives P (lone (b.at a (.code body::.inLoop body::L)) cs w) b L cs e O w':=by
    intro n
    induction n with
    |zero=>intro x I;simp[iter]at I
    | succ n ih=>
     intro x I a w hR b L cs;simp only[iter]at I;have jB:∃ y,CE P N Φ Λ body E T x=some y/\(match y with | .inl y=>iter F n y=some z | .inr z'=>z'=z):=by
      rw[hF];split at I
      ·grind
      ·grind
      ·cases I
     obtain⟨y,hy,U⟩:=jB;unfold CE at hy;have hwp:=CA (w0:=w0) dH body _ _ hy r7 a w hR;obtain⟨e,Z,w1,⟨oz,D,qE⟩,Y⟩:=hwp b (.inLoop body::L) cs;split at D
     ·rename_i C;have C:=qL C;subst C;split at D
      next x1 Qc=>injection D with D;subst D;obtain⟨e2,a2,w2,zB,akt⟩:=ih x1 U Z w1 (cc.oC Qc qE) b L cs;exact⟨e2,a2,w2,zB,.of_steps (Steps.trans Y (.one step_inLoop)) akt⟩
      ·cases D
     ·rename_i n' cS C;have C:=qL C;split at D
      ·rename_i z1 Sd;injection D with D;subst D;have U:z1=z:=U;subst U;obtain⟨σ2,lP,jD⟩:=YJ (w0:=w0) (N:=N) T n' z1 Sd X (Sb id k);rw[lP]at h;rw[<- C]at h;refine⟨e,Z,w1,?_,?_⟩
       ·cases e with
        | exit Yt=>
         simp only[Sb]at h;simp only[Exit.inBlock];split at h
         ·grind
         ·grind
        |_=>exact⟨σ2,h,jD Z w1 qE⟩
       ·refine .pass (x:=.inLoop body) rfl (λ_ _=>.inl ?_) Y
        intro e';rw[e']at C
        match n',cS,C with
        |0,cS,_=>exact cS rfl
        |1,_,C=>cases C
        |n+2,_,C=>cases C
      ·cases D
     ·cases D
   intro b L cs;obtain⟨e,O,w',hq,Y⟩:=key (fuel x) x hz a w (cc.oC I hR) b L cs;exact⟨e,O,w',hq,.of_steps (.one step_loop) Y⟩
  ·cases h
 ·cases h
def PV.rS{key:Nat->aa Nat}{b:Bool}{xs ys:aa V}{u:Value}(h:PV w B lab key (b,xs) u)(k:jx xs ys):PV w B lab key (b,ys) u:=by
 obtain⟨us,E,F,I⟩:=h
 refine⟨us,E,F.trans k.1,λj y C=>?_⟩
 have D:j<xs.length:=by rw[k.1];exact(de.1 C).1
 obtain⟨v,L,O⟩:=I j _ (bQ D);exact⟨v,L,O.wk (k.2 j _ y (bQ D) C)⟩
def xb.rS{cs C:aa V}{u:Value}(h:xb w cs u)(k:jx cs C):xb w C u:=by
 obtain⟨b,off,F,hb,I⟩:=h
 refine⟨b,off,F,hb,λj y D=>?_⟩
 have E:j<cs.length:=by rw[k.1];exact(de.1 D).1
 obtain⟨v,L,O⟩:=I j _ (bQ E);exact⟨v,L,O.wk (k.2 j _ y (bQ E) D)⟩
def PA.rS{b:Bool}{xs ys:aa V}{u:Value}(h:PA w (b,xs) u)(k:jx xs ys):PA w (b,ys) u:=by
 cases h with
 |v _ _ h=>exact .v _ _ (h.rS k)
 | p c cs _ h=>
  obtain⟨y,E,rfl,C,D⟩:=k.inv;cases C;have h:=h.rS D;obtain⟨I,eo,rfl,_,_⟩:=D.inv;exact .p _ _ _ h
 | f g c cs u h=>
  obtain⟨y,E,rfl,C,D⟩:=k.inv;cases C;obtain⟨y,E,rfl,C,F⟩:=D.inv;cases C;have h:=h.rS F;obtain⟨I,eo,rfl,_,_⟩:=F.inv;exact .f _ _ _ _ h
def PA.ra{p:Pt}{u:Value}(h:PA w p u)(D:∀ y∈p.2,y.aF=true):RA w w.heap.size (λ_=>none) ρ (Sc p) u:=by
 have O:∀ {cs:aa V} {u:Value},xb w cs u -> (∀ y∈cs,y.aF=true) -> RF w w.heap.size (λ_=>none) cs u:=by
  rintro cs u ⟨b,off,rfl,hb,E⟩ D
  refine⟨b,off,rfl,hb,rfl,λj x T=>⟨D x (fP T),E j x T⟩⟩
 cases h with
 | v _ _ h=>
  obtain⟨us,U,Y,E⟩:=h;obtain⟨b,xs⟩:=p;cases b with
  | true=>
   refine⟨us,U,by rw[eE];exact Y,λi y C=>?_⟩
   rw[dI]at C;cases F:xs[i]? with
   |none=>simp_all
   | some z=>
    rw[F]at C;injection C with C;subst C;obtain⟨v,I,L⟩:=E i z F;exact⟨v,I,D z (fP F),L⟩
  | false=>
   subst U;have Z:=Y.symm;obtain⟨x,rfl⟩:=List.length_eq_one_iff.1 Z;obtain⟨v,I,L⟩:=E 0 x rfl;have:u=v:=by simpa using I
   subst this;exact⟨D x (by simp),L⟩
 |p c cs _ h=>exact O h λy C=>D y (.tail _ C)
 |f g c cs u h=>exact⟨u,rfl,O h λy C=>D y (.tail _ (.tail _ C))⟩
def Se:∀ (l:aa (Bool×TC)) (ps:aa Pt) (x:jd l),vC l ps=some x -> (fl l x).length=ps.length /\ ∀ (i:Nat) p,(fl l x)[i]?=some p -> ∃ q,ps[i]?=some q/\q.1=p.1/\jx q.2 p.2
 |[],[],x,h=>⟨rfl,λi p C=>by simp[fl]at C⟩
 | (b,t) :: r,(D,E) :: ps,x,h=>by
  unfold vC at h;cases hb:b==D with
  |false=>simp_all
  | true=>
   rw[hb,aj]at h;have hb:b=D:=by simpa using hb
   subst hb;split at h
   ·rename_i y ys F I;injection h with h;subst h;obtain⟨L,O⟩:=Se r ps ys I
    refine⟨by simp[fl,L],λi p C=>?_⟩
    cases i with
    |zero=>simp[fl]at C;subst C;exact⟨(b,E),rfl,rfl,jU t 0 E y F⟩
    |succ i=>exact O i p (by simpa [fl]using C)
   ·cases h
 |[],_::_,x,h=>by simp[vC]at h
 |_::_,[],x,h=>by simp[vC]at h
def mI(l:aa (Bool×TC×Nat)):Bool:=l.all λp=>Nat.ble (full p.2.1) p.2.2
def YK(t:TC)(g:Nat)(x:T t)(h:full t <= g):(enc t g x).all V.loc=true:=by
 rw[bW];intro y D;have E:=wN t g x y D;have hl:=Jx t g x y D;cases y with
 | sl F C q l=>
  have I:C=g:=by simpa [V.gr]using E
  subst I;have hl:=cr hl;show xd F C=true
  match C,h with
  |0,h=>omega
  |1,h=>omega
  | n+2,h=>
   simp only[xd,dA];left;exact gP (by omega)
 |_=>rfl
def Sf:∀ (l:aa (Bool×TC×Nat)) (ps:aa Pt) (x:gT l),mI l=true -> ow l ps=some x -> (rN l x).length=ps.length /\ ∀ (nm:Nat -> Nat) (off:Nat) (C:aa Value),iN w B lab nm off ps C -> iN w B lab nm off (rN l x) C
 |[],[],x,_,h=>⟨rfl,λnm off C D=>D⟩
 | [(b,t,g)],[(E,C)],x,I,h=>by
  unfold ow at h;cases hb:b==E with
  |false=>rw[hb]at h;cases h
  | true=>
   rw[hb]at h;have h:dec t g C=some x:=h;have hb:b=E:=by simpa using hb
   subst hb;have O:full t <= g:=by simpa [mI]using I
   refine⟨rfl,λnm off us D=>?_⟩
   match us,D with
   |[u],⟨⟨_,F⟩,_⟩=>exact⟨⟨YK t g x O,F.rS (jU t g C x h)⟩,trivial⟩
 | (b,t,g) :: q :: r,(E,C) :: ps,x,I,h=>by
  unfold ow at h;cases hb:b==E with
  |false=>grind
  | true=>
   rw[hb,aj]at h;have hb:b=E:=by simpa using hb
   subst hb;have L:full t <= g/\mI (q :: r)=true:=by
    simp only[mI,List.all_cons,aH]at I ⊢;simp_all
   split at h
   ·rename_i y ys F T;injection h with h;subst h;obtain⟨U,Z⟩:=Sf (q :: r) ps ys L.2 T
    refine⟨by simp[rN,U],λnm off us D=>?_⟩
    match us,D with
    | u :: us,⟨⟨_,Y⟩,ES⟩=>
     have hlen:=(jU t g C y F).1;refine⟨⟨YK t g y L.1,Y.rS (jU t g C y F)⟩,?_⟩;simp_all
   ·cases h
 |[],_::_,x,_,h=>by simp[ow]at h
 |[_],[],x,_,h=>by simp[ow]at h
 |[_],_::_::_,x,_,h=>by simp[ow]at h
 |_::_::_,[],x,_,h=>by simp[ow]at h
def YL{l:aa (Bool×TC×Nat)}{E:fq}{x:gT l}(I:mI l=true)(h:qB l E=some x){nm:Nat -> Nat}{v:Value}(D:mz w B lab nm E v):mz w B lab nm (ek l x) v:=by
 cases E with
 | one p=>
  obtain⟨C,F⟩:=Sf (w:=w) (B:=B) (lab:=lab) l [p] x I h;have D:iN w B lab nm 0 [p] [v]:=D;have:=F nm 0 [v] D;unfold ek
  match hm:rN l x,C,this with
  |[q],_,this=>exact this
  |[],C,_=>cases C
  |_::_::_,C,_=>simp at C
 | ez ps=>
  simp only[qB]at h;cases hb:Nat.beq ps.length 1 with
  |true=>simp_all
  | false=>
   rw[hb,au]at h;obtain⟨C,F⟩:=Sf (w:=w) (B:=B) (lab:=lab) l ps x I h;obtain⟨L,e,D⟩:=D;have:=F nm 0 _ D;unfold ek
   match hm:rN l x,C,this with
   |[q],C,this=>simp_all
   |[],_,this=>exact⟨L,e,this⟩
   |_::_::_,_,this=>exact⟨L,e,this⟩
def YM:∀ (l:aa (Bool×TC)) (x:jd l),(fl l x).length=l.length
 |[],x=>rfl
 |(b,t)::l,x=>by simp[fl,YM l]
def YN:∀ (l:aa (Bool×TC)) (x:jd l) (j:Nat) (p:Pt),(fl l x)[j]?=some p->∀ y∈p.2,y.aF=true
 |[],x,j,p,C,_,_=>by simp[fl]at C
 | (b,t) :: l,x,0,p,C,y,D=>by
  simp[fl]at C;subst C;obtain⟨i,hi⟩:=List.mem_iff_getElem?.1 D;exact oh t 0 x.1 (by omega) i y hi
 |(b,t)::l,x,j+1,p,C,y,D=>YN l x.2 j p (by simpa [fl]using C) y D
def aku{f:Nat}{fn:Func}{code:Code}{E:aa Pt}{ro:aa (Bool×TC×Nat)}{y:gT ro}(hf:P.funcs[f]?=some fn)(hb:fn.body=some code)(hN:fn.ntmps=N)(O:E.length <= N)(eM:mI ro=true)
  (dH:fj P Φ) (r7:pN P N Λ (occs code)) (akv:∀(j:Nat) p,E[j]?=some p -> ∀y∈p.2,y.aF=true) (I:Ak P N Φ Λ code fn.results E (qB ro)=some y) (nm:Nat -> Nat) (w:World) (bB:Array Value) (T:pn w E bB) (U:Hd w (λ_=>none)):
  Calls P f bB w λe w'=>∃v ax,e = .returned v/\Below w.heap.size w w'/\(∀b k,ax b=some k -> w.heap.size <= b/\b<w'.heap.size/\k≠[])/\mz w' w.heap.size ax nm (ek ro y) v:=by
 have O:bB.size <= N:=by rw[T.1];exact O
 refine calls_of_wp hf hb ?_;unfold Ak at I;have hR:R (.of w U) N (YI E) { tmps:=bB++Array.replicate (fn.ntmps-bB.size) undef,defers:=[] } w:=by
  refine⟨λ_=>none,λ_=>.blk 0 0,.of (Below.refl w.heap.size w) (c9 _),(λb k D=>by cases D),(λn y I=>by cases I),λj=>?_,by simp[hN];omega,rfl,(λr l h=>by cases h),(λ_ _=>rfl)⟩
  show RA w w.heap.size _ _ (match E[j]? with|some p=>Sc p|none=>.undef) _;cases Y:E[j]? with
  |none=>trivial
  | some p=>
   obtain⟨u,Z,tv⟩:=T.2 j p Y;have hj:=(gD.1 Z).1;have e:(bB++Array.replicate (fn.ntmps-bB.size) undef).getD j undef=u:=by rw[gw,Array.getElem?_append_left hj,Z];rfl
   rw[e];exact tv.ra (akv j p Y)
 refine wp_mono (CA (w0:=.of w U) dH code _ _ I r7 _ w hR) λe L w' C=>?_
 obtain⟨cN,D,lab,ρ,F⟩:=C;have fin:EX P cN fn.results (qB ro)=some y -> L.defers=[] /\ ∃ v,(results fn L.tmps).run P w' = .ok v w' /\ ∃ xT ax,Ending.returned v=Ending.returned xT/\Below w.heap.size w w'/\(∀ b k,ax b=some k -> w.heap.size <= b/\b<w'.heap.size/\k≠[])/\mz w' w.heap.size ax nm (ek ro y) xT:=by
  intro Sg;obtain⟨res,iZ,dZ⟩:=ahw Sg;obtain⟨v,ax,h1,h2,h3⟩:=dZ lab ρ L w' F nm;exact⟨F.defers,v,h1,v,ax,rfl,⟨F.below.os,F.below.tape,F.below.output,F.below.size,λk D=>F.below.block k D rfl⟩,λb k hb=>⟨(h2 b k hb).1.resolve_right (λh=>h rfl),(h2 b k hb).2⟩,YL eM iZ h3⟩
 split at D
 next C=>have C:=qL C;subst C;exact fin D
 next C=>have C:=qL C;subst C;exact fin D
 ·cases D
def akw{ai:aa (Bool×TC)}{args:aa Pt}{x:jd ai}{bB:Array Value}(E:vC ai args=some x)(C:pn w args bB):pn w (fl ai x) bB:=by
 obtain⟨F,I⟩:=Se ai args x E
 refine⟨C.1.trans F.symm,λj p L=>?_⟩
 obtain⟨q,O,D,T⟩:=I j p L;obtain⟨u,U,Y⟩:=C.2 j q O;refine⟨u,U,?_⟩;obtain⟨b,ys⟩:=p;obtain⟨Z,xs⟩:=q;simp only at D;subst D;exact Y.rS T
def Sh{f:Nat}{ai:aa (Bool×TC)}{ro:aa (Bool×TC×Nat)}{F:jd ai->ah (gT ro)}(h:∀ x y,F x=some y->∀ (nm:Nat->Nat) (w:World) (bB:Array Value),pn w (fl ai x) bB->Hd w (λ_=>none)->
  Calls P f bB w λe w'=>∃v ax,e = .returned v/\Below w.heap.size w w'/\(∀b k,ax b=some k->w.heap.size<=b/\b<w'.heap.size/\k≠[])/\mz w' w.heap.size ax nm (ek ro y) v):iY P f (jI ai ro F):=by
 refine⟨λargs X Y k g=>?_,λargs O C nm w bB D E=>?_⟩
 ·unfold jI;dsimp only;split
  ·split<;>rfl
  ·rfl
 ·simp only[jI]at C;split at C
  ·rename_i x I;split at C
   next y L=>injection C with C;subst C;exact h x y L nm w bB (akw I D) E
   ·cases C
  ·cases C
def akx{f:Nat}{fn:Func}{code:Code}{ai:aa (Bool×TC)}{ro:aa (Bool×TC×Nat)}{F:jd ai->ah (gT ro)}(C:P.funcs[f]?=some fn)(hb:fn.body=some code)(D:fn.ntmps=N)(E:(fn.name == "runtime.NumGoroutine")=false)(I:Nat.ble ai.length N=true)(L:mI ro=true)
  (O:fj P Φ) (T:pN P N Λ (occs code)) (U:∀x,Ak P N Φ Λ code fn.results (fl ai x) (qB ro)=F x):enters P f/\iY P f (jI ai ro F):=
 ⟨⟨fn,C,E,by rw[hb];rfl⟩,Sh λx y Y nm w bB Z hQ=>aku C hb D (by rw[YM];exact cr I) L O T (YN ai x) ((U x).trans Y) nm w bB Z hQ⟩
end
def F0(N:Nat)(σ:S)(t:Nat):S:=match σ.t t with
 | .view [q] s 0 j=>bif Nat.blt t N then (match σ.m q with
  |some (.sl (.sl C (o+2) D l))=>bif Nat.beq (full C) 0 then (((σ.drop q).drop t).root t (.sl (.sl C 2 false (l.take j)))).set t (.lf (.own [t]))else σ
  |_=>σ)else σ
 |_=>σ
def tH(N:Nat)(σ:S):aa ResultVar->S
 |[]=>σ
 |.tmp t::r=>tH N (F0 N σ t) r
 |_::r=>tH N σ r
def Al{X:Type}(P:Program)(N:Nat)(Φ:dG)(Λ:kP)(code:Code)(C:Array ResultVar)(D:aa In)(args:aa Ar)(k:aa In->fq->ah X):ah X:=
 jH P N Φ Λ code (vb D args) λe σ=>match xS e with
  |some 0=>E3 P (tH N σ C.toList) C D k
  |some 1=>E3 P (tH N σ C.toList) C D k
  |_=>none
section
variable {P:Program} {w w':World} {w0:Wd} {B N:Nat} {lab ax:bg} {ρ ρ':Nat->Loc} {σ:S} {a:Act} {X:Type} {d:Nat} {r:X} {o:Oper} {Φ:dG} {Λ:kP}
def Rl.F0{t:Nat}(h:Rl w0 N lab ρ σ a w):∃ ax ρ',Rl w0 N ax ρ' (Proofs.YthmgjjfedieljaaGreatDoor.F0 N σ t) a w:=by
 unfold Proofs.YthmgjjfedieljaaGreatDoor.F0;split
 ·rename_i q s j ht;cases Z:Nat.blt t N with
  |false=>exact⟨lab,ρ,h⟩
  | true=>
   have Z:t<N:=by have:=cr Z;omega
   rw[aj];split
   ·rename_i E g qn l hm;cases T:Nat.beq (full E) 0 with
    |false=>exact⟨lab,ρ,h⟩
    | true=>
     have T:=cv T;rw[aj];have hv:=h.tmp t;rw[ht]at hv;obtain⟨A,n,c,U,_,hj,hu⟩:=hv;have fo:sliced A 0 j c s = .slice A j c:=by cases A<;>simp[sliced,Addr.add]
     rw[fo]at hu;let D:bg:=λb=>match lab b with
      |some k=>bif cF q k then (bif Nat.beq k.length 1 then some [t]else none)else some k
      |none=>none
     have hrel:Rel q lab D:=⟨h.uP,λb hb=>by simp[D,hb],λb k hb C=>by simp[D,hb,C]⟩
     have h1:=h.rel hrel (λb k C=>by
      simp only[D]at C;cases hl:lab b with
      |none=>rw[hl]at C;cases C
      | some k'=>
       rw[hl]at C;simp only at C;refine⟨⟨_,rfl⟩,?_⟩;cases hq:cF q k' with
       | true=>
        rw[hq,aj]at C;cases hlen:Nat.beq k'.length 1 with
        |true=>rw[hlen,aj]at C;injection C with C;rw[<- C];simp
        |false=>rw[hlen,au]at C;cases C
       | false=>
        rw[hq,au]at C;injection C with C;subst C;exact(h.cE b k' hl).2.2)
     have eM:=h.root q _ hm;generalize I:aM.sl (.sl E (g+2) qn l)=z at eM;cases eM with
     |blk=>cases I
     |mp=>cases I
     |gh=>cases I
     | sl v y cD L=>
      injection I with I;subst I;simp only[cC,cD]at U;injection U with U;subst U;have hn:n=l.length:=by cases L<;>rfl
      have QD:RV w w0.heap.size D [t] (.sl E 2 false (l.take j)) (.slice A j c):=by
       cases L with
       | dN=>
        have:j=0:=by simpa using hj
        subst this;exact .dN _ _ _
       |eX _ _ _ _ _ ho=>omega
       |fB _ _ _ _ _ ho=>omega
       |aF _ _ _ _ _ _ _ _ _ ho=>omega
       | own _ _ _ _ _ b cap cs us ot hh hs wW qm hc L=>
        have hl:(l.take j).length=j:=by rw[fX];omega
        have hle:∀i (hi:i<(l.take j).length),∃Y:i<l.length,(l.take j)[i]=l[i]:=λi hi=>⟨by omega,List.getElem_take⟩
        have:=RV.own (w:=w) (B:=w0.heap.size) (lab:=D) [t] E 0 false (l.take j) b c cs us (by simp[D,ot,cF]) hh hs (by omega) ⟨qm.1,λh=>by cases h⟩ (λi hi k x O=>by
         obtain⟨Y,e⟩:=hle i hi;rw[e,BY E T 0]at O;exact hc i Y k x O) (λi hi k x O=>by
         obtain⟨Y,e⟩:=hle i hi;rw[e,BY E T 0]at O;exact(L i Y k x O).rz (wM E g _ T x (fP O)))
        rw[hl]at this;exact this
      have hrm:BW w w D D t:=⟨c9 _,λ_ _ _=>rfl,λ_ _=>rfl,h1.uP⟩
      have F:=h1.s6 (d:=t) (ρ':=bE ρ t (.cO (.slice A j c))) (x:=.sl (.sl E 2 false (l.take j))) (h.cY t (.inl Z)) ⟨rfl,rfl,rfl,c9 _,λ_ _ _=>rfl⟩ hrm (λb k hb C=>by
       have:=(h1.cE b k C).2.1;omega) (λr L=>bZ _ _ _ L) (.sl _ _ (bF _ _ _) QD)
      refine⟨_,_,F.below,F.cE,F.root,λk=>?_,F.size,F.defers,F.fix,F.cY⟩
      show RA w w0.heap.size D _ (bE _ t _ k) _;by_cases C:k=t
      ·subst C;rw[bF,hu];exact⟨rfl,by simp only[cC,bF]⟩
      ·rw[bZ _ _ _ C];exact F.tmp k
   ·exact⟨lab,ρ,h⟩
 ·exact⟨lab,ρ,h⟩
def Rl.tH:∀ (l:aa ResultVar) (σ:S) (lab:bg) (ρ:Nat -> Loc),Rl w0 N lab ρ σ a w -> ∃ ax ρ',Rl w0 N ax ρ' (Proofs.YthmgjjfedieljaaGreatDoor.tH N σ l) a w
 |[],_,lab,ρ,h=>⟨lab,ρ,h⟩
 | .tmp t :: r,_,_,_,h=>by
  obtain⟨C,D,E⟩:=h.F0;exact Rl.tH r _ C D E
 |.cell _ _::r,_,lab,ρ,h=>Rl.tH r _ lab ρ h
def fnM_core{f:Nat}{fn:Func}{code:Code}{C:aa In}{args:aa Ar}{k:aa In -> fq -> ah X}(hf:P.funcs[f]?=some fn)(hb:fn.body=some code)(hN:fn.ntmps=N)(CF:N <= 20000)(hlen:args.length <= N)
  (dH:fj P Φ) (r7:pN P N Λ (occs code)) (h:Al P N Φ Λ code fn.results C args k=some r) (nm:Nat -> Nat) (w:World) (lab:bg) (ρ:Nat -> Loc) (bB:Array Value)
  (Z:nR w w.heap.size lab ρ 0 C) (mD:∀b k,lab b=some k -> b<w.heap.size/\k≠[]) (hsz:bB.size=args.length) (hv:∀i,RA w w.heap.size lab ρ ((vb C args).t i) (bB.getD i undef)) (O:Hd w lab):
  Calls P f bB w λe w'=>∃v ax outs D,k outs D=some r/\e = .returned v/\gQ ⟨w,lab,λ_=>none,O,λ_ _=>rfl⟩ w w'/\(∀b k,ax b=some k -> (w.heap.size <= b \/ lab b≠none)/\b<w'.heap.size/\k≠[])/\mz w' w.heap.size ax nm D v/\pF w w' ax ρ nm 0 D.len C outs:=by
 let W:Wd:=⟨w,lab,λr=>if 20000 <= r/\r<60000 then some (ρ r)else none,O,λr hr=>bx⟩
 refine calls_of_wp hf hb ?_;unfold Al at h;have hR:R W N (vb C args) { tmps:=bB++Array.replicate (fn.ntmps-bB.size) undef,defers:=[] } w:=by
  refine⟨lab,ρ,.of (Below.refl w.heap.size w) (c9 _),λb k hb=>⟨.inr (by rw[show W.L b=lab b from rfl,hb];simp),mD b k hb⟩,nR.roots C 0 _ Z (λr x hx=>by cases hx),λj=>?_,by simp[hN];omega,rfl,λr l hr=>?_,λr hr=>?_⟩
  ·by_cases hj:j<bB.size
   ·have e:(bB++Array.replicate (fn.ntmps-bB.size) undef).getD j undef=bB.getD j undef:=by
     rw[gw,Array.getElem?_append_left hj,gw]
    rw[e];exact hv j
   ·have e:(vb C args).t j = .undef:=by
     simp only[vb,List.getElem?_eq_none (by omega:args.length <= j)]
    rw[e];trivial
  ·grind
  ·grind
 refine wp_mono (CA (w0:=W) dH code _ _ h r7 _ w hR) λe T w' E=>?_
 obtain⟨cN,I,Cc,Ca,F⟩:=E;have fin:E3 P (Proofs.YthmgjjfedieljaaGreatDoor.tH N cN fn.results.toList) fn.results C k=some r -> T.defers=[] /\ ∃ v,(results fn T.tmps).run P w' = .ok v w' /\ ∃ xT ax outs D,k outs D=some r/\Ending.returned v=Ending.returned xT/\gQ ⟨w,lab,λ_=>none,O,λ_ _=>rfl⟩ w w'/\(∀ b k,ax b=some k -> (w.heap.size <= b \/ lab b≠none)/\b<w'.heap.size/\k≠[])/\mz w' w.heap.size ax nm D xT/\pF w w' ax ρ nm 0 D.len C outs:=by
  intro Sg;obtain⟨outs,D,hko,dZ⟩:=ahy (w0:=W) rfl (λr U Y=>bJ ⟨U,Y⟩) (nR.xm C 0 Z) Sg;obtain⟨cT,eB,jD⟩:=Rl.tH _ cN Cc Ca F;obtain⟨v,ax,U,Y,h3,h4⟩:=dZ cT eB T w' jD nm;exact⟨F.defers,v,U,v,ax,outs,D,hko,rfl,⟨F.below.os,F.below.tape,F.below.output,F.below.size,λk I=>F.below.block k I⟩,Y,h3,h4⟩
 split at I
 next E=>have E:=qL E;subst E;exact fin I
 next E=>have E:=qL E;subst E;exact fin I
 ·cases I
end
def pU:(l:aa (Bool×TC×Nat))->aa In->ah (pG l)
 |[],[]=>some ()
 | (true,t,g) :: r,.blk cs :: is=>match dec t g cs,pU r is with
  |some x,some xs=>some (x,xs)
  |_,_=>none
 | (false,t,g) :: r,.sl y :: is=>match (bif Nat.ble 1000000 g then (bif y.iW then none else y.eF t (g+2))else bif y.iW then y.eF t (g+2)else none),pU r is with
  |some x,some xs=>some (x,xs)
  |_,_=>none
 |_,_=>none
def Ld:aa In->aa In->aa In->Prop
 |[],[],[]=>True
 |.blk F::C,.blk cs::r,.blk eo::D=>(jx cs eo/\F.map (λv=>(v.plain,v.aF))=eo.map (λv=>(v.plain,v.aF))/\∀x∈eo,x.iW=true)/\Ld C r D
 |.sl _::C,.sl y::r,.sl E::D=>(Wk y E/\(y = .nil->E = .nil))/\Ld C r D
 |_,_,_=>False
def Le:∀ (ps:aa PK) (C:jE ps) (is:aa In) (x:pG (dP ps)),pU (dP ps) is=some x -> Ld (lU ps C) is (gU (dP ps) x)
 |[],_,[],x,_=>trivial
 |[],_,_::_,x,h=>by simp[pU,dP]at h
 |.v b t::ps,C,is,x,h=>Le ps C.2 is x h
 |.p t g off::ps,C,[],x,h=>by simp[pU,dP]at h
 |.s t g::ps,C,[],x,h=>by simp[pU,dP]at h
 |.p t g off::ps,C,.sl _::_,x,h=>by simp[pU,dP]at h
 |.s t g::ps,C,.blk _::_,x,h=>by simp[pU,dP]at h
 | .p t g off :: ps,C,.blk cs :: is,x,h=>by
  have h:pU ((true,t,g)::dP ps) (.blk cs::is)=some x:=h;unfold pU at h;split at h
  next y ys D F=>injection h with h;subst h;exact⟨⟨jU t g cs y D,agE t g C.1 y,λz I=>OS t g y z I⟩,Le ps C.2 is ys F⟩
  ·cases h
 | .s t g :: ps,C,.sl y :: is,x,h=>by
  have h:pU ((false,t,g)::dP ps) (.sl y::is)=some x:=h;unfold pU at h;split at h
  ·rename_i z L D F;injection h with h;subst h;refine⟨?_,Le ps C.2 is L F⟩;cases hb:Nat.ble 1000000 g with
   | true=>
    cases E:y.iW with
    |true=>simp_all
    | false=>
     have:y = .nil:=by cases y<;>first|rfl|cases E
     subst this;exact⟨.same _,λ_=>rfl⟩
   | false=>
    cases E:y.iW with
    |false=>simp_all
    | true=>
     rw[hb,E]at D;exact⟨V.Em D,λe=>by subst e;cases E⟩
  ·cases h
def pF.typed{w w':World}{ax:bg}{ρ:Nat -> Loc}{nm:Nat -> Nat}:∀ (E:aa In) (i T:Nat) (outs L:aa In),pF w w' ax ρ nm i T E outs -> Ld E outs L -> E2 w w' ax ρ nm i T E L
 |[],i,T,[],[],h,C=>trivial
 | .blk YO :: E,i,T,.blk YP :: outs,.blk cs2 :: L,h,C=>by
  obtain⟨⟨b,off,cells,vc,e,e',U,Y,h3,h4,h5,h6,h7⟩,Z⟩:=h;obtain⟨⟨O,hsh,hnn⟩,nO⟩:=C
  refine⟨⟨b,off,cells,vc,e,e',U,Y,h3,h4,by rw[<- O.1];exact h5,by rw[<- O.1];exact h6,λj x hx=>?_⟩,pF.typed E _ _ outs L Z nO⟩
  have hj:j<YP.length:=by rw[O.1];exact(de.1 hx).1
  obtain⟨u,hu,hc⟩:=h7 j _ (bQ hj);have C:=O.2 j _ x (bQ hj) hx;have Si:∀ F,YO[j]?=some F -> F.plain=x.plain/\F.aF=x.aF:=by
   intro F h0;have e1:(YO.map (λv=>(v.plain,v.aF)))[j]?=(cs2.map (λv=>(v.plain,v.aF)))[j]?:=by rw[hsh]
   grind
  have hxn:=hnn x (fP hx);generalize YP[j]=y at hc C;refine⟨u,hu,?_⟩;rcases hc with ⟨D,I⟩|⟨D,I,F,c3,c4⟩|⟨D,I,c6,⟨F,c3,c4⟩,c5⟩|⟨D,I⟩
  ·cases C with
   |same=>grind
   |nil t o=>cases D
   |q t o l=>cases D
   |gr=>cases D
  ·subst D I;have hf:x.aF=false:=by rw[<- (Si F c3).2];exact c4
   cases C with
   |same=>cases hxn
   |nil t o=>exact .inr (.inr ⟨hf,.dN _ _ _⟩)
  ·cases C with
   |same=>grind
   |nil t o=>cases c6
   |q t o l=>exact .inr (.inl ⟨rfl,I,c5⟩)
   |gr t o o' qn l U Y=>simp[V.aF]at I;omega
  ·have hf:=C.P9 D;exact .inr (.inr ⟨hf,I.wk C⟩)
 | .sl y0 :: E,i,T,.sl y1 :: outs,.sl y2 :: L,h,C=>by
  obtain⟨h,Z⟩:=h;obtain⟨⟨O,hn⟩,nO⟩:=C;exact⟨h.imp hn (λ⟨v,U,Y⟩=>⟨v,U,Y.wk O⟩),pF.typed E _ _ outs L Z nO⟩
 |[],_,_,_::_,_,h,_=>h.elim
 |[],_,_,[],_::_,_,h=>h.elim
 |.blk _::_,_,_,[],_,h,_=>h.elim
 |.sl _::_,_,_,[],_,h,_=>h.elim
 |.blk _::_,_,_,.sl _::_,_,h,_=>h.elim
 |.sl _::_,_,_,.blk _::_,_,h,_=>h.elim
 |.blk _::_,_,_,.blk _::_,[],_,h=>h.elim
 |.blk _::_,_,_,.blk _::_,.sl _::_,_,h=>h.elim
 |.sl _::_,_,_,.sl _::_,[],_,h=>h.elim
 |.sl _::_,_,_,.sl _::_,.blk _::_,_,h=>h.elim
def YQ:∀ (l:aa (Bool×TC×Nat)) (ps:aa Pt) (x:gT l),ow l ps=some x -> (ps.map λp=>p.2.length)=((rN l x).map λp=>p.2.length)
 |[],[],x,h=>rfl
 | [(b,t,g)],[(C,D)],x,h=>by
  unfold ow at h;cases hb:b==C with
  |false=>rw[hb]at h;cases h
  | true=>
   rw[hb]at h;simp[rN,(jU t g D x h).1]
 | (b,t,g) :: q :: r,(C,D) :: ps,x,h=>by
  unfold ow at h;cases hb:b==C with
  |false=>simp_all
  | true=>
   rw[hb]at h;split at h
   next y ys E F=>injection h with h;subst h;simp only[rN,List.map_cons];rw[YQ _ ps ys F,(jU t g D y E).1]
   ·cases h
def aky{l:aa (Bool×TC×Nat)}{C:fq}{x:gT l}(h:qB l C=some x):C.len=(ek l x).len:=by
 have key:∀ ps,ow l ps=some x -> (ps.map λp=>p.2.length).sum=(ek l x).len:=by
  intro ps h;rw[YQ l ps x h];unfold ek
  match hm:rN l x with
  |[q]=>simp[fq.len]
  |[]=>rfl
  |_::_::_=>rfl
 cases C with
 |one p=>have:=key [p] h;simpa [fq.len]using this
 | ez ps=>
  simp only[qB]at h;cases hb:Nat.beq ps.length 1 with
  |true=>simp_all
  |false=>rw[hb]at h;exact key ps h
section
variable {P:Program} {w w':World} {w0:Wd} {B N:Nat} {lab ax:bg} {ρ ρ':Nat->Loc} {σ:S} {a:Act} {X:Type} {d:Nat} {r:X} {o:Oper} {Φ:dG} {Λ:kP}
def CG(l ro:aa (Bool×TC×Nat))(outs:aa In)(C:fq):ah (gT ro×pG l):=
 match qB ro C,pU l outs with
 |some x,some y=>some (x,y)
 |_,_=>none
def Lg{f:Nat}{fn:Func}{code:Code}{ps:aa PK}{ro:aa (Bool×TC×Nat)}{F:jE ps->ah (gT ro×pG (dP ps))}(I:P.funcs[f]?=some fn)(hb:fn.body=some code)(O:fn.ntmps=N)(T:(fn.name == "runtime.NumGoroutine")=false)(U:Nat.ble ps.length N=true)(Y:Nat.ble N 20000=true)(Z:mI ro=true)
  (dH:fj P Φ) (r7:pN P N Λ (occs code)) (hF:∀x,Al P N Φ Λ code fn.results (lU ps x) (ja ps 0 x) (CG (dP ps) ro)=F x):enters P f/\th P f ⟨ps,ro,F⟩:=by
 refine⟨⟨fn,I,T,by rw[hb];rfl⟩,λx y h nm w lab ρ bB hE mD D hv hQ=>?_⟩
 have h:F x=some y:=h;rw[<-hF x]at h;have hlen:∀ (ps:aa PK) (i:Nat) (x:jE ps),(ja ps i x).length=ps.length:=by
  intro ps
  induction ps with
  |nil=>intro i x;rfl
  | cons p ps E=>
   intro i x;cases p with
   |v=>exact bu (· + 1) (E _ _)
   |p=>exact bu (· + 1) (E _ _)
   |s=>exact bu (· + 1) (E _ _)
 have D:bB.size=(ja ps 0 x).length:=by rw[hlen];exact D
 refine(fnM_core I hb O (cr Y) (by rw[hlen];exact cr U) dH r7 h nm w lab ρ bB hE mD D hv hQ).mono λe w' lS=>?_
 obtain⟨v,ax,outs,res,C,he,o8,hl,iZ,Ql⟩:=lS;unfold CG at C;split at C
 next y1 y2 L h2=>injection C with C;subst C;refine⟨v,ax,he,o8,hl,YL Z L iZ,?_⟩;rw[<-aky L];exact pF.typed _ _ _ _ _ Ql (Le ps x outs y2 h2)
 ·cases C
end
set_option maxRecDepth 100000
def Lh(σ:S)(C:Array ResultVar):ah Int:=
 match C.toList with
 | [.tmp t]=>(match σ.t t with
  | .aI r 0=>(match σ.m r with
   |some (.blk [.own [n],.v (.int .i64 z),.v (.int .i64 h)])=>bif Nat.beq n 20000&&z==0 then some h else none
   |_=>none)
  |_=>none)
 |_=>none
def YR(P:Program)(N:Nat)(Φ:dG)(Λ:kP)(code:Code)(C:Array ResultVar)(l:aa (T .u8)):ah Int:=
 jH P N Φ Λ code (vb [.sl (.sl .u8 0 false l)] [.mut 0 0]) λe σ=>match xS e with
  |some 0=>Lh σ C
  |some 1=>Lh σ C
  |_=>none
section
variable {P:Program} {w w':World} {w0:Wd} {B N:Nat} {lab ax:bg} {ρ ρ':Nat->Loc} {σ:S} {a:Act} {X:Type} {d:Nat} {r:X} {o:Oper} {Φ:dG} {Λ:kP}
def akz{f:Nat}{fn:Func}{code:Code}{F:aa Int->ah Int}(hf:P.funcs[f]?=some fn)(hb:fn.body=some code)(hN:fn.ntmps=N)(F1:(fn.name == "runtime.NumGoroutine")=false)(YS:Nat.ble 1 N=true)(CF:Nat.ble N 20000=true)
  (dH:fj P Φ) (r7:pN P N Λ (occs code)) (hF:∀l,YR P N Φ Λ code fn.results l=F l):enters P f/\Kp P f F:=by
 refine⟨⟨fn,hf,F1,by rw[hb];rfl⟩,λw l h v hh hv hQ=>?_⟩
 rw[<-hF l]at hh;unfold YR at hh;have YS:=cr YS;have CF:=cr CF;let W:Wd:=⟨w,λ_=>none,λr=>if 20000<=r/\r<60000 then some (.cO v)else none,hQ,λr E=>bx⟩
 refine calls_of_wp hf hb ?_;have hR:R W N (vb [.sl (.sl .u8 0 false l)] [.mut 0 0]) { tmps:=#[v]++Array.replicate (fn.ntmps-(#[v]:Array Value).size) undef,defers:=[] } w:=by
  refine⟨λ_=>none,λ_=>.cO v,.of (Below.refl w.heap.size w) (c9 _),(λb k hb=>by cases hb),λn y L=>?_,λj=>?_,by simp[hN];omega,rfl,λr l E=>?_,λr E=>?_⟩
  ·have L:bE (λ_=>none) (nF 0) (some (.sl (.sl .u8 0 false l))) n=some y:=L;by_cases Y:n=nF 0
   ·subst Y;rw[bF]at L;injection L with L;subst L;exact .sl v _ rfl (hv.key rfl)
   ·rw[bZ _ _ _ Y]at L;cases L
  ·cases j with
   | zero=>
    have e:(#[v]++Array.replicate (fn.ntmps-(#[v]:Array Value).size) undef).getD 0 undef=v:=by
     rw[gw,Array.getElem?_append_left (by simp)];rfl
    show RA w w.heap.size _ _ (.lf (.own [nF 0])) ((#[v]++Array.replicate (fn.ntmps-(#[v]:Array Value).size) undef).getD 0 undef);rw[e];exact⟨hv.jy rfl rfl,rfl⟩
   |succ j=>exact trivial
  ·have E:(if 20000<=r/\r<60000 then some (Loc.cO v)else none)=some l:=E;split at E
   ·injection E
   ·cases E
  ·show (if 20000<=r/\r<60000 then some (Loc.cO v)else none)=none;rw[bx]
 refine wp_mono (CA (w0:=W) dH code _ _ hh r7 _ w hR) λe Z w' I=>?_
 obtain⟨cN,O,Cc,Ca,D⟩:=I;have fin:Lh cN fn.results=some h->Z.defers=[]/\∃ u,(results fn Z.tmps).run P w' = .ok u w'/\∃ b off cells t,Ending.returned u = .returned (.pointer (some ⟨b,off,none⟩))/\Below w.heap.size w w'/\w.heap.size<=b/\w'.heap[b]?=some (.cells cells t (0,0))/\cells[off]?=some v/\cells[off+1]?=some (.int .i64 0)/\cells[off+2]?=some (.int .i64 h):=by
  intro C;unfold Lh at C;split at C
  ·rename_i t ht;split at C
   ·rename_i r E;split at C
    ·rename_i n z h' hm;cases hb:(Nat.beq n 20000&&z==0)with
     |false=>rw[hb]at C;cases C
     | true=>
      rw[hb,aj]at C;injection C with C;subst C;rw[aH]at hb;have Y:=cv hb.1;have hz:z=0:=by simpa using hb.2
      subst Y hz;have h1:=D.tmp t;rw[E]at h1;obtain⟨b,off,e1,e2⟩:=h1;have h2:=D.root r _ hm;generalize T:aM.blk _=x at h2;cases h2 with
      |sl=>cases T
      |mp=>cases T
      |gh=>cases T
      | blk b' zn cells e cs us cD hl B6 hs hc=>
       injection T with T;subst T;rw[cD]at e1;injection e1 with e3 e4;subst e3 e4;obtain⟨c0,U⟩:=hc 0 _ rfl;obtain⟨c1,d1⟩:=hc 1 _ rfl;obtain⟨c2,d2⟩:=hc 2 _ rfl;have U:=U.2;have Sj:=D.fix 20000 (.cO v) rfl;simp only[cC,Sj]at U;injection U with U;rw[<-U]at c0;rw[d1.2.fS]at c1;rw[d2.2.fS]at c2
       refine⟨D.defers,_,?_,b',zn,cells,e,rfl,⟨D.below.os,D.below.tape,D.below.output,D.below.size,λk O=>D.below.block k O rfl⟩,?_,B6,c0,c1,c2⟩
       ·have iZ:results fn Z.tmps=(do let vs <-fn.results.mapM (pE Z.tmps);pure (if h:vs.size=1 then vs[0]else .tuple vs)):=by
         unfold results;congr 1
        have oB:fn.results = #[.tmp t]:=by apply Array.ext';exact ht
        rw[iZ,oB,Array.mapM_eq_mapM_toList];simp[pE,e2]
       ·have:=(D.cE b' _ hl).1;exact this.resolve_right (λh=>h rfl)
    ·cases C
   ·cases C
  ·cases C
 split at O
 next I=>have I:=qL I;subst I;exact fin O
 next I=>have I:=qL I;subst I;exact fin O
 ·cases O
end
def nV(i j:Nat):Nat:=20001+1000*i+j
def CH(i j:Nat)(x:V):Lf:=match x with
 |.sl ..=>.own [nV i j]
 |x=>.v x
def vD(i:Nat):Nat->aa V->aa Lf
 |_,[]=>[]
 |j,x::xs=>CH i j x::vD i (j+1) xs
def Sk(args:aa Pt)(n:Nat):ah aM:=bif Nat.ble 20001 n&&Nat.blt n 60000 then (match args[(n-20001) / 1000]? with
 | some (_,xs)=>(match xs[(n-20001) % 1000]? with
  |some (.sl t g q l)=>some (.sl (.sl t g q l))
  |_=>none)
 |none=>none)else none
def YT(args:aa Pt):S:=⟨λi=>match args[i]? with
 |some (false,[x])=>.lf (CH i 0 x)
 |some (true,xs)=>.agg (vD i 0 xs)
 |_=>.undef,Sk args⟩
def Li(σ:S)(C:Array ResultVar)(a j:Nat)(t:TC):ah (Nat×Nat):=match C.toList with
 | [.tmp s]=>(match σ.t s with
  |.view [n] D i k=>bif Nat.beq n (nV a j)&&Nat.beq D (aA t)then some (i,k)else none
  |_=>none)
 |_=>none
def YU(P:Program)(N:Nat)(Φ:dG)(Λ:kP)(code:Code)(C:Array ResultVar)(a j:Nat)(t:TC)(args:aa Pt):ah (Nat×Nat):=
 jH P N Φ Λ code (YT args) λe σ=>match xS e with
  |some 0=>Li σ C a j t
  |some 1=>Li σ C a j t
  |_=>none
def Sl(ai:aa (Bool×TC))(a j:Nat)(t:TC)(F:jd ai->ah (Nat×Nat)):zU:=⟨a,j,t,λargs=>match vC ai args with
 |some x=>F x
 |none=>none⟩
section
variable {P:Program} {w w':World} {w0:Wd} {B N:Nat} {lab ax:bg} {ρ ρ':Nat->Loc} {σ:S} {a:Act} {X:Type} {d:Nat} {r:X} {o:Oper} {Φ:dG} {Λ:kP}
def YV(i:Nat):∀ (xs:aa V) (C j:Nat),(vD i C xs)[j]?=(xs[j]?).map λx=>CH i (C+j) x
 |[],C,j=>by simp[vD]
 |x::xs,C,0=>by simp[vD]
 | x :: xs,C,j+1=>by
  simp[vD,List.getElem?_cons_succ,YV]
  grind
def YW(i:Nat):∀ (xs:aa V) (C:Nat),(vD i C xs).length=xs.length
 |[],_=>rfl
 |x::xs,C=>by simp[vD,YW i xs (C+1)]
def YX{i j:Nat}(h:j<1000):(nV i j-20001) / 1000=i/\(nV i j-20001) % 1000=j:=by
 unfold nV;omega
def xU(bB:Array Value)(n:Nat):Loc:=.cO ((rX bB ((n-20001) / 1000) ((n-20001) % 1000)).getD undef)
def YY{bB:Array Value}{i j:Nat}{x:V}{u:Value}(D:j<1000)(E:rX bB i j=some u)(F:x.aF=true)(C:RV w B (λ_=>none) [] x u):di w B (λ_=>none) (xU bB) (CH i j x) u:=by
 unfold CH;split
 ·refine⟨C.jy rfl rfl,?_⟩;obtain⟨I,L⟩:=YX (i:=i) D;simp only[cC,xU,I,L,E];rfl
 ·exact⟨F,C⟩
def akA{f:Nat}{fn:Func}{code:Code}{ai:aa (Bool×TC)}{L O:Nat}{t:TC}{F:jd ai -> ah (Nat×Nat)}(hf:P.funcs[f]?=some fn)(hb:fn.body=some code)(hN:fn.ntmps=N)(F1:(fn.name == "runtime.NumGoroutine")=false)(hai:Nat.ble ai.length N=true)(CF:Nat.ble N 20000=true)(hsz:(ai.all λp=>Nat.blt (aA p.2) 1000&&(p.1 || Nat.beq (aA p.2) 1))=true)(YZ:Nat.blt O 1000=true)(haa:Nat.blt L 30=true)
  (dH:fj P Φ) (r7:pN P N Λ (occs code)) (hF:∀x,YU P N Φ Λ code fn.results L O t (fl ai x)=F x):enters P f/\Kq P f (Sl ai L O t F):=by
 refine⟨⟨fn,hf,F1,by rw[hb];rfl⟩,λargs p h w bB nQ hQ=>?_⟩
 simp only[Sl]at h;split at h
 ·rename_i x hx;obtain⟨k1,k2⟩:=Se ai args x hx;have hlen:∀ (l:aa (Bool×TC)) (x:jd l),(fl l x).length=l.length:=by
   intro l
   induction l with
   |nil=>intro x;rfl
   |cons p l ih=>obtain⟨b,t⟩:=p;intro x;simp[fl,ih]
  have iX:bB.size=ai.length:=by rw[nQ.1,<- k1,hlen]
  have hle:bB.size <= N:=by rw[iX];exact cr hai
  have CF:=cr CF;have oB:∀ (l:aa (Bool×TC)) (x:jd l),(l.all λp=>Nat.blt (aA p.2) 1000&&(p.1 || Nat.beq (aA p.2) 1))=true -> ∀ (j:Nat) p,(fl l x)[j]?=some p -> (∀ y∈p.2,y.aF=true)/\p.2.length<1000/\(p.1=true \/ p.2.length=1):=by
   intro l
   induction l with
   |nil=>intro x _ j p T;simp[fl]at T
   | cons c l ih=>
    obtain⟨b,t⟩:=c;intro x hs j p T;rw[List.all_cons,aH]at hs;cases j with
    | zero=>
     simp[fl]at T;subst T
     refine⟨λy C=>?_,?_⟩
     ·obtain⟨i,hi⟩:=List.mem_iff_getElem?.1 C;exact oh t 0 x.1 (by omega) i y hi
     ·show (enc t 0 x.1).length<1000/\(b=true \/ (enc t 0 x.1).length=1);rw[jT];have h8:=hs.1;rw[aH,dA]at h8;have h9:=cr h8.1;exact⟨h9,h8.2.imp id cv⟩
    |succ j=>exact ih x.2 hs.2 j p (by simpa [fl]using T)
  have nL:∀ (i:Nat) (p:Pt),(fl ai x)[i]?=some p -> ∃ u:Value,bB[i]?=some u/\PV w w.heap.size (λ_=>none) (λ_=>[]) p u/\(∀ y∈p.2,y.aF=true)/\p.2.length<1000:=by
   intro i p T;obtain⟨q,hq,B0,zB⟩:=k2 i p T;obtain⟨u,U,tv⟩:=nQ.2 i q hq;obtain⟨g1,g2,g3⟩:=oB ai x hsz i p T;refine⟨u,U,?_,g1,g2⟩;obtain⟨b,ys⟩:=p;obtain⟨b',xs⟩:=q;simp only at B0;subst B0;have hw:=tv.rS zB;rcases g3 with g3|g3
   ·simp only at g3;subst g3;exact hw.Wi
   ·obtain⟨y,rfl⟩:=List.length_eq_one_iff.1 g3;cases b' with
    |true=>exact hw.Wi
    |false=>exact hw.pv
  have Sn:∀ (i:Nat) (p:Pt),(fl ai x)[i]?=some p -> ∀ (j:Nat) y,p.2[j]?=some y -> ∃ u,rX bB i j=some u/\RV w w.heap.size (λ_=>none) [] y u/\y.aF=true/\j<1000:=by
   intro i p T j y C;obtain⟨u,U,⟨us,D,h2,h3⟩,h4,h5⟩:=nL i p T;obtain⟨v,E,I⟩:=h3 j y C;refine⟨v,?_,I,h4 y (fP C),by have:=(de.1 C).1;omega⟩;unfold rX;rw[U];obtain⟨b,ys⟩:=p;cases b with
   | true=>
    have D:u = .agg us:=D;subst D;exact E
   | false=>
    have D:us = #[u]:=D;subst D;have hj:j=0:=by
     have:=(gD.1 E).1
     simpa using this
    subst hj;have:u=v:=by simpa using E
    subst this;have Ad:∀ us,u ≠ .agg us:=by
     rintro us rfl;cases I
    cases u<;>first|exact absurd rfl (Ad _)|rfl
  let W:Wd:=⟨w,λ_=>none,λr=>if 20000 <= r/\r<60000 then some (xU bB r)else none,hQ,λr I=>bx⟩
  refine calls_of_wp hf hb ?_;rw[<- hF x]at h;unfold YU at h;have hR:R W N (YT (fl ai x)) { tmps:=bB++Array.replicate (fn.ntmps-bB.size) undef,defers:=[] } w:=by
   refine⟨λ_=>none,xU bB,.of (Below.refl w.heap.size w) (c9 _),(λb k hk=>by cases hk),(λn y C=>?_),λi=>?_,by simp[hN];omega,rfl,λr l I=>?_,λr I=>?_⟩
   ·have C:Sk (fl ai x) n=some y:=C;unfold Sk at C;cases hb:(Nat.ble 20001 n&&Nat.blt n 60000)with
    |false=>rw[hb]at C;cases C
    | true=>
     rw[hb,aj]at C;split at C
     ·rename_i b xs T;split at C
      next t' g q l hl=>injection C with C;subst C;obtain⟨u,U,I,qv,_⟩:=Sn _ _ T _ _ hl;refine .sl u _ ?_ (I.key qv);unfold xU;simp[*]
      ·cases C
     ·cases C
   ·show RA w w.heap.size _ _ (match (fl ai x)[i]? with | some (false,[x])=>A.lf (CH i 0 x) | some (true,xs)=>.agg (vD i 0 xs) | _=>.undef) _;have BP:∀ p:Pt,(fl ai x)[i]?=some p -> ∃ u:Value,bB[i]?=some u/\(bB++Array.replicate (fn.ntmps-bB.size) undef).getD i undef=u:=by
     intro p T;obtain⟨u,U,_⟩:=nL i p T;have hi:=(gD.1 U).1;exact⟨u,U,by rw[gw,Array.getElem?_append_left hi,U];rfl⟩
    split
    ·rename_i x' jW;obtain⟨u,U,e⟩:=BP _ jW;rw[e];obtain⟨v,E,I,qv,_⟩:=Sn i _ jW 0 x' rfl;have E0:u=v:=by
      unfold rX at E;rw[U]at E;obtain⟨u2,pg,⟨us,D,h2,h3⟩,_⟩:=nL i _ jW;rw[U]at pg;injection pg with pg;subst pg;have D:us = #[u]:=D;subst D;obtain⟨v3,hv3,hr3⟩:=h3 0 x' rfl;have:u=v3:=by simpa using hv3
      subst this;have Ad:∀ us,u ≠ .agg us:=by
       rintro us rfl;cases hr3
      cases u<;>first|exact absurd rfl (Ad _)|(simp only[show Nat.beq 0 0=true from rfl,aj,gG]at E;exact E)
     subst E0;exact YY (by omega) E qv I
    ·rename_i xs jW;obtain⟨u,U,e⟩:=BP _ jW;rw[e];obtain⟨u2,pg,⟨us,D,h2,h3⟩,_⟩:=nL i _ jW;rw[U]at pg;injection pg with pg;subst pg;have D:u = .agg us:=D
     refine⟨us,D,by rw[YW];exact h2,λj y C=>?_⟩
     rw[YV]at C;cases hz:xs[j]? with
     |none=>rw[hz]at C;cases C
     | some z=>
      rw[hz]at C;injection C with C;subst C;obtain⟨v,E,I,qv,hj⟩:=Sn i _ jW j z hz;have huj:us[j]?=some v:=by
       unfold rX at E;rw[U,D]at E;exact E
      refine⟨v,huj,?_⟩;rw[eS];exact YY hj E qv I
    ·trivial
   ·have I:(if 20000 <= r/\r<60000 then some (xU bB r)else none)=some l:=I;split at I
    ·injection I
    ·cases I
   ·show (if 20000 <= r/\r<60000 then some (xU bB r)else none)=none;rw[bx]
  refine wp_mono (CA (w0:=W) dH code _ _ h r7 _ w hR) λe a' w' he=>?_
  obtain⟨cN,hk,Cc,Ca,eG⟩:=he;have fin:Li cN fn.results L O t=some p -> a'.defers=[] /\ ∃ u,(results fn a'.tmps).run P w' = .ok u w' /\ ∃ A n cap,rX bB L O=some (.slice A n cap)/\p.1 <= p.2/\p.2 <= n/\Ending.returned u = .returned (sliced A p.1 p.2 cap (aA t))/\Below w.heap.size w w':=by
   intro Z;unfold Li at Z;split at Z
   ·rename_i s hs;split at Z
    ·rename_i n sz i k E;cases gI:(Nat.beq n (nV L O)&&Nat.beq sz (aA t))with
     |false=>rw[gI]at Z;cases Z
     | true=>
      rw[gI,aj]at Z;injection Z with Z;subst Z;rw[aH]at gI;have hn:=cv gI.1;have akB:=cv gI.2;subst hn akB;have D:=eG.tmp s;rw[E]at D;obtain⟨A,m,c,Y,e2,e3,e4⟩:=D;have YZ:=cr YZ;have Ad:20000 <= nV L O:=by unfold nV;omega
      by_cases dV:nV L O<60000
      ·have Sj:=eG.fix (nV L O) (xU bB (nV L O)) (bJ ⟨Ad,dV⟩);have Y:(match Ca (nV L O)with | .cO v=>some v | _=>none)=some (Value.slice A m c):=Y;rw[Sj]at Y;obtain⟨d1,d2⟩:=YX (i:=L) (j:=O) (by omega);have Y:some ((rX bB ((nV L O-20001) / 1000) ((nV L O-20001) % 1000)).getD undef)=some (Value.slice A m c):=Y;rw[d1,d2]at Y;injection Y with Y
       refine⟨eG.defers,_,?_,A,m,c,?_,e2,e3,bu Ending.returned e4,⟨eG.below.os,eG.below.tape,eG.below.output,eG.below.size,λk hk=>eG.below.block k hk rfl⟩⟩
       ·have iZ:results fn a'.tmps=(do let vs <- fn.results.mapM (pE a'.tmps);pure (if h:vs.size=1 then vs[0]else .tuple vs)):=by
         unfold results;congr 1
        have oB:fn.results = #[.tmp s]:=by apply Array.ext';exact hs
        rw[iZ,oB];simp[pE]
       ·cases hl:rX bB L O with
        |none=>rw[hl]at Y;cases Y
        |some u=>rw[hl]at Y;exact bu some Y
      ·exfalso;have:=cr haa;unfold nV at dV;omega
    ·cases Z
   ·cases Z
  split at hk
  next he=>have he:=qL he;subst he;exact fin hk
  next he=>have he:=qL he;subst he;exact fin hk
  ·cases hk
 ·cases h
end
def Wd.pin(d:Wd)(g:Nat)(l:ah Loc)(D:20000<=g):Wd:=⟨d.w,d.L,λr=>if r=g then l else d.F r,d.held,λr C=>by
 show (if r=g then l else d.F r)=none;rw[bx];exact d.low r C⟩
def Am(g:Nat):aa (Bool×aa Lf)->A
 |[(false,[x])]=>.lf (x.drop g)
 |[(true,cs)]=>.agg (cs.map (Lf.drop g))
 |[(false,_)]=>.undef
 |ps=>.ez (ps.map λp=>(p.1,p.2.map (Lf.drop g)))
def An{X:Type}(P:Program)(g:Nat)(D:Array ResultVar)(C:S)(k:S->A->ah X):ah X:=
 qA P C D.toList λps=>match C.m g with
  |some (.gh ys)=>k ⟨λj=>((ys.map (A.drop g))[j]?).getD .undef,(C.drop g).m⟩ (Am g ps)
  |_=>none
def Y0(g N:Nat)(σ:S)(xs:aa A):S:=⟨λj=>((xs.map (A.drop g))[j]?).getD .undef,bE (σ.drop g).m g (some (.gh ((List.range N).map λj=>(σ.t j).drop g)))⟩
def Y1:kP:=λ_=>none
def F2{X:Type}(P:Program)(M g:Nat)(Φ:dG)(code:Code)(C:Array ResultVar)(N:Nat)(σ:S)(xs:aa A)(k:S->A->ah X):ah X:=
 bif Nat.ble xs.length M then jH P M Φ Y1 code (Y0 g N σ xs) λe D=>match xS e with
  |some 0=>An P g C D k
  |some 1=>An P g C D k
  |_=>none
 else none
def Y2(P:Program)(M g:Nat)(Φ:dG)(code:Code)(C:Array ResultVar):rY:=⟨λX N σ xs k=>F2 P M g Φ code C N σ xs k⟩
section
variable {P:Program} {w w':World} {w0:Wd} {B M N g:Nat} {lab ax:bg} {ρ ρ':Nat->Loc} {σ:S} {a:Act} {X:Type} {d:Nat} {r:X} {o:Oper} {Φ:dG} {Λ:kP}
def So{C:ah Tmp}{D:Bool}:cu λX k=>qH (X:=X) σ C D k:=λX Y k g=>by
 unfold qH
 repeat' first|rfl|refine cK ?_ ?_|split
def akC{ops:Array Oper}{L i:Nat}:cu λX k=>FD (X:=X) P N Φ ops L i σ o k:=λX Y k g=>by
 unfold FD;split
 ·refine(Q2 _ _ _ _).trans (bu _ (funext λv=>?_))
  exact cK (vh _ _ _ _) rfl
 ·exact vh _ _ _ _
 ·rfl
def Sq(D:fj P Φ){ops:Array Oper}:∀ (f L:Nat) (σ:S),cu λX k=>pM (X:=X) P N Φ ops f L σ k
 | 0,L,σ=>λX Y k g=>by
  unfold pM;split<;>rfl
 | f+1,L,σ=>λX Y k g=>by
  have st:∀E o I,cu λX k=>cQ (X:=X) P N Φ ops σ o λF=>qH F o.dst I λC=>pM P N Φ ops f E C k:=λE o I=>(XH D).comp λF=>So.comp λC=>Sq D f E C
  unfold pM
  repeat' first
   |rfl
   |exact st _ _ _ _ _ _ _
   |exact(akC.comp λF=>So.comp λC=>Sq D f _ C) X Y k g
   |split
def akD{t:TypeId}{x lo hi C:A}{X Y:Type}(k:ah X)(g:X->ah Y):(Cq P σ t x lo hi C k).bind g=Cq P σ t x lo hi C (k.bind g):=by
 unfold Cq
 repeat' first
  |rfl
  |refine(vg _ _ _ _ _).trans (bu _ (funext λy=>?_))
  |split
def akE(C:fj P Φ):cu λX k=>Fz (X:=X) P N Φ σ o k:=λX Y k g=>by
 unfold Fz
 repeat' first
  |exact XE C _ _ _ _
  |exact aiU _ _ _ _
  |exact(akD _ _).trans (bu _ (cK rfl rfl))
  |split
def Sr(C:fj P Φ){ops:Array Oper}:∀ (rest:aa Oper) (j:Nat) (σ:S),cu λX k=>zZ (X:=X) P N Φ ops j rest σ k
 |[],j,σ=>λ_ _ _ _=>rfl
 | o :: rest,j,σ=>λX Y k g=>by
  unfold zZ;split
  ·exact((akE C).comp λD=>So.comp λE=>Sr C rest _ E) X Y k g
  ·exact(vh.comp λD=>Sr C rest _ D) X Y k g
  ·rfl
def Y3(E:fj P Φ):∀ (c:Code) (σ:S),Cp λX k=>jH (X:=X) P N Φ Y1 c σ k:=by
 intro c
 induction c with
 | region id ops draw=>
  intro σ X Y k g;cases draw with
  |true=>exact cK (Sq E _ _ _ _ _ _ _) rfl
  |false=>exact Sr E _ _ _ _ _ _ _
 | seq x y C D=>
  intro σ X Y k g
  refine(C σ _ _ _ _).trans (bu _ (funext λe=>funext λF=>?_))
  cases e with
  |normal=>exact D F _ _ _ _
  |_=>rfl
 | cond c x y C D=>
  intro σ X Y k g;simp only[jH];split
  ·exact cK (C σ _ _ _ _) (D σ _ _ _ _)
  ·rfl
 | block id c I=>
  intro σ X Y k g
  refine(I σ _ _ _ _).trans (bu _ (funext λe=>funext λF=>?_))
  cases e with
  | exit L=>
   simp only;split<;>rfl
  |_=>rfl
 |_=>intro σ X Y k g;rfl
def Lj:∀ (l:aa ResultVar),cu λX k=>qA (X:=X) P σ l k
 |[]=>λ_ _ _ _=>rfl
 | .tmp t :: rest=>λX Y k g=>by
  simp only[qA];split
  ·exact Lj rest _ _ _ _
  ·rfl
 | .cell c ty :: rest=>λX Y k g=>by
  simp only[qA]
  refine(WX _ _ _ _).trans (bu _ (funext λy=>?_))
  split
  ·exact Lj rest _ _ _ _
  ·rfl
def Y4{C:Array ResultVar}:Cp λX k=>An (X:=X) P g C σ k:=λX Y k f=>by
 unfold An
 refine(Lj _ _ _ _ _).trans (bu _ (funext λps=>?_))
 split<;>rfl
def akF(C:fj P Φ){code:Code}{D:Array ResultVar}{xs:aa A}:Cp λX k=>F2 (X:=X) P M g Φ code D N σ xs k:=λX Y k f=>by
 unfold F2
 refine cK ((Y3 C _ _ _ _ _ _).trans (bu _ (funext λe=>funext λE=>?_))) rfl
 split
 ·exact Y4 _ _ _ _
 ·exact Y4 _ _ _ _
 ·rfl
def akG{D:Array ResultVar}{E:S}{y:A}(h:An P g D σ (λσ y=>some (σ,y))=some (E,y)):∃ ys ps,σ.m g=some (.gh ys)/\qA P σ D.toList some=some ps/\⟨λj=>((ys.map (A.drop g))[j]?).getD .undef,(σ.drop g).m⟩=E/\Am g ps=y:=by
 unfold An at h;obtain⟨ps,C,F⟩:=(Lj _).jV h;split at C
 next ys I=>injection C with C;injection C with L O;exact⟨ys,ps,I,F.at_ _,L,O⟩
 ·cases C
def List.Y5(xs:aa A)(g j:Nat):((xs.map (A.drop g))[j]?).getD .undef=A.drop g ((xs[j]?).getD .undef):=by
 rw[dI];cases xs[j]?<;>rfl
def RP.Am{ps:aa (Bool×aa Lf)}{C:aa Value}(F:∀ r,r≠g->ρ' r=ρ r)(hl:C.length=ps.length)(h:∀ (i:Nat) p v,ps[i]?=some p->C[i]?=some v->RP w B lab ρ p v):
  RA w B lab ρ' (Am g ps) (if h:C.toArray.size=1 then C.toArray[0]else .tuple C.toArray):=by
 have ez:ps.length≠1->RA w B lab ρ' (.ez (ps.map λp=>(p.1,p.2.map (Lf.drop g)))) (if h:C.toArray.size=1 then C.toArray[0]else .tuple C.toArray):=by
  intro L;rw[dif_neg (by simpa [hl]using L)]
  refine⟨C.toArray,rfl,by simpa using hl,λj p D=>?_⟩
  rw[dI]at D;cases E:ps[j]? with
  |none=>rw[E]at D;cases D
  | some q=>
   rw[E]at D;injection D with D;subst D;have I:j<C.length:=by rw[hl];exact(de.1 E).1
   exact⟨C[j],by simp[I],(h j q C[j] E (bQ I)).eA F⟩
 unfold Proofs.YthmgjjfedieljaaGreatDoor.Am;split
 ·rename_i x
  match C,hl,h with
  | [v],_,h=>
   have:=h 0 _ v rfl rfl;obtain⟨u,O,T⟩:=this.2 0 x rfl;have:v=u:=by simpa using O
   subst this;exact T.eA F
 ·rename_i cs
  match C,hl,h with
  |[v],_,h=>exact RP.eA F (p:=(true,cs)) (h 0 _ v rfl rfl)
 ·trivial
 ·rename_i Z U Y
  refine ez λe=>?_
  obtain⟨⟨b,cs⟩,rfl⟩:=List.length_eq_one_iff.1 e;cases b with
  |true=>exact U cs rfl
  |false=>exact Y cs rfl
def akH{f:Nat}{fn:Func}{code:Code}(hf:P.funcs[f]?=some fn)(hb:fn.body=some code)(hN:fn.ntmps=M)(hM:M<=20000)(F1:(fn.name == "runtime.NumGoroutine")=false)(hg:20000<=g/\g<60000)(dH:fj P Φ):
  enters P f/\vj P f (Y2 P M g Φ code fn.results):=by
 refine⟨⟨fn,hf,F1,by rw[hb];rfl⟩,λN σ xs=>akF dH,λN σ xs τ0 y0 h w0 lab ρ a w bB hR hsz hv=>?_⟩
 have h:F2 P M g Φ code fn.results N σ xs _=_:=h;unfold F2 at h;cases hl:Nat.ble xs.length M with
 |false=>rw[hl]at h;cases h
 | true=>
  rw[hl,aj]at h;have zD:=cr hl;obtain⟨e,τ,Z,h2⟩:=(Y3 dH _ _).jV h;have h3:(e = .normal\/e = .ret)/\An P g fn.results τ (λσ y=>some (σ,y))=some (τ0,y0):=by
   split at Z
   next T=>exact⟨.inl (qL T),Z⟩
   next T=>exact⟨.inr (qL T),Z⟩
   ·cases Z
  obtain⟨hex,h3⟩:=h3;obtain⟨ys,ps,hy,pz,rfl,rfl⟩:=akG h3;let us:=a.tmps.toList
  let W:Wd:=w0.pin g (some (.bB us)) hg.1
  let U:=bE ρ g (.bB us)
  have cD:∀r,r≠g->U r=ρ r:=λr hr=>bZ _ _ _ hr
  have iL:∀ j,us.getD j undef=a.tmps.getD j undef:=λj=>by
   show a.tmps.toList.getD j undef=_;rw[fQ,Array.getElem?_toList,gw]
  have hle:bB.size<=M:=by rw[hsz];exact zD
  have qE:Rl W M lab U (Y0 g N σ xs) { tmps:=bB++Array.replicate (fn.ntmps-bB.size) undef,defers:=[] } w:=by
   refine⟨⟨hR.below.os,hR.below.tape,hR.below.output,hR.below.size,hR.below.block⟩,hR.cE,λr x C=>?_,λj=>?_,by simp[hN];omega,rfl,λr l hr=>?_,λr hr=>?_⟩
   ·have C:bE (σ.drop g).m g (some (.gh ((List.range N).map λj=>(σ.t j).drop g))) r=some x:=C;by_cases D:r=g
    ·subst D;rw[bF]at C;injection C with C;subst C
     refine .gh us _ (bF _ _ _) λj x I=>?_
     rw[dI]at I;cases hr:(List.range N)[j]? with
     |none=>rw[hr]at I;cases I
     | some j'=>
      rw[hr]at I;injection I with I;obtain⟨dV,qj⟩:=de.1 hr;rw[jt]at qj;subst qj I;rw[iL];exact(hR.tmp j).eA cD
    ·rw[bZ _ _ _ D]at C;have C:(bif Nat.beq r g then none else (σ.m r).map (aM.drop g))=some x:=C;cases hb:Nat.beq r g with
     |true=>rw[hb]at C;cases C
     | false=>
      rw[hb,au]at C;cases hm:σ.m r with
      |none=>rw[hm]at C;cases C
      | some y=>
       rw[hm]at C;injection C with C;subst C;exact(hR.root r y hm).eA cD D
   ·show RA w w0.heap.size lab U (((xs.map (A.drop g))[j]?).getD .undef) _;rw[List.Y5];by_cases I:j<bB.size
    ·have e1:(bB++Array.replicate (fn.ntmps-bB.size) undef).getD j undef=bB.getD j undef:=by
      rw[gw,Array.getElem?_append_left I,gw]
     show RA w w0.heap.size lab U _ ((bB++Array.replicate (fn.ntmps-bB.size) undef).getD j undef);rw[e1];exact(hv j).eA cD
    ·rw[List.getElem?_eq_none (by omega:xs.length<=j)];trivial
   ·have hr:(if r=g then some (Loc.bB us)else w0.F r)=some l:=hr;by_cases D:r=g
    ·rw[bJ D]at hr;injection hr with hr;rw[D,<-hr];exact bF _ _ _
    ·rw[bx D]at hr;rw[cD r D];exact hR.fix r l hr
   ·show (if r=g then some (Loc.bB us)else w0.F r)=none;rw[bx];rcases hr with hr | hr
    ·exact w0.low r (by omega)
    ·exact hR.cY r (.inr hr)
  refine calls_of_wp hf hb ?_
  refine wp_mono (CA (w0:=W) dH code _ (λe τ=>some (e,τ)) (h2 _ _) (λp hp b hb=>by cases hb) _ w ⟨lab,U,qE⟩) λe' L w' T=>?_
  obtain⟨cN,nO,ax,ρ',E⟩:=T;injection nO with nO;injection nO with k1 k2;subst k1 k2;have E9:ρ' g = .bB us:=E.fix g _ (bJ rfl);let eB:=bE ρ' g ((w0.F g).getD (.blk 0 0))
  have Cj:∀r,r≠g->eB r=ρ' r:=λr hr=>bZ _ _ _ hr
  obtain⟨Fb,Ss,kI⟩:=E1 (w0:=W) (N:=M) _ _ pz;injection Ss with Ss;subst Ss;obtain⟨Y,dZ,hlen,jX⟩:=kI ax ρ' L w' E;have akI:(fn.results.mapM (pE L.tmps)).run P w' = .ok Y.toArray w':=by
   rw[Array.mapM_eq_mapM_toList];simp[dZ]
  have iZ:results fn L.tmps=(do let Y <-fn.results.mapM (pE L.tmps);pure (if h:Y.size=1 then Y[0]else .tuple Y)):=by
   unfold results;congr 1
  have hRf:Rl w0 N ax eB ⟨λj=>((ys.map (A.drop g))[j]?).getD .undef,(cN.drop g).m⟩ a w':=by
   refine⟨⟨E.below.os,E.below.tape,E.below.output,E.below.size,E.below.block⟩,E.cE,λr x C=>?_,λj=>?_,hR.size,hR.defers,λr l hr=>?_,hR.cY⟩
   ·have C:(bif Nat.beq r g then none else (cN.m r).map (aM.drop g))=some x:=C;cases hb:Nat.beq r g with
    |true=>rw[hb]at C;cases C
    | false=>
     have D:r≠g:=by rintro rfl;simp at hb
     rw[hb,au]at C;cases hm:cN.m r with
     |none=>rw[hm]at C;cases C
     | some y=>
      rw[hm]at C;injection C with C;subst C;exact(E.root r y hm).eA Cj D
   ·show RA w' w0.heap.size ax eB (((ys.map (A.drop g))[j]?).getD .undef) _;rw[List.Y5];cases hyj:ys[j]? with
    |none=>trivial
    | some y=>
     have eM:=E.root g _ hy;generalize O:aM.gh ys=z at eM;cases eM with
     |blk=>cases O
     |sl=>cases O
     |mp=>cases O
     | gh JM xs' vf Y6=>
      injection O with O;subst O;rw[E9]at vf;injection vf with vf;subst vf;have:=Y6 j y hyj;rw[iL]at this;exact this.eA Cj
   ·by_cases D:r=g
    ·subst D;show bE ρ' r ((w0.F r).getD (.blk 0 0)) r=l;rw[bF,hr];rfl
    ·rw[Cj r D];exact E.fix r l ((bx D).trans hr)
  have fin:L.defers=[]/\∃ v,(results fn L.tmps).run P w' = .ok v w'/\∃ xT ax ρ',Ending.returned v=Ending.returned xT/\Rl w0 N ax ρ' ⟨λj=>((ys.map (A.drop g))[j]?).getD .undef,(cN.drop g).m⟩ a w'/\RA w' w0.heap.size ax ρ' (Am g Fb) xT:=
   ⟨E.defers,_,by rw[iZ,fA,akI,jO,Sem.run_pure],_,ax,eB,rfl,hRf,RP.Am Cj hlen jX⟩
  rcases hex with rfl|rfl
  ·exact fin
  ·exact fin
end
def r8:Nat:=1000000000
def stays(n:Nat):Bool:=Nat.ble 20000 (n % r8)
def akJ:60000<=r8:=cr rfl
def oD(n:Nat):Nat:=bif stays n then n else n+r8
def xV(n:Nat):ah Nat:=bif stays n then some n else bif Nat.ble r8 n && !stays (n-r8)then some (n-r8)else none
def jJ:aa Nat->aa Nat
 |[]=>[]
 |[r]=>[oD r]
 |x::y::k=>x::jJ (y::k)
def Lf.up:Lf->Lf
 |.v x=>.v x
 |.own k=>.own (jJ k)
 |.dead=>.dead
def A.up:A->A
 |.undef=>.undef
 |.skip=>.skip
 |.lf x=>.lf x.up
 |.agg cs=>.agg (cs.map Lf.up)
 |.ez xs=>.ez (xs.map λp=>(p.1,p.2.map Lf.up))
 |.ptr k=>.ptr (jJ k)
 |.aI r j=>.aI (oD r) j
 |.ij cs=>.ij cs
 |.lN f cs=>.lN f cs
 |.pk r n=>.pk (oD r) n
 |.view k s i j=>.view (jJ k) s i j
 |.fn f cap=>.fn f (cap.map λp=>(oD p.1,p.2))
def aM.up:aM->aM
 |.blk cs=>.blk (cs.map Lf.up)
 |.sl y=>.sl y
 |.mp l=>.mp l
 |.gh xs=>.gh (xs.map A.up)
def S.up(σ:S):S:=⟨λk=>(σ.t k).up,λn=>match xV n with
 |some r=>(σ.m r).map aM.up
 |none=>none⟩
def Y7(c:rY):rY:=⟨λX N σ xs k=>c.run X N σ.up (xs.map A.up) λC y=>k C.up y.up⟩
section
variable {P:Program} {w w':World} {w0:Wd} {B N:Nat} {lab ax:bg} {ρ ρ':Nat->Loc} {σ:S} {a:Act} {X:Type}
def akK(r:Nat):xV (oD r)=some r:=by
 unfold xV oD;cases h:stays r with
 |true=>simp_all
 | false=>
  have C:stays (r+r8)=false:=by
   unfold stays at h ⊢;simp_all
  have D:Nat.ble r8 (r+r8)=true:=gP (Nat.le_add_left _ _);simp[*]
def akL{n r:Nat}(h:xV n=some r):n=oD r:=by
 unfold xV at h;cases D:stays n with
 | true=>
  rw[D]at h;injection h with h;subst h;simp[oD,D]
 | false=>
  rw[D,au]at h;cases C:(Nat.ble r8 n && !stays (n-r8))with
  |false=>simp_all
  | true=>
   rw[C]at h;have h:=Option.some.inj h;rw[aH]at C;have F:=cr C.1;have E:stays r=false:=by rw[<- h];simpa using C.2
   simp[oD,E,au];omega
def kS(lab:bg):bg:=λb=>(lab b).map jJ
def tJ(ρ:Nat->Loc):Nat->Loc:=λn=>match xV n with
 |some r=>ρ r
 |none=>ρ n
def Ao(r:Nat):tJ ρ (oD r)=ρ r:=by unfold tJ;rw[akK]
def akM{k:aa Nat}(h:k≠[]):jJ k≠[]:=by
 match k with
 |[r]=>simp[jJ]
 |x::y::k=>simp[jJ]
def CI{x:Nat}{k:aa Nat}(h:k≠[]):jJ (x :: k)=x :: jJ k:=by
 match k with
 |[]=>exact absurd rfl h
 |y::k=>rfl
def Y8(x y:Nat)(k:aa Nat):∃ C D,jJ (x :: y :: k)=x :: C :: D:=by
 match k with
 |[]=>exact⟨_,_,rfl⟩
 |z::k=>exact⟨y,_,rfl⟩
def Su:∀ (k:aa Nat) (ad:Addr),addrAt w lab ρ k=some ad -> addrAt w (kS lab) (tJ ρ) (jJ k)=some ad
 |[],_,h=>by simp[addrAt]at h
 | [j,i,s,r],ad,h=>by
  simp only[addrAt]at h;simp only[jJ,addrAt,Ao];split at h
  ·rename_i b n c C;split at h
   next hl=>rw[bJ (by simp[kS,hl,jJ])];exact h
   ·cases h
  ·cases h
 | j :: i :: s :: x :: y :: q,ad,h=>by
  simp only[addrAt]at h;split at h
  ·rename_i b n c C;split at h
   ·rename_i hl;cases D:addrAt w lab ρ (x :: y :: q)with
    |none=>simp_all
    | some F=>
     have E:=Su (x::y::q) F D;have e:kS lab b=some (jJ (x::y::q)):=by simp[kS,hl]
     rw[CI (by simp),CI (by simp),CI (by simp)];rw[D]at C;obtain⟨L,O,I⟩:=Y8 x y q;rw[I]at E e ⊢;simp only[addrAt,E,C,e,if_true];exact h
   ·cases h
  ·cases h
def Y9{k:aa Nat}{u:Value}(h:cC w lab ρ k=some u):cC w (kS lab) (tJ ρ) (jJ k)=some u:=by
 match k with
 | [r]=>
  simp[jJ,cC,Ao];exact h
 | x :: y :: k=>
  simp[cC]at h;cases C:addrAt w lab ρ _ with
  |none=>rw[C]at h;cases h
  | some ad=>
   have:=Su _ _ C;obtain⟨E,F,D⟩:=Y8 x y k;rw[D]at this ⊢;simp[cC,this];simp_all
def Sv{b:Nat}(h:lab b=none):kS lab b=none:=by simp[kS,h]
def RV.up(D:∀ b k,lab b=some k->k≠[]){k:aa Nat}{x:V}{v:Value}(h:RV w B lab k x v):RV w B (kS lab) (jJ k) x v:=
 h.map (Q:=λk C=>C=jJ k) (c9 _) (λb _ h=>⟨rfl,Sv h⟩) (λb k C _ hl e=>by
  subst e;exact⟨rfl,by simp[kS,hl],λj i s=>by rw[CI (by simp),CI (by simp),CI (D b k hl)]⟩) (.inr rfl)
def di.up(C:∀ b k,lab b=some k->k≠[]){x:Lf}{u:Value}(h:di w B lab ρ x u):di w B (kS lab) (tJ ρ) x.up u:=by
 cases x with
 |v x=>exact⟨h.1,RV.up C h.2⟩
 |own k=>exact⟨h.1,Y9 h.2⟩
 |dead=>trivial
def dR.up(E:∀ b k,lab b=some k -> k≠[]){cs:aa Lf}{us:Array Value}(h:dR w B lab ρ cs us):dR w B (kS lab) (tJ ρ) (cs.map Lf.up) us:=by
 refine⟨by rw[eE];exact h.1,λj x C=>?_⟩
 rw[dI]at C;cases D:cs[j]? with
 |none=>simp_all
 | some z=>
  rw[D]at C;injection C with C;subst C;obtain⟨u,F,I⟩:=h.2 j z D;exact⟨u,F,I.up E⟩
def RP.up(C:∀ b k,lab b=some k->k≠[]){p:Bool×aa Lf}{u:Value}(h:RP w B lab ρ p u):RP w B (kS lab) (tJ ρ) (p.1,p.2.map Lf.up) u:=by
 obtain⟨b,cs⟩:=p;cases b with
 | true=>
  obtain⟨us,rfl,h⟩:=h;exact⟨us,rfl,dR.up C h⟩
 |false=>exact dR.up C h
def RA.up(F:∀ b k,lab b=some k -> k≠[]){x:A}{u:Value}(h:RA w B lab ρ x u):RA w B (kS lab) (tJ ρ) x.up u:=by
 cases x with
 |undef=>trivial
 |skip=>exact h
 |lf x=>exact di.up F h
 |agg cs=>exact RP.up F (p:=(true,cs)) h
 | ez xs=>
  obtain⟨us,rfl,D,E⟩:=h
  refine⟨us,rfl,by rw[eE];exact D,λj p C=>?_⟩
  rw[dI]at C;cases I:xs[j]? with
  |none=>simp_all
  | some z=>
   rw[I]at C;injection C with C;subst C;obtain⟨v,L,O⟩:=E j z I;exact⟨v,L,O.up F⟩
 | ptr k=>
  obtain⟨ad,rfl,h⟩:=h;exact⟨ad,rfl,Su _ _ h⟩
 | aI r j=>
  obtain⟨b,off,D,E⟩:=h;exact⟨b,off,(Ao r).trans D,E⟩
 | ij cs=>
  obtain⟨b,off,T,U,Y,Z⟩:=h
  refine⟨b,off,T,U,Sv Y,λj x hx=>?_⟩
  obtain⟨f1,v,f2,f3⟩:=Z j x hx;exact⟨f1,v,f2,RV.up F f3⟩
 | lN f cs=>
  obtain⟨pv,e0,h⟩:=h;refine⟨pv,e0,?_⟩;obtain⟨b,off,T,U,Y,Z⟩:=h
  refine⟨b,off,T,U,Sv Y,λj x hx=>?_⟩
  obtain⟨f1,v,f2,f3⟩:=Z j x hx;exact⟨f1,v,f2,RV.up F f3⟩
 | pk r n=>
  obtain⟨b,D,E⟩:=h;exact⟨b,(Ao r).trans D,E⟩
 | view k s i j=>
  obtain⟨A,n,c,D,E⟩:=h;exact⟨A,n,c,Y9 D,E⟩
 | fn f cap=>
  obtain⟨vs,rfl,D,E⟩:=h
  refine⟨vs,rfl,by rw[eE];exact D,λj p C=>?_⟩
  rw[dI]at C;cases I:cap[j]? with
  |none=>simp_all
  | some z=>
   rw[I]at C;injection C with C;subst C;obtain⟨b,off,L,O⟩:=E j z I;exact⟨b,off,(Ao _).trans L,O⟩
def dz.up(O:∀ b k,lab b=some k -> k≠[]){r:Nat}{x:aM}(h:dz w B lab ρ r x):dz w B (kS lab) (tJ ρ) (oD r) x.up:=by
 have L:=Ao (ρ:=ρ) r;have hl:∀{b},lab b=some [r] -> kS lab b=some [oD r]:=λh=>by simp[kS,h,jJ]
 cases h with
 | blk b off cells e cs us C F T Y U=>
  refine .blk b off cells e _ us (L.trans C) (hl F) T (by rw[eE];exact Y) λj x D=>?_
  rw[dI]at D;cases E:cs[j]? with
  |none=>simp_all
  | some z=>
   rw[E]at D;injection D with D;subst D;exact⟨(U j z E).1,(U j z E).2.up O⟩
 |sl v y C F=>exact .sl v y (L.trans C) (RV.up O F)
 |mp b c Z l C F T he=>exact .mp b c Z l (L.trans C) (hl F) T he
 | gh us xs C D=>
  refine .gh us _ (L.trans C) λj x I=>?_
  rw[dI]at I;cases E:xs[j]? with
  |none=>simp_all
  | some z=>
   rw[E]at I;injection I with I;subst I;exact RA.up O (D j z E)
def Rl.up(h:Rl w0 N lab ρ σ a w):Rl w0 N (kS lab) (tJ ρ) σ.up a w:=by
 have L:=λb k D=>(h.cE b k D).2.2
 refine⟨h.below,λb k D=>?_,λn x C=>?_,λk=>RA.up L (h.tmp k),h.size,h.defers,λr l E=>?_,h.cY⟩
 ·unfold kS at D;cases hl:lab b with
  |none=>simp_all
  | some q=>
   rw[hl]at D;injection D with D;obtain⟨F,I,T⟩:=h.cE b q hl;exact⟨F,I,by rw[<- D];exact akM T⟩
 ·have C:(match xV n with | some r=>(σ.m r).map _ | none=>none)=some x:=C;cases O:xV n with
  |none=>simp_all
  | some r=>
   rw[O]at C;have C:(σ.m r).map _=some x:=C;cases hm:σ.m r with
   |none=>simp_all
   | some y=>
    rw[hm]at C;injection C with C;subst C;rw[akL O];exact(h.root r y hm).up L
 ·have U:stays r=true:=by
   have F:20000 <= r:=Nat.le_of_not_lt λY=>by rw[w0.low r Y]at E;cases E
   have I:r<60000:=Nat.lt_of_not_le λZ=>by rw[h.cY r (.inr Z)]at E;cases E
   unfold stays;rw[Nat.mod_eq_of_lt (Nat.lt_of_lt_of_le I akJ)];exact gP F
  have hu:oD r=r:=by simp[oD,U]
  have:=Ao (ρ:=ρ) r;rw[hu]at this;rw[this];exact h.fix r l E
def akN{f:Nat}{c:rY}(h:vj P f c):vj P f (Y7 c):=by
 refine⟨λN σ xs X Y k g=>h.1 N σ.up (xs.map A.up) X Y _ g,λN σ xs τ z F w0 lab ρ a w bB hR I L=>?_⟩
 obtain⟨O,y,C,T⟩:=(h.1 N σ.up (xs.map A.up)).jV F;injection C with C;injection C with U Z;subst U Z;have h3:=h.2 N σ.up (xs.map A.up) O y (T _ _);have cS:∀b k,lab b=some k->k≠[]:=λb k D=>(hR.cE b k D).2.2
 refine(h3 w0 _ _ a w bB hR.up (by rw[eE];exact I) λi=>?_).mono λe w' hp=>?_
 ·rw[dI];have:=L i;cases hx:xs[i]? with
  |none=>trivial
  | some x=>
   rw[hx]at this;exact RA.up cS this
 ·obtain⟨v,ax,ρ',he,E,hy⟩:=hp;exact⟨v,_,_,he,E.up,RA.up (λb k D=>(E.cE b k D).2.2) hy⟩
end
def big:Nat:=4611686018427387904
def r9(c:Code)(id:Nat):Code:=match (occs c).lookup id with
 |some (.loop b)=>b
 |_=>.skip
def bw(fn:Func):Code:=fn.body.getD .skip
def nY(l:aa (Nat×pJ)):dG:=λf=>l.lookup f
def CJ(P:Program):aa (Nat×pJ)->Prop
 |[]=>True
 |(f,c)::l=>(enters P f/\QK P f c)/\CJ P l
def tK{P:Program}:∀ (l:aa (Nat×pJ)),CJ P l -> fj P (nY l)
 |[],_=>λf c h=>by cases h
 | (E,F) :: l,⟨I,D⟩=>λf c h=>by
  have C:List.lookup f _=some c:=h;rw[List.lookup_cons]at C;split at C
  ·simp_all
  ·exact tK l D f c C
def kT(l:aa (Nat×rZ)):kP:=λid=>l.lookup id
def Sw(P:Program)(N:Nat)(code:Code):aa (Nat×rZ)->Prop
 |[]=>True
 |(id,b)::l=>(∃c,(occs code).lookup id=some c/\Ab P N (.block id c) b)/\Sw P N code l
def ids(l:aa (Nat×Code)):Bool:=(l.map (·.1)).all λi=>Nat.beq ((l.filter λp=>Nat.beq p.1 i).length) 1
def Za:∀ (l:aa (Nat×Code)) (p:Nat×Code),(∀ q∈l,q.1=p.1 -> q=p) -> p∈l -> l.lookup p.1=some p.2
 |[],p,_,h=>by cases h
 | q :: l,p,C,h=>by
  rw[List.lookup_cons];by_cases D:p.1=q.1
  ·simp_all
  ·have hb:(p.1==q.1)=false:=by simpa using D
   rw[hb];rcases fH.1 h with rfl|h
   ·simp_all
   ·exact Za l p (λq E=>C q (.tail _ E)) h
def akO{l:aa (Nat×Code)}(h:ids l=true){p q:Nat×Code}(D:p∈l)(E:q∈l)(F:q.1=p.1):q=p:=by
 have C:=bW.1 h p.1 (List.mem_map_of_mem D);have C:=cv C;have I:p∈l.filter λr=>Nat.beq r.1 p.1:=List.mem_filter.2 ⟨D,by simp⟩
 have L:q∈l.filter λr=>Nat.beq r.1 p.1:=List.mem_filter.2 ⟨E,by simp[F]⟩
 obtain⟨z,O⟩:=List.length_eq_one_iff.1 C
 grind
def Sx{P:Program}{N:Nat}{code:Code}(hi:ids (occs code)=true):∀ (l:aa (Nat×rZ)),Sw P N code l -> pN P N (kT l) (occs code)
 |[],_=>λp D b h=>by cases h
 | (id,L) :: l,⟨⟨c,O,T⟩,F⟩=>λp D b h=>by
  have C:List.lookup p.1 _=some b:=h;rw[List.lookup_cons]at C;split at C
  ·rename_i E;have E:p.1=id:=by simpa using E
   injection C with C;subst C;have:=Za _ p (λq I e=>akO hi D I e) D;simp_all
  ·exact Sx hi l F p D b C
def CK{P:Program}{N:Nat}{l:aa (Nat×Code)}:pN P N (kT []) l:=λp C b h=>by cases h
def ci(P:Program)(fn:Func)(C:Nat)(l:aa (Nat×pJ)):rY:=Y2 P fn.ntmps (59000+C) (nY l) (bw fn) fn.results
def akP{P:Program}{f:Nat}{fn:Func}(C:Nat)(l:aa (Nat×pJ))(D:P.funcs[f]?=some fn)(hl:CJ P l)(hb:fn.body=some (bw fn):=by kernel_rfl)(E:Nat.ble fn.ntmps 20000=true:=by kernel_rfl)(F:Nat.ble C 900=true:=by kernel_rfl)(I:(fn.name == "runtime.NumGoroutine")=false:=by kernel_rfl):enters P f/\vj P f (ci P fn C l):=
 akH D hb rfl (cr E) I ⟨by omega,by have:=cr F;omega⟩ (tK l hl)
def cj(P:Program)(fn:Func)(C:Nat)(l:aa (Nat×pJ)):rY:=Y7 (ci P fn C l)
def akQ{P:Program}{f:Nat}{fn:Func}{C:Nat}{l:aa (Nat×pJ)}(h:enters P f/\vj P f (ci P fn C l)):enters P f/\vj P f (cj P fn C l):=⟨h.1,akN h.2⟩
def Sz{P:Program}{f:Nat}{fn:Func}{ai:aa (Bool×TC)}{ro:aa (Bool×TC×Nat)}{F:jd ai->ah (gT ro)}(N:Nat)(l:aa (Nat×pJ))(b:aa (Nat×rZ))(C:P.funcs[f]?=some fn)(hl:CJ P l)(D:pN P N (kT b) (occs (bw fn)))(E:∀x,Ak P N (nY l) (kT b) (bw fn) fn.results (fl ai x) (qB ro)=F x)(hb:fn.body=some (bw fn):=by kernel_rfl)(I:fn.ntmps=N:=by kernel_rfl)(L:(fn.name == "runtime.NumGoroutine")=false:=by kernel_rfl)(O:Nat.ble ai.length N=true:=by kernel_rfl)(T:mI ro=true:=by kernel_rfl):enters P f/\iY P f (jI ai ro F):=akx C hb I L O T (tK l hl) D E
def akR{α β:Type}(a:α)(f:α->β):β:=f a
def Zb{P:Program}{id:Nat}{body:Code}{C:cc}{D:aa (Nat×cc)}{F:C.St->ah (C.St⊕r6 D)}{fuel:C.St->Nat}(N:Nat)(l:aa (Nat×pJ))(b:aa (Nat×rZ))(hl:CJ P l)(E:pN P N (kT b) (occs body))(I:∀x,CE P N (nY l) (kT b) body C D x=F x):Ab P N (.block id (.loop body)) (Lc id C D F fuel):=aks (tK l hl) E I
abbrev W6 (x:Int):Int:=IntKind.i64.wrap x
/-! Words for what printed functions say often. -/
def xI{α β:Type}(l:aa α)(i:Int)(k:α->ah β):ah β:=if h:0<=i/\i.toNat<l.length then (let e:=l[i.toNat]'h.2;k e)else none
def xC{α β:Type}(l:aa α)(i:Int)(k:ah β):ah β:=if h:0<=i/\i.toNat<l.length then k else none
def xM{α β:Type}(l:aa α)(i:Int)(k:α->ah β):ah β:=if h:i.toNat<l.length then (let e:=l[i.toNat]'h;k e)else none
def xL{α β:Type}(l:aa α)(i:Int)(k:α->ah β):ah β:=if h:0<=i/\i.toNat<l.length then (if h:i.toNat<l.length then (let e:=l[i.toNat]'h;k e)else none)else none
def xZ{α:Type}(l:aa α):Bool:=aT (([]:aa α).length+l.length)
def xA{α:Type}(l:aa α):aa α:=([]:aa α)++l
def aZ{S A C:Type}(L:S->ah (S⊕(A⊕Empty)))(s:S)(f:A->ah C):ah C:=(iter L big s).bind (Sum.elim f (λz=>nomatch z))
def bO{S A B C:Type}(L:S->ah (S⊕(A⊕(B⊕Empty))))(s:S)(f:A->ah C)(g:B->ah C):ah C:=(iter L big s).bind (Sum.elim f (Sum.elim g (λz=>nomatch z)))
def xG{S E:Type}(s:S):ah (S⊕E):=some (.inl s)
def ay{S A E:Type}(v:A):ah (S⊕(A⊕E)):=some (.inr (.inl v))
def aY{S A B E:Type}(v:B):ah (S⊕(A⊕(B⊕E))):=some (.inr (.inr (.inl v)))
abbrev tI:Tm:=.lf (.int .i64)
abbrev tB:Tm:=.lf (.bool)
structure KC (P:Program) where
 f:Nat
 c:pJ
 ok:enters P f/\QK P f c
def KL{P:Program}(l:aa (KC P)):aa (Nat×pJ):=l.map λk=>(k.f,k.c)
def tL{P:Program}:∀ l:aa (KC P),CJ P (KL l)
 |[]=>trivial
 |k::l=>⟨k.ok,tL l⟩
structure BK (P:Program) (N:Nat) (code:Code) where
 id:Nat
 b:rZ
 ok:Ab P N (.block id (.loop (r9 code id))) b
section
variable {P:Program} {f N:Nat} {fn:Func} {code:Code}
def BL(l:aa (BK P N code)):aa (Nat×rZ):=l.map λk=>(k.id,k.b)
def BC(l:aa (BK P N code)):aa (ah Code):=l.map λk=>(occs code).lookup k.id
def BD(l:aa (BK P N code)):aa (ah Code):=l.map λk=>some (.loop (r9 code k.id))
def Zc:∀ l:aa (BK P N code),BC l=BD l -> Sw P N code (BL l)
 |[],_=>trivial
 | k :: l,h=>by
  unfold BC BD at h;injection h with C D;exact⟨⟨_,C,k.ok⟩,Zc l D⟩
def BT(l:aa (BK P N code))(C:BC l=BD l)(hi:ids (occs code)=true):pN P N (kT (BL l)) (occs code):=Sx hi _ (Zc l C)
def lB(id:Nat)(C:cc)(D:aa (Nat×cc))(F:C.St->ah (C.St⊕r6 D)):rZ:=Lc id C D F λ_=>big
def lp{body:Code}{id:Nat}{C:cc}{D:aa (Nat×cc)}{F:C.St->ah (C.St⊕r6 D)}(l:aa (KC P))(E:∀x,CE P N (nY (KL l)) (kT []) body C D x=F x:=by intro x;kernel_rfl):Ab P N (.block id (.loop body)) (lB id C D F):=Zb N (KL l) [] (tL l) CK E
def lq{id:Nat}{C:cc}{D:aa (Nat×cc)}{F:C.St->ah (C.St⊕r6 D)}(l:aa (KC P))(b:aa (BK P N code))(E:BC b=BD b:=by kernel_rfl)(hi:ids (occs code)=true:=by kernel_rfl)(I:∀x,CE P N (nY (KL l)) (kT (BL b)) code C D x=F x:=by intro x;kernel_rfl):Ab P N (.block id (.loop code)) (lB id C D F):=Zb N (KL l) (BL b) (tL l) (BT b E hi) I
def kp{ai:aa (Bool×TC)}{ro:aa (Bool×TC×Nat)}{F:jd ai->ah (gT ro)}(N:Nat)(l:aa (KC P))(C:P.funcs[f]?=some fn)(D:∀x,Ak P N (nY (KL l)) (kT []) (bw fn) fn.results (fl ai x) (qB ro)=F x:=by intro x;kernel_rfl)(hb:fn.body=some (bw fn):=by kernel_rfl)(E:fn.ntmps=N:=by kernel_rfl)(I:(fn.name == "runtime.NumGoroutine")=false:=by kernel_rfl)(L:Nat.ble ai.length N=true:=by kernel_rfl)(O:mI ro=true:=by kernel_rfl):enters P f/\iY P f (jI ai ro F):=Sz N (KL l) [] C (tL l) CK D hb E I L O
def km{ps:aa PK}{ro:aa (Bool×TC×Nat)}{F:jE ps->ah (gT ro×pG (dP ps))}(N:Nat)(l:aa (KC P))(C:P.funcs[f]?=some fn)(D:∀x,Al P N (nY (KL l)) (kT []) (bw fn) fn.results (lU ps x) (ja ps 0 x) (CG (dP ps) ro)=F x:=by intro x;kernel_rfl)(hb:fn.body=some (bw fn):=by kernel_rfl)(E:fn.ntmps=N:=by kernel_rfl)(I:(fn.name == "runtime.NumGoroutine")=false:=by kernel_rfl)(L:Nat.ble ps.length N=true:=by kernel_rfl)(O:Nat.ble N 20000=true:=by kernel_rfl)(T:mI ro=true:=by kernel_rfl):enters P f/\th P f ⟨ps,ro,F⟩:=Lg C hb E I L O T (tK _ (tL l)) CK D
def kn{ps:aa PK}{ro:aa (Bool×TC×Nat)}{F:jE ps->ah (gT ro×pG (dP ps))}(N:Nat)(l:aa (KC P))(b:aa (BK P N (bw fn)))(C:P.funcs[f]?=some fn)(D:BC b=BD b:=by kernel_rfl)(hi:ids (occs (bw fn))=true:=by kernel_rfl)(E:∀x,Al P N (nY (KL l)) (kT (BL b)) (bw fn) fn.results (lU ps x) (ja ps 0 x) (CG (dP ps) ro)=F x:=by intro x;kernel_rfl)(hb:fn.body=some (bw fn):=by kernel_rfl)(I:fn.ntmps=N:=by kernel_rfl)(L:(fn.name == "runtime.NumGoroutine")=false:=by kernel_rfl)(O:Nat.ble ps.length N=true:=by kernel_rfl)(T:Nat.ble N 20000=true:=by kernel_rfl)(U:mI ro=true:=by kernel_rfl):enters P f/\th P f ⟨ps,ro,F⟩:=Lg C hb I L O T U (tK _ (tL l)) (BT b D hi) E
def bK(ai:aa (Bool×TC))(ro:aa (Bool×TC×Nat))(F:jd ai->ah (gT ro))(N:Nat)(l:aa (KC P))(C:P.funcs[f]?=some fn)(D:∀x,Ak P N (nY (KL l)) (kT []) (bw fn) fn.results (fl ai x) (qB ro)=F x:=by intro x;kernel_rfl)(hb:fn.body=some (bw fn):=by kernel_rfl)(E:fn.ntmps=N:=by kernel_rfl)(I:(fn.name == "runtime.NumGoroutine")=false:=by kernel_rfl)(L:Nat.ble ai.length N=true:=by kernel_rfl)(O:mI ro=true:=by kernel_rfl):KC P:=⟨f,.p (jI ai ro F),Sz N (KL l) [] C (tL l) CK D hb E I L O⟩
def cA(ai:aa (Bool×TC))(ro:aa (Bool×TC×Nat))(F:jd ai->ah (gT ro))(N:Nat)(l:aa (KC P))(b:aa (BK P N (bw fn)))(C:P.funcs[f]?=some fn)(D:BC b=BD b:=by kernel_rfl)(hi:ids (occs (bw fn))=true:=by kernel_rfl)(E:∀x,Ak P N (nY (KL l)) (kT (BL b)) (bw fn) fn.results (fl ai x) (qB ro)=F x:=by intro x;kernel_rfl)(hb:fn.body=some (bw fn):=by kernel_rfl)(I:fn.ntmps=N:=by kernel_rfl)(L:(fn.name == "runtime.NumGoroutine")=false:=by kernel_rfl)(O:Nat.ble ai.length N=true:=by kernel_rfl)(T:mI ro=true:=by kernel_rfl):KC P:=⟨f,.p (jI ai ro F),Sz N (KL l) (BL b) C (tL l) (BT b D hi) E hb I L O T⟩
def kj(ps:aa PK)(ro:aa (Bool×TC×Nat))(F:jE ps->ah (gT ro×pG (dP ps)))(N:Nat)(l:aa (KC P))(C:P.funcs[f]?=some fn)(D:∀x,Al P N (nY (KL l)) (kT []) (bw fn) fn.results (lU ps x) (ja ps 0 x) (CG (dP ps) ro)=F x:=by intro x;kernel_rfl)(hb:fn.body=some (bw fn):=by kernel_rfl)(E:fn.ntmps=N:=by kernel_rfl)(I:(fn.name == "runtime.NumGoroutine")=false:=by kernel_rfl)(L:Nat.ble ps.length N=true:=by kernel_rfl)(O:Nat.ble N 20000=true:=by kernel_rfl)(T:mI ro=true:=by kernel_rfl):KC P:=⟨f,.m ⟨ps,ro,F⟩,Lg C hb E I L O T (tK _ (tL l)) CK D⟩
def pV(ps:aa PK)(ro:aa (Bool×TC×Nat))(F:jE ps->ah (gT ro×pG (dP ps)))(N:Nat)(l:aa (KC P))(b:aa (BK P N (bw fn)))(C:P.funcs[f]?=some fn)(D:BC b=BD b:=by kernel_rfl)(hi:ids (occs (bw fn))=true:=by kernel_rfl)(E:∀x,Al P N (nY (KL l)) (kT (BL b)) (bw fn) fn.results (lU ps x) (ja ps 0 x) (CG (dP ps) ro)=F x:=by intro x;kernel_rfl)(hb:fn.body=some (bw fn):=by kernel_rfl)(I:fn.ntmps=N:=by kernel_rfl)(L:(fn.name == "runtime.NumGoroutine")=false:=by kernel_rfl)(O:Nat.ble ps.length N=true:=by kernel_rfl)(T:Nat.ble N 20000=true:=by kernel_rfl)(U:mI ro=true:=by kernel_rfl):KC P:=⟨f,.m ⟨ps,ro,F⟩,Lg C hb I L O T U (tK _ (tL l)) (BT b D hi) E⟩
def Zd{A R:Type}(F:R)(_:A):R:=F
def bS{A Z R:Type}(F:A->R)(x:A×Z):R:=F x.1
def cz{A B Z R:Type}(F:A->B->R)(x:A×B×Z):R:=F x.1 x.2.1
def jK{A B C Z R:Type}(F:A->B->C->R)(x:A×B×C×Z):R:=F x.1 x.2.1 x.2.2.1
def tM{A B C D Z R:Type}(F:A->B->C->D->R)(x:A×B×C×D×Z):R:=F x.1 x.2.1 x.2.2.1 x.2.2.2.1
def SA{A B C D E Z R:Type}(F:A->B->C->D->E->R)(x:A×B×C×D×E×Z):R:=F x.1 x.2.1 x.2.2.1 x.2.2.2.1 x.2.2.2.2.1
end
end Go.Proofs.YthmgjjfedieljaaGreatDoor
