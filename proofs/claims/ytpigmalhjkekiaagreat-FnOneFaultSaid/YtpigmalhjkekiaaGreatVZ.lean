/-
  Running the program over pure contents, and that it follows (part Z). Nothing here is a claim.
-/
import Derived.Test.YtpigmalhjkekiaaGreatV4
set_option linter.unusedSimpArgs false
namespace Go.Proofs.YtpigmalhjkekiaaGreat
set_option linter.defProp false
open Go.RowKit
set_option linter.unusedVariables false
section
variable {P:Program} {w w':World} {w0:Wd} {B N:Nat} {af aA:bw} {ρ ρ':Nat->Loc} {σ:S} {a:Act} {X:Type} {d:Nat} {r:X} {o:Oper} {Φ:eN} {Λ:ni}
def am5{E:aj Tmp}{g:Bool}{k:S -> aj X}(h:tS σ E g k=some r):∃ C,k C=some r /\ ∀ a w,R w0 N σ a w -> R w0 N C a w:=by
 unfold tS at h;cases g with
 |false=>grind
 | true=>
  rw[aq]at h;split at h
  ·rename_i d;split at h
   ·rename_i b hb;have key:∀ c:Bool,b=c -> ∀ a w,R w0 N σ a w -> R w0 N (σ.set d (.lf (.v (.bool c)))) a w:=by
     rintro c rfl a w ⟨af,ρ,hR⟩
     refine⟨af,ρ,hR.below,hR.dj,hR.root,λk=>?_,hR.size,hR.defers,hR.fix,hR.cS⟩
     show RA w w0.heap.size af ρ (bJ σ.t d (.lf (.v (.bool b))) k) _;by_cases D:k=d
     ·subst D;rw[bM,<- hb];exact hR.tmp k
     ·rw[cy _ _ _ D];exact hR.tmp k
    grind
   ·grind
  ·grind
def Nn(U:fZ P Φ)(ops:Array Oper):∀ (rest:aa Oper) (j:Nat) (σ:S) (k:S -> aj X),CG P N Φ ops j rest σ k=some r -> ∃ dc,k dc=some r /\ ∀ a w,R w0 N σ a w -> ∀ Q,(∀ E w',R w0 N dc E w' -> Q Exit.normal E w') -> wpList P ops Q rest a w
 |[],j,σ,k,h=>⟨σ,h,λa w hR Q D=>D a w hR⟩
 | o :: rest,j,σ,k,h=>by
  unfold CG at h;split at h
  ·rename_i Y;obtain⟨q8,h1,tX⟩:=al0 U h;obtain⟨σ2,h2,we⟩:=am5 h1;obtain⟨I,O,T⟩:=Nn U ops rest (j+1) σ2 k h2
   refine⟨I,O,λa w hR Q D=>?_⟩
   obtain⟨af,ρ,C⟩:=hR;simp only[wpList,EL Y C,if_true];exact .inl (tX a w _ Q ⟨af,ρ,C⟩ λE w' tQ=>T E w' (we E w' tQ) Q D)
  ·rename_i Y;unfold iI at h;split at h
   ·rename_i Z;obtain⟨I,O,T⟩:=Nn U ops rest _ σ k h
    refine⟨I,O,λa w hR Q D=>?_⟩
    obtain⟨af,ρ,C⟩:=hR;simp[wpList,EL Y C,Z];exact T a w ⟨af,ρ,C⟩ Q D
   ·rename_i d Z;cases hN:Nat.blt d N with
    |false=>simp_all
    | true=>
     rw[hN,aq]at h;obtain⟨I,O,T⟩:=Nn U ops rest (j+1) _ k h
     refine⟨I,O,λa w hR Q D=>?_⟩
     obtain⟨af,ρ,C⟩:=hR;simp only[wpList,EL Y C,Z];exact T _ w ⟨af,ρ,C.set rfl (by have:=cE hN;omega)⟩ Q D
  ·cases h
def EM(eC:fZ P Φ):∀ (c:Code) (σ:S) (k:Exit->S->aj X),lT P N Φ Λ c σ k=some r->qB P N Λ (occs c)->AW P w0 N c σ λe D=>k e D=some r:=by
 intro c
 induction c with
 |skip=>exact λσ k h _ a w hR=>wp_skip ⟨σ,h,hR⟩
 |label l=>exact λσ k h _ a w hR=>wp_label ⟨σ,h,hR⟩
 |ret=>exact λσ k h _ a w hR=>wp_ret ⟨σ,h,hR⟩
 |exit id=>exact λσ k h _ a w hR=>wp_exit ⟨σ,h,hR⟩
 | region id ops draw=>
  intro σ k h _ a w hR;cases draw with
  | true=>
   simp only[lT]at h;cases hm:P.follows .mixedOrders with
   |false=>rw[hm]at h;cases h
   | true=>
    rw[hm,aq]at h
    haveI:Inhabited Wd:=⟨w0⟩
    exact am4 eC hm h (λτ iS a w hR=>⟨τ,iS,hR⟩) hR
  | false=>
   simp only[lT]at h;obtain⟨D,h',hw⟩:=Nn (w0:=w0) eC ops _ _ _ _ h;exact wp_region_list (hw a w hR _ λT w' C=>⟨D,h',C⟩)
 | seq x y U Y=>
  intro σ k h I a w hR;simp only[lT]at h;have Z:=U σ _ h (λp E=>I p (List.mem_append_left _ E))
  refine wp_seq (wp_mono (Z a w hR) λe T w' he=>?_)
  obtain⟨D,O,C⟩:=he;cases e with
  |normal=>exact Y D k O (λp E=>I p (List.mem_append_right _ E)) T w' C
  |_=>exact⟨D,O,C⟩
 | cond c x y U Y=>
  intro σ k h I a w hR;simp only[lT]at h;split at h
  ·rename_i b hb;obtain⟨af,ρ,C⟩:=hR;have hc:=C.aL c;rw[hb]at hc;have hcv:=hc.2.zW;cases b with
   |true=>exact wp_cond_true hcv (U σ k h (λp E=>I p (List.mem_append_left _ E)) a w ⟨af,ρ,C⟩)
   |false=>exact wp_cond_false hcv (Y σ k h (λp E=>I p (List.mem_append_right _ E)) a w ⟨af,ρ,C⟩)
  ·cases h
 | block id c ih=>
  intro σ k h I a w hR;simp only[lT]at h;split at h
  next b hb=>exact I (id,c) (.head _) b hb X σ k r w0 h a w hR
  ·have Z:=ih σ _ h (λp E=>I p (.tail _ E))
   refine wp_block (wp_mono (Z a w hR) λe T w' he=>?_)
   obtain⟨D,O,C⟩:=he;cases e with
   | exit id'=>
    simp only[Exit.inBlock];by_cases hid:id'=id
    ·simp only[hid,if_true]at O ⊢;exact⟨D,O,C⟩
    ·simp only[hid,if_false]at O ⊢;exact⟨D,O,C⟩
   |_=>exact⟨D,O,C⟩
 |_=>exact λσ k h=>by simp[lT]at h
end
/-! What a loop carries. -/
inductive Lm where
 |int (k:IntKind)
 |bool
 |str
 |own (r:Nat)
 |aH (t:TC) (o:Nat)
def Lm.T:Lm->Type
 |.int _=>Int
 |.bool=>Bool
 |.str=>ByteArray
 |.own _=>ah
 |.aH t _=>aa (Proofs.YtpigmalhjkekiaaGreat.T t)
def Lm.mk:(m:Lm)->m.T->Lf
 |.int k,n=>.v (.int k n)
 |.bool,b=>.v (.bool b)
 |.str,s=>.v (.str s)
 |.own r,_=>.own [r]
 |.aH t o,l=>.v (.sl t o false l)
def Lm.rd:(m:Lm)->Lf->aj m.T
 |.int k,.v (.int C n)=>if C=k then some n else none
 |.bool,.v (.bool b)=>some b
 |.str,.v (.str s)=>some s
 |.own r,.own [D]=>bif Nat.beq D r then some ()else none
 |.aH t o,.v x=>bif Nat.blt o 2 then x.fK t o else none
 |_,_=>none
inductive Tm where
 |lf (m:Lm)
 |aG (r j:Nat)
 |fp (t:TC) (o:Nat)
 |fc (f:Nat) (t:TC)
 |ag (t:TC)
 |pk (r n:Nat)
def Tm.T:Tm->Type
 |.lf m=>m.T
 |.aG _ _=>ah
 |.fp t _=>Proofs.YtpigmalhjkekiaaGreat.T t
 |.fc _ t=>Proofs.YtpigmalhjkekiaaGreat.T t
 |.ag t=>Proofs.YtpigmalhjkekiaaGreat.T t
 |.pk _ _=>ah
def Tm.mk:(m:Tm)->m.T->A
 |.lf m,x=>.lf (m.mk x)
 |.aG r j,_=>.aG r j
 |.fp t o,x=>.js (enc t o x)
 |.fc f t,x=>.nU f (enc t 0 x)
 |.ag t,x=>.agg ((enc t 0 x).map .v)
 |.pk r n,_=>.pk r n
def Tm.rd:(m:Tm)->A->aj m.T
 |.lf m,.lf x=>m.rd x
 |.aG r j,.aG C D=>bif Nat.beq C r&&Nat.beq D j then some ()else none
 |.fp t o,.js cs=>bif Nat.blt o 2 then dec t o cs else none
 |.fc f t,.nU f' cs=>bif Nat.beq f' f then dec t 0 cs else none
 | .ag t,.agg cs=>(match uW cs with
  |some E=>dec t 0 E
  |none=>none)
 |.pk r n,.pk C n'=>bif Nat.beq C r&&Nat.beq n' n then some ()else none
 |_,_=>none
def Ip:aa Lm->Type
 |[]=>ah
 |m::C=>m.T×Ip C
def yU:(C:aa Lm)->Ip C->aa Lf
 |[],_=>[]
 |m::C,x=>m.mk x.1::yU C x.2
def Np:(C:aa Lm)->aa Lf->aj (Ip C)
 |[],[]=>some ()
 | m :: C,x :: xs=>match m.rd x,Np C xs with
  |some y,some ys=>some (y,ys)
  |_,_=>none
 |_,_=>none
inductive Rm where
 |sl (t:TC) (o:Nat)
 |st (t:TC)
 |az (ms:List Lm)
 |mp
def Rm.T:Rm->Type
 |.sl t _=>aa (Proofs.YtpigmalhjkekiaaGreat.T t)
 |.st t=>Proofs.YtpigmalhjkekiaaGreat.T t
 |.az C=>Ip C
 |.mp=>aa (Int×Bool)
def Rm.mk:(m:Rm)->m.T->aS
 |.sl t o,l=>.sl (.sl t o false l)
 |.st t,x=>.az ((enc t 0 x).map .v)
 |.az C,x=>.az (yU C x)
 |.mp,l=>.mp l
def Rm.rd:(m:Rm)->aS->aj m.T
 |.sl t o,.sl y=>y.fK t o
 | .st t,.az cs=>(match uW cs with
  |some C=>dec t 0 C
  |none=>none)
 |.az D,.az cs=>Np D cs
 |.mp,.mp l=>some l
 |_,_=>none
def EN:aa (Nat×Tm)->Type
 |[]=>ah
 |(_,m)::C=>m.T×EN C
def yV:(C:aa (Nat×Tm))->EN C->Nat->A
 |[],_,_=>.undef
 |(n,m)::C,x,k=>bif Nat.beq k n then m.mk x.1 else yV C x.2 k
def Iq:(C:aa (Nat×Tm))->(Nat->A)->aj (EN C)
 |[],_=>some ()
 | (n,m) :: C,t=>match m.rd (t n),Iq C t with
  |some x,some xs=>some (x,xs)
  |_,_=>none
def yW:aa (Nat×Rm)->Type
 |[]=>ah
 |(_,m)::C=>m.T×yW C
def yX:(C:aa (Nat×Rm))->yW C->Nat->aj aS
 |[],_,_=>none
 |(n,m)::C,x,k=>bif Nat.beq k n then some (m.mk x.1)else yX C x.2 k
def EO:(C:aa (Nat×Rm))->(Nat->aj aS)->aj (yW C)
 |[],_=>some ()
 | (n,m) :: C,t=>match (t n).bind m.rd,EO C t with
  |some x,some xs=>some (x,xs)
  |_,_=>none
structure jM where
 ts:List (Nat×Tm)
 rs:List (Nat×Rm)
def jM.St(C:jM):Type:=EN C.ts×yW C.rs
def jM.mk'(C:jM)(x:C.St):S:=⟨yV C.ts x.1,yX C.rs x.2⟩
def jM.Nq(C:jM)(σ:S):aj C.St:=match Iq C.ts σ.t,EO C.rs σ.m with
 |some x,some y=>some (x,y)
 |_,_=>none
/-! Roots by other names. -/
abbrev Rn:=aa (Nat×Nat)
def Rn.inv(rs:Rn)(n:Nat):aj Nat:=(rs.find? λp=>Nat.beq p.2 n).map (·.1)
def Rn.add(rs:Rn)(r n:Nat):Rn:=bif rs.any (λp=>Nat.beq p.1 r&&Nat.beq p.2 n)then rs else (r,n)::rs
def US(n:Nat):aj Nat->Bool
 |some m=>Nat.beq m n
 |none=>false
def Rn.ok(rs:Rn):Bool:=rs.all λp=>(Nat.beq p.1 p.2 ||Nat.ble 60000 p.2)&&US p.2 (rs.lookup p.1)&&US p.1 (rs.inv p.2)
def Lf.eM(rs:Rn):Lf->Lf
 |.v x=>.v x
 | .own [r]=>(match rs.lookup r with
  |some n=>.own [n]
  |none=>.dead)
 |_=>.dead
def A.eM(rs:Rn):A->A
 |.lf x=>.lf (x.eM rs)
 | .aG r j=>(match rs.lookup r with
  |some n=>.aG n j
  |none=>.undef)
 |.js cs=>.js cs
 |.nU f cs=>.nU f cs
 |.agg cs=>.agg (cs.map (Lf.eM rs))
 |_=>.undef
def aS.eM(rs:Rn):aS->aS
 |.az cs=>.az (cs.map (Lf.eM rs))
 |.sl y=>.sl y
 |.mp l=>.mp l
 |.gh _=>.gh []
def S.eM(rs:Rn)(σ:S):S:=⟨λk=>(σ.t k).eM rs,λn=>match rs.inv n with
 |some r=>(σ.m r).map (aS.eM rs)
 |none=>none⟩
def rnL:Lm->Lf->Rn->Rn
 |.own n,.own [r],rs=>rs.add r n
 |_,_,rs=>rs
def UT:aa Lm->aa Lf->Rn->Rn
 |m::C,x::xs,rs=>UT C xs (rnL m x rs)
 |_,_,rs=>rs
def rnT:Tm->A->Rn->Rn
 |.lf m,.lf x,rs=>rnL m x rs
 |.aG n j,.aG r C,rs=>rs.add r n
 |_,_,rs=>rs
def abS(t:Nat->A):aa (Nat×Tm)->Rn->Rn
 |[],rs=>rs
 |(k,m)::C,rs=>abS t C (rnT m (t k) rs)
def abU(m:Nat->aj aS):aa (Nat×Rm)->Rn->Rn
 |[],rs=>rs
 | (n,x) :: xs,rs=>abU m xs (match x,rs.inv n with
  | .az C,some r=>(match m r with
   |some (.az cs)=>UT C cs rs
   |_=>rs)
  | .az C,none=>(match m n with
   |some (.az cs)=>UT C cs (rs.add n n)
   |_=>rs)
  |_,some _=>rs
  |_,none=>rs.add n n)
def jM.rn(C:jM)(σ:S):Rn:=abU σ.m C.rs (abS σ.t C.ts [])
def UU(rs:aa (Nat×Rm))(p:Nat×Tm)(σ:S):S:=match p.2,σ.t p.1 with
 | .lf (.own n),.lf (.v .nil)=>(match rs.lookup n with
  |some (.sl t o)=>bif Nat.ble 60000 n then ⟨bJ ((σ.drop n).root n (.sl (.sl t o false []))).t p.1 (.lf (.own [n])),((σ.drop n).root n (.sl (.sl t o false []))).m⟩else σ
  |_=>σ)
 |_,_=>σ
def Nr(rs:aa (Nat×Rm)):aa (Nat×Tm)->S->S
 |[],σ=>σ
 |p::ps,σ=>Nr rs ps (UU rs p σ)
def UW(n j r:Nat)(σ:S):S:=match σ.m r with
 | some (.az cs)=>(match cs[j]? with
  |some (.v .nil)=>⟨σ.t,bJ σ.m r (some (.az (cs.set j (.own [n]))))⟩
  |_=>σ)
 |_=>σ
def UX(rs:aa (Nat×Rm))(n j r:Nat)(σ:S):S:=match rs.lookup n with
 |some (.sl t o)=>bif Nat.ble 60000 n then UW n j r ((σ.drop n).root n (.sl (.sl t o false [])))else σ
 |_=>σ
def CN(rs:aa (Nat×Rm))(r:Nat):Nat->aa Lm->aa Lf->S->S
 |j,.own n::C,.v .nil::cs,σ=>CN rs r (j+1) C cs (UX rs n j r σ)
 |j,_::C,_::cs,σ=>CN rs r (j+1) C cs σ
 |_,_,_,σ=>σ
def Ns(rs:aa (Nat×Rm)):aa (Nat×Rm)->S->S
 |[],σ=>σ
 | (r,.az C) :: ps,σ=>Ns rs ps (match σ.m r with
  |some (.az cs)=>CN rs r 0 C cs σ
  |_=>σ)
 |_::ps,σ=>Ns rs ps σ
def jM.rd1(C:jM)(σ:S):aj C.St:=bif (C.rn σ).ok then C.Nq (Ns C.rs C.rs (σ.eM (C.rn σ)))else none
def jM.rd(C:jM)(σ:S):aj C.St:=match C.Nq σ with
 |some x=>some x
 |none=>C.rd1 (Nr C.rs C.ts σ)
section
variable {P:Program} {w w':World} {w0:Wd} {B N:Nat} {af aA:bw} {ρ ρ':Nat->Loc} {σ:S} {a:Act} {X:Type} {d:Nat} {r:X} {o:Oper} {Φ:eN} {Λ:ni}
def Lm.ru{m:Lm}{x:Lf}{y:m.T}(h:m.rd x=some y){u:Value}(C:eB w B af ρ x u):eB w B af ρ (m.mk y) u:=by
 unfold Lm.rd at h;split at h
 ·split at h
  next D=>subst D;injection h with h;subst h;exact C
  ·cases h
 ·injection h with h;subst h;exact C
 ·injection h with h;subst h;exact C
 ·rename_i E I;cases hb:Nat.beq I E with
  |false=>simp_all
  |true=>obtain rfl:=cJ hb;exact C
 ·rename_i t o x;cases hb:Nat.blt o 2 with
  |false=>rw[hb]at h;cases h
  | true=>
   rw[hb]at h;have:=cE hb;exact⟨by simp[V.aH];omega,C.2.wk (V.GF h)⟩
 ·cases h
def Tm.ru{m:Tm}{x:A}{y:m.T}(h:m.rd x=some y){u:Value}(I:RA w B af ρ x u):RA w B af ρ (m.mk y) u:=by
 cases m with
 | lf m=>
  cases x with
  |lf x=>exact Lm.ru h I
  |_=>cases h
 | aG r j=>
  cases x with
  | aG U j'=>
   have h:(bif Nat.beq U r&&Nat.beq j' j then some ()else none)=some y:=h;cases hb:(Nat.beq U r&&Nat.beq j' j)with
   |false=>simp_all
   | true=>
    rw[aM]at hb;obtain rfl:=cJ hb.1;obtain rfl:=cJ hb.2;exact I
  |_=>cases h
 | fp t o=>
  cases x with
  | js cs=>
   have h:(bif Nat.blt o 2 then dec t o cs else none)=some y:=h;cases hb:Nat.blt o 2 with
   |false=>simp_all
   | true=>
    rw[hb,aq]at h;have ho:=cE hb;have D:=mj t o cs y h;obtain⟨b,off,Y,Z,h3,h4⟩:=I
    refine⟨b,off,Y,Z,h3,λj z C=>?_⟩
    have hj:j<cs.length:=by rw[D.1];exact(dZ.1 C).1
    have E:=bK hj;obtain⟨g1,v,g2,g3⟩:=h4 j _ E;exact⟨qU t o y (by omega) j z C,v,g2,g3.wk (D.2 j _ z E C)⟩
  |_=>cases h
 | fc f t=>
  cases x with
  | nU f' cs=>
   have h:(bif Nat.beq f' f then dec t 0 cs else none)=some y:=h;cases hb:Nat.beq f' f with
   |false=>simp_all
   | true=>
    rw[hb,aq]at h;obtain rfl:=cJ hb;have D:=mj t 0 cs y h;obtain⟨pv,e0,b,off,Y,Z,h3,h4⟩:=I
    refine⟨pv,e0,b,off,Y,Z,h3,λj z C=>?_⟩
    have hj:j<cs.length:=by rw[D.1];exact(dZ.1 C).1
    have E:=bK hj;obtain⟨g1,v,g2,g3⟩:=h4 j _ E;exact⟨qU t 0 y (by omega) j z C,v,g2,g3.wk (D.2 j _ z E C)⟩
  |_=>cases h
 | ag t=>
  cases x with
  | agg cs=>
   have h:(match uW cs with|some O=>dec t 0 O|none=>none)=some y:=h;cases kB:uW cs with
   |none=>simp_all
   | some O=>
    rw[kB]at h;have h:dec t 0 O=some y:=h;have gu:=G8 _ _ kB;have D:=mj t 0 O y h;obtain⟨us,Y,Z,h3⟩:=I
    refine⟨us,Y,?_,λj x hx=>?_⟩
    ·rw[Z,gu,fy,fy,D.1]
    ·rw[eO]at hx;cases C:(enc t 0 y)[j]? with
     |none=>simp_all
     | some z=>
      rw[C]at hx;injection hx with hx;subst hx;have hj:j<O.length:=by rw[D.1];exact(dZ.1 C).1
      have E:=bK hj;obtain⟨v,g1,g2⟩:=h3 j (.v O[j]) (by rw[gu,eO,E];rfl);exact⟨v,g1,qU t 0 y (by omega) j z C,g2.2.wk (D.2 j _ z E C)⟩
  |_=>cases h
 | pk r n=>
  cases x with
  | pk U n'=>
   have h:(bif Nat.beq U r&&Nat.beq n' n then some ()else none)=some y:=h;cases hb:(Nat.beq U r&&Nat.beq n' n)with
   |false=>simp_all
   | true=>
    rw[aM]at hb;obtain rfl:=cJ hb.1;obtain rfl:=cJ hb.2;exact I
  |_=>cases h
def abV:∀ (C:aa Lm) (cs:aa Lf) (y:Ip C),Np C cs=some y -> (yU C y).length=cs.length /\ ∀ (j:Nat) x,(yU C y)[j]?=some x -> ∃ z,cs[j]?=some z/\(∀ (w:World) (B:Nat) (af:bw) (ρ:Nat -> Loc) (u:Value),eB w B af ρ z u -> eB w B af ρ x u)
 |[],[],y,h=>⟨rfl,λj x D=>by simp[yU]at D⟩
 | m :: C,c :: cs,y,h=>by
  unfold Np at h;split at h
  ·rename_i Y ys E I;injection h with h;subst h;obtain⟨O,T⟩:=abV C cs ys I
   refine⟨by simp[yU,O],λj x D=>?_⟩
   cases j with
   |zero=>simp[yU]at D;subst D;exact⟨c,rfl,λw B af ρ u U=>Lm.ru E U⟩
   |succ j=>exact T j x (by simpa [yU]using D)
  ·cases h
def Rm.ru{m:Rm}{x:aS}{y:m.T}(h:m.rd x=some y){n:Nat}(C:eH w B af ρ n x):eH w B af ρ n (m.mk y):=by
 cases m with
 | sl t o=>
  cases C with
  |sl v y' D hr=>exact .sl v _ D (hr.wk (V.GF h))
  |az=>cases h
  |mp=>cases h
  |gh=>cases h
 | mp=>
  cases C with
  |gh=>cases h
  |sl=>cases h
  |az=>cases h
  |mp b c es l D hl I he=>injection h with h;subst h;exact .mp b c es _ D hl I he
 | st t=>
  cases C with
  |sl=>cases h
  |mp=>cases h
  |gh=>cases h
  | az b off cells e cs us D hl I O Z=>
   have h:(match uW cs with|some E=>dec t 0 E|none=>none)=some y:=h;cases kB:uW cs with
   |none=>simp_all
   | some E=>
    rw[kB]at h;have h:dec t 0 E=some y:=h;have gu:=G8 _ _ kB;have Y:=mj t 0 E y h
    refine .az b off cells e _ us D hl I (by rw[fy,<- Y.1];rw[gu,fy]at O;exact O) λj x C=>?_
    rw[eO]at C;cases U:(enc t 0 y)[j]? with
    |none=>simp_all
    | some z=>
     rw[U]at C;injection C with C;subst C;have hj:j<E.length:=by rw[Y.1];exact(dZ.1 U).1
     have hv:=bK hj;obtain⟨h1,h2⟩:=Z j (.v E[j]) (by rw[gu,eO,hv];rfl);exact⟨h1,qU t 0 y (by omega) j z U,h2.2.wk (Y.2 j _ z hv U)⟩
 | az ms=>
  cases C with
  |sl=>cases h
  |mp=>cases h
  |gh=>cases h
  | az b off cells e cs us D hl I O Z=>
   obtain⟨k1,k2⟩:=abV ms cs y h
   refine .az b off cells e _ us D hl I (by show off+(yU ms y).length <= _;rw[k1];exact O) λj x C=>?_
   grind
def UY:∀ (C:aa (Nat×Tm)) (t:Nat -> A) (y:EN C),Iq C t=some y -> ∀ k,yV C y k = .undef \/ ∃ m z,(Tm.rd m (t k)=some z/\yV C y k=m.mk z)
 |[],t,y,h,k=>.inl rfl
 | (n,m) :: C,t,y,h,k=>by
  unfold Iq at h;split at h
  ·rename_i x xs D E;injection h with h;subst h;by_cases I:k=n
   ·subst I;exact .inr ⟨m,x,D,by simp[yV]⟩
   ·have hb:Nat.beq k n=false:=by
     cases hb:Nat.beq k n with
     |false=>rfl
     |true=>simp_all
    simp only[yV,hb,av];exact UY C t xs E k
  ·cases h
def UZ:∀ (C:aa (Nat×Rm)) (t:Nat -> aj aS) (y:yW C),EO C t=some y -> ∀ k,yX C y k=none \/ ∃ m x z,t k=some x/\Rm.rd m x=some z/\yX C y k=some (m.mk z)
 |[],t,y,h,k=>.inl rfl
 | (n,m) :: C,t,y,h,k=>by
  unfold EO at h;split at h
  ·rename_i x xs D E;injection h with h;subst h;by_cases I:k=n
   ·subst I;cases O:t k with
    |none=>simp_all
    |some z=>rw[O]at D;exact .inr ⟨m,z,x,rfl,D,by simp[yX]⟩
   ·have hb:Nat.beq k n=false:=by
     cases hb:Nat.beq k n with
     |false=>rfl
     |true=>simp_all
    simp only[yX,hb,av];exact UZ C t xs E k
  ·cases h
def jM.abW{C:jM}{x:C.St}(h:C.Nq σ=some x)(hR:R w0 N σ a w):R w0 N (C.mk' x) a w:=by
 unfold jM.Nq at h;split at h
 ·rename_i u v O T;injection h with h;subst h;obtain⟨af,ρ,hR⟩:=hR
  refine⟨af,ρ,hR.below,hR.dj,λn y D=>?_,λk=>?_,hR.size,hR.defers,hR.fix,hR.cS⟩
  ·have D:yX C.rs v n=some y:=D;rcases UZ C.rs σ.m v T n with e | ⟨m,x,z,E,I,U⟩
   ·simp_all
   ·rw[U]at D;injection D with D;subst D;exact Rm.ru I (hR.root n x E)
  ·show RA _ _ _ _ (yV C.ts u k) _;rcases UY C.ts σ.t u O k with e | ⟨m,z,E,I⟩
   ·rw[e];trivial
   ·rw[I];exact Tm.ru E (hR.tmp k)
 ·cases h
def abX{n:Nat}{o:aj Nat}(h:US n o=true):o=some n:=by
 cases o with
 |none=>cases h
 |some m=>rw[cJ h]
def abY{rs:Rn}{r n:Nat}(h:rs.lookup r=some n):(r,n)∈rs:=by
 induction rs with
 |nil=>cases h
 |cons p rs C =>grind
def abZ{rs:Rn}{r n:Nat}(h:rs.inv n=some r):(r,n)∈rs:=by
 unfold Rn.inv at h;cases C:rs.find? _ with
 |none=>rw[C]at h;cases h
 | some p=>
  rw[C]at h;injection h with h;subst h;have D:=List.find?_some C;have E:=List.mem_of_find?_eq_some C;rw[<- cJ D];exact E
def Rn.fA(rs:Rn)(ρ:Nat->Loc):Nat->Loc:=λn=>match rs.inv n with
 |some r=>ρ r
 |none=>ρ n
def Rn.Nt{rs:Rn}(h:rs.ok=true){r n:Nat}(C:(r,n)∈rs):(r=n \/ 60000 <= n)/\rs.lookup r=some n/\rs.inv n=some r:=by
 have:=bT.1 h _ C;rw[aM,aM,dY]at this;refine⟨?_,abX this.1.2,abX this.2⟩;simp_all
def eB.eM{rs:Rn}(C:rs.ok=true){x:Lf}{u:Value}(h:eB w B af ρ x u):eB w B (eT af rs id) (rs.fA ρ) (x.eM rs) u:=by
 unfold Lf.eM;split
 ·exact⟨h.1,h.2.LS h.1 λb=>Ap⟩
 ·rename_i r;split
  next n D=>have hi:=(Rn.Nt C (abY D)).2.2;refine⟨h.1,?_⟩;have E:=h.2;simp[c9]at E ⊢;unfold Rn.fA;simp_all
  ·trivial
 ·trivial
def Rl.eM{rs:Rn}(O:rs.ok=true)(h:Rl w0 N af ρ σ a w):Rl w0 N (eT af rs id) (rs.fA ρ) (σ.eM rs) a w:=by
 have hl:∀ b r n,af b=some [r] -> rs.lookup r=some n -> eT af rs id b=some [n]:=by
  intro b r n E I;simp[eT,E,I]
 refine⟨h.below,λb k D=>?_,λn x C=>?_,λk=>?_,h.size,h.defers,λr l U=>?_,h.cS⟩
 ·unfold eT at D;split at D
  ·cases D
  ·rename_i k0 tR;split at D
   ·cases D
   ·rename_i r U;cases hn:rs.lookup r with
    |none=>grind
    | some n=>
     rw[hn]at D;injection D with D;subst D;obtain⟨E,I,_⟩:=h.dj b k0 tR;simp_all
 ·have C:(match rs.inv n with | some r=>(σ.m r).map (aS.eM rs) | none=>none)=some x:=C;cases hi:rs.inv n with
  |none=>grind
  | some r=>
   rw[hi]at C;have C:(σ.m r).map (aS.eM rs)=some x:=C;have va:=(Rn.Nt O (abZ hi)).2.1;have ck:rs.fA ρ n=ρ r:=by unfold Rn.fA;rw[hi]
   cases hm:σ.m r with
   |none=>grind
   | some y=>
    rw[hm]at C;injection C with C;subst C;cases h.root r y hm with
    | az b off cells e cs us E I hh hs hc=>
     refine .az b off cells e _ us (ck.trans E) (hl b r n I va) hh (by rw[fy];exact hs) λj x C=>?_
     rw[eO]at C;cases T:cs[j]? with
     |none=>grind
     | some z=>
      rw[T]at C;injection C with C;subst C;exact⟨(hc j z T).1,(hc j z T).2.eM O⟩
    | sl v y E I=>
     exact .sl v y (ck.trans E) (RV.eT (p:=[]) (nm:=id) I va)
    |mp b c es l E I hh he=>exact .mp b c es l (ck.trans E) (hl b r n I va) hh he
    |gh us xs E C=>exact .gh us _ (ck.trans E) λj x hj=>by simp at hj
 ·show RA _ _ _ _ ((σ.t k).eM rs) _;have D:=h.tmp k;generalize σ.t k=x at D;unfold A.eM;split
  ·exact D.eM O
  ·rename_i r j;split
   next n hn=>have hi:=(Rn.Nt O (abY hn)).2.2;obtain⟨b,off,E,I⟩:=D;exact⟨b,off,by unfold Rn.fA;rw[hi];exact E,I⟩
   ·trivial
  ·obtain⟨b,off,Y,Z,g3,g4⟩:=D
   refine⟨b,off,Y,Z,Ap g3,λj x C=>?_⟩
   obtain⟨f1,v,f2,f3⟩:=g4 j x C;exact⟨f1,v,f2,f3.LS f1 λb=>Ap⟩
  ·obtain⟨pv,e0,b,off,Y,Z,g3,g4⟩:=D
   refine⟨pv,e0,b,off,Y,Z,Ap g3,λj x C=>?_⟩
   obtain⟨f1,v,f2,f3⟩:=g4 j x C;exact⟨f1,v,f2,f3.LS f1 λb=>Ap⟩
  ·obtain⟨us,Y,Z,g3⟩:=D
   refine⟨us,Y,by rw[fy];exact Z,λj x C=>?_⟩
   rw[eO]at C;rename_i cs;cases T:cs[j]? with
   |none=>grind
   | some z=>
    rw[T]at C;injection C with C;subst C;obtain⟨v,f1,f2⟩:=g3 j z T;exact⟨v,f1,f2.eM O⟩
  ·trivial
 ·show rs.fA ρ r=l;unfold Rn.fA;split
  ·rename_i r0 hi;rcases(Rn.Nt O (abZ hi)).1 with e | e
   ·rw[e];exact h.fix r l U
   ·rw[h.cS r (.inr e)]at U;cases U
  ·exact h.fix r l U
def am6{rs:aa (Nat×Rm)}{p:Nat×Tm}(hR:R w0 N σ a w):R w0 N (UU rs p σ) a w:=by
 unfold UU;split
 ·rename_i n Y O;split
  ·rename_i t o hl;cases hb:Nat.ble 60000 n with
   |false=>exact hR
   | true=>
    have T:=cE hb;obtain⟨af,ρ,hR⟩:=hR;have D:=hR.tmp p.1;rw[O]at D;have U:a.tmps.getD p.1 undef = .slice none 0 0:=by
     have E:=D.2;generalize a.tmps.getD p.1 undef=u at E;cases E;rfl
    have C:=hR.new (d:=n) (x:=.sl (.sl t o false [])) (.dQ (.slice none 0 0)) (.sl _ _ (bM _ _ _) (.eS _ _ _)) (hR.cS n (.inr T))
    refine⟨af,_,C.below,C.dj,C.root,λk=>?_,C.size,C.defers,C.fix,C.cS⟩
    show RA _ _ _ _ (bJ ((σ.drop n).root n (.sl (.sl t o false []))).t p.1 (.lf (.own [n])) k) _;by_cases I:k=p.1
    ·subst I;rw[bM,U];exact⟨rfl,by simp[c9,bM]⟩
    ·rw[cy _ _ _ I];exact C.tmp k
  ·exact hR
 ·exact hR
def am7{n j r:Nat}{y:V}(hR:Rl w0 N af ρ σ a w)(U:ρ n = .dQ (.slice none 0 0)):Rl w0 N af ρ (UW n j r σ) a w:=by
 unfold UW;split
 ·rename_i cs Y;split
  ·rename_i O
   refine⟨hR.below,hR.dj,λE x C=>?_,hR.tmp,hR.size,hR.defers,hR.fix,hR.cS⟩
   have C:bJ σ.m r (some (.az (cs.set j (.own [n])))) E=some x:=C;by_cases T:E=r
   ·subst T;rw[bM]at C;injection C with C;subst C;cases hR.root E _ Y with
    | az b off cells e cs us Z I hh hs hc=>
     refine .az b off cells e _ us Z I hh (by rw[gR];exact hs) λi z D=>?_
     rw[List.getElem?_set]at D;by_cases hi:j=i
     ·subst hi;have dK:j<cs.length:=(dZ.1 O).1;rw[aW rfl,aW dK]at D;injection D with D;subst D;obtain⟨k1,k2⟩:=hc j _ O;refine⟨k1,?_⟩;have hu:us j = .slice none 0 0:=by
       have I:=k2.2;generalize us j=u at I;cases I;rfl
      rw[hu];exact⟨rfl,by simp only[c9,U]⟩
     ·grind
   ·rw[cy _ _ _ T]at C;exact hR.root E x C
  ·exact hR
 ·exact hR
def am8{rs:aa (Nat×Rm)}{n j r:Nat}(hR:R w0 N σ a w):R w0 N (UX rs n j r σ) a w:=by
 unfold UX;split
 ·rename_i t o hl;cases hb:Nat.ble 60000 n with
  |false=>exact hR
  | true=>
   have C:=cE hb;obtain⟨af,ρ,hR⟩:=hR;exact⟨af,_,am7 (y:=.nil) (hR.new _ (.sl _ _ (bM _ _ _) (.eS _ _ _)) (hR.cS n (.inr C))) (bM _ _ _)⟩
 ·exact hR
def U0{rs:aa (Nat×Rm)}{r:Nat}:∀ (C:aa Lm) (cs:aa Lf) (j:Nat) (σ:S),R w0 N σ a w -> R w0 N (CN rs r j C cs σ) a w
 |[],cs,j,σ,h=>by unfold CN;exact h
 | m :: C,[],j,σ,h=>by
  unfold CN;simp_all
 | m :: C,c :: cs,j,σ,h=>by
  unfold CN;split
  next D E=>cases D;cases E;exact U0 C cs _ _ (am8 h)
  next D E=>cases D;cases E;exact U0 C cs _ _ h
  ·exact h
def Ir{rs:aa (Nat×Rm)}:∀ (ps:aa (Nat×Rm)) (σ:S),R w0 N σ a w -> R w0 N (Ns rs ps σ) a w
 |[],σ,h=>h
 |(r,.sl t o)::ps,σ,h=>Ir ps σ h
 |(r,.st t)::ps,σ,h=>Ir ps σ h
 |(r,.mp)::ps,σ,h=>Ir ps σ h
 | (r,.az C) :: ps,σ,h=>by
  refine Ir ps _ ?_;split
  ·exact U0 C _ 0 σ h
  ·exact h
def ab0{rs:aa (Nat×Rm)}:∀ (ps:aa (Nat×Tm)) (σ:S),R w0 N σ a w->R w0 N (Nr rs ps σ) a w
 |[],σ,h=>h
 |p::ps,σ,h=>ab0 ps _ (am6 h)
def jM.ru{C:jM}{x:C.St}(h:C.rd σ=some x)(hR:R w0 N σ a w):R w0 N (C.mk' x) a w:=by
 unfold jM.rd at h;split at h
 next y D=>injection h with h;subst h;exact jM.abW D hR
 ·have hR:=ab0 (rs:=C.rs) C.ts σ hR;revert h hR;generalize Nr C.rs C.ts σ=E;intro h hR;unfold jM.rd1 at h;cases hb:(C.rn E).ok with
  |false=>simp_all
  | true=>
   rw[hb,aq]at h;obtain⟨af,ρ,hR⟩:=hR;exact jM.abW h (Ir C.rs _ ⟨_,_,hR.eM hb⟩)
end
def yY:aa V->aa Nat->aa Lf
 |[],_=>[]
 | x :: xs,ns=>bif x.plain then .v x :: yY xs ns else (match ns with
  |n::ns=>.own [n]::yY xs ns
  |[]=>.dead::yY xs [])
def CO:aa V->aa Nat->(Nat->aj aS)->Nat->aj aS
 |[],_,m,k=>m k
 | x :: xs,ns,m,k=>bif x.plain then CO xs ns m k else (match ns with
  |n::ns=>bif Nat.beq k n then some (.sl x)else CO xs ns m k
  |[]=>CO xs [] m k)
def ld(m:Nat->aj aS):aa Lf->aa Nat->aj (aa V)
 |[],[]=>some []
 | .v x :: cs,ns=>bif x.plain then (match ld m cs ns with
  |some C=>some (x::C)
  |none=>none)else none
 | .own [r] :: cs,n :: ns=>bif Nat.beq r n then (match m n with
  | some (.sl y)=>bif y.plain then none else (match ld m cs ns with
   |some C=>some (y::C)
   |none=>none)
  |_=>none)else none
 |_,_=>none
abbrev Gp:=Nat×TC×Nat×aa Nat
def Is:aa Gp->Type->Type
 |[],X=>X
 |g::gs,X=>T g.2.1×Is gs X
def Nu:(gs:aa Gp)->(rs:aa (Nat×Rm))->Is gs (yW rs)->Nat->aj aS
 |[],rs,x,k=>yX rs x k
 |(n,t,o,ns)::gs,rs,x,k=>bif Nat.beq k n then some (.az (yY (enc t o x.1) ns))else CO (enc t o x.1) ns (Nu gs rs x.2) k
def Nv:(gs:aa Gp)->(rs:aa (Nat×Rm))->(Nat->aj aS)->aj (Is gs (yW rs))
 |[],rs,m=>EO rs m
 | (n,t,o,ns) :: gs,rs,m=>match m n with
  | some (.az cs)=>(match ld m cs ns with
   | some C=>(match dec t o C,Nv gs rs m with
    |some x,some y=>some (x,y)
    |_,_=>none)
   |none=>none)
  |_=>none
def EP:aa V->aa Nat->aa Lm
 |[],_=>[]
 |.int k _::xs,ns=>.int k::EP xs ns
 |.bool _::xs,ns=>.bool::EP xs ns
 |.str _::xs,ns=>.str::EP xs ns
 |_::xs,n::ns=>.own n::EP xs ns
 |_::xs,[]=>.bool::EP xs []
def U1:aa V->aa Nat->aa (Nat×Rm)
 |.sl t o _ _::xs,n::ns=>(n,.sl t o)::U1 xs ns
 |_::xs,ns=>U1 xs ns
 |[],_=>[]
def U2:aa Gp->aa (Nat×Rm)->aa (Nat×Rm)
 |[],rs=>rs
 |(n,t,o,ns)::gs,rs=>(n,.az (EP (Zn t o) ns))::(U1 (Zn t o) ns++U2 gs rs)
structure bG where
 ts:List (Nat×Tm)
 rs:List (Nat×Rm)
 gs:List Gp
def bG.St(C:bG):Type:=EN C.ts×Is C.gs (yW C.rs)
def bG.mk'(C:bG)(x:C.St):S:=⟨yV C.ts x.1,Nu C.gs C.rs x.2⟩
def bG.Nw(C:bG)(σ:S):aj C.St:=match Iq C.ts σ.t,Nv C.gs C.rs σ.m with
 |some x,some y=>some (x,y)
 |_,_=>none
def bG.rd(C:bG)(σ:S):aj C.St:=match C.Nw σ with
 |some x=>some x
 | none=>match jM.rd ⟨C.ts,U2 C.gs C.rs⟩ σ with
  |some z=>C.Nw (jM.mk' ⟨C.ts,U2 C.gs C.rs⟩ z)
  |none=>none
section
variable {P:Program} {w w':World} {w0:Wd} {B N:Nat} {af aA:bw} {ρ ρ':Nat->Loc} {σ:S} {a:Act} {m:Nat->aj aS}
def lN.inv{x:V}{xs ys:aa V}(k:lN (x :: xs) ys):∃ y C,ys=y :: C/\Wk x y/\lN xs C:=by
 obtain⟨D,E⟩:=k;cases ys with
 |nil=>simp at D
 |cons y C=>exact⟨y,C,rfl,E 0 x y rfl rfl,by simpa using D,λj a b I hb=>E (j+1) a b (by simpa using I) (by simpa using hb)⟩
def Wk.ab1{x y:V}(h:Wk x y)(C:x.plain=true):y=x:=by
 cases h<;>first|rfl|cases C
def Wk.ab2{x y:V}(h:Wk x y)(C:x.plain=false):y.plain=false:=by
 cases h<;>first|exact C|rfl
def U3:∀ (cs:aa Lf) (ns:aa Nat) (C ys:aa V),ld m cs ns=some C -> lN C ys -> (yY ys ns).length=cs.length /\ ∀ (j:Nat) z,(yY ys ns)[j]?=some z -> cs[j]?=some z
 | [],[],C,ys,h,E=>by
  simp only[ld,jb]at h;subst h;have:ys=[]:=List.eq_nil_of_length_eq_zero E.1.symm;subst this;exact⟨rfl,λj z I=>by simp[yY]at I⟩
 | .v x :: cs,ns,C,ys,h,E=>by
  unfold ld at h;cases D:x.plain with
  |false=>simp_all
  | true=>
   rw[D,aq]at h;split at h
   ·rename_i us O;injection h with h;subst h;obtain⟨y,T,rfl,U,Y⟩:=E.inv;obtain rfl:=U.ab1 D;obtain⟨Z,e2⟩:=U3 cs ns us T O Y;simp only[yY,D,aq]
    refine⟨by simp[Z],λj z I=>?_⟩
    cases j with
    |zero=>simp_all
    |succ j=>simp_all
   ·cases h
 | .own [r] :: cs,n :: ns,C,ys,h,E=>by
  unfold ld at h;cases hb:Nat.beq r n with
  |false=>simp_all
  | true=>
   rw[hb,aq]at h;obtain rfl:=cJ hb;split at h
   ·rename_i y hy;cases D:y.plain with
    |true=>simp_all
    | false=>
     rw[D,av]at h;split at h
     ·rename_i us O;injection h with h;subst h;obtain⟨y',T,rfl,U,Y⟩:=E.inv;have hq:=U.ab2 D;obtain⟨Z,e2⟩:=U3 cs ns us T O Y;simp only[yY,hq,av]
      refine⟨by simp[Z],λj z I=>?_⟩
      cases j with
      |zero=>simp_all
      |succ j=>simp_all
     ·cases h
   ·cases h
 |[],_::_,C,ys,h,_=>by simp[ld]at h
 |.dead::_,_,C,ys,h,_=>by simp[ld]at h
 |.own []::_,_,C,ys,h,_=>by simp[ld]at h
 |.own (_::_::_)::_,_,C,ys,h,_=>by simp[ld]at h
 |.own [_]::_,[],C,ys,h,_=>by simp[ld]at h
def U4{f:Nat -> aj aS}{k:Nat}{x:aS}:∀ (cs:aa Lf) (ns:aa Nat) (D ys:aa V),ld m cs ns=some D -> lN D ys -> CO ys ns f k=some x -> f k=some x \/ ∃ v y,m k=some (.sl v)/\x = .sl y/\Wk v y
 | [],[],D,ys,h,I,C=>by
  simp only[ld,jb]at h;subst h;have:ys=[]:=List.eq_nil_of_length_eq_zero I.1.symm;subst this;exact .inl C
 | .v x' :: cs,ns,D,ys,h,I,C=>by
  unfold ld at h;cases E:x'.plain with
  |false=>simp_all
  | true=>
   rw[E,aq]at h;split at h
   next us O=>injection h with h;subst h;obtain⟨y,T,rfl,U,Y⟩:=I.inv;obtain rfl:=U.ab1 E;simp[CO,E]at C;exact U4 cs ns us T O Y C
   ·cases h
 | .own [r] :: cs,n :: ns,D,ys,h,I,C=>by
  unfold ld at h;cases hb:Nat.beq r n with
  |false=>simp_all
  | true=>
   rw[hb,aq]at h;obtain rfl:=cJ hb;split at h
   ·rename_i y hy;cases E:y.plain with
    |true=>simp_all
    | false=>
     rw[E,av]at h;split at h
     ·rename_i us O;injection h with h;subst h;obtain⟨y',T,rfl,U,Y⟩:=I.inv;have hq:=U.ab2 E;simp only[CO,hq,av]at C;cases Z:Nat.beq k r with
      | true=>
       rw[Z]at C;injection C with C;obtain rfl:=cJ Z
       grind
      | false=>
       rw[Z]at C;exact U4 cs ns us T O Y C
     ·cases h
   ·cases h
 |[],_::_,D,ys,h,_,_=>by simp[ld]at h
 |.dead::_,_,D,ys,h,_,_=>by simp[ld]at h
 |.own []::_,_,D,ys,h,_,_=>by simp[ld]at h
 |.own (_::_::_)::_,_,D,ys,h,_,_=>by simp[ld]at h
 |.own [_]::_,[],D,ys,h,_,_=>by simp[ld]at h
def ab3:∀ (gs:aa Gp) (rs:aa (Nat×Rm)) (y:Is gs (yW rs)),Nv gs rs m=some y -> ∀ k x,Nu gs rs y k=some x -> ∃ O,m k=some O /\ ∀ (w:World) (B:Nat) (af:bw) (ρ:Nat -> Loc),eH w B af ρ k O -> eH w B af ρ k x
 | [],rs,y,h,k,x,C=>by
  have h:EO rs m=some y:=h;have C:yX rs y k=some x:=C;rcases UZ rs m y h k with e|⟨m',O,z,E,I,e3⟩
  ·simp_all
  ·rw[e3]at C;injection C with C;subst C;exact⟨O,E,λw B af ρ D=>Rm.ru I D⟩
 | (n,t,o,ns) :: gs,rs,y,h,k,x,C=>by
  unfold Nv at h;split at h
  ·rename_i cs hm;split at h
   ·rename_i T Z;split at h
    ·rename_i x1 y1 h1 h2;injection h with h;subst h;have hw:=mj t o T x1 h1;simp only[Nu]at C;cases U:Nat.beq k n with
     | true=>
      rw[U,aq]at C;injection C with C;subst C;obtain rfl:=cJ U;obtain⟨E,I⟩:=U3 cs ns T _ Z hw
      refine⟨_,hm,λw B af ρ D=>?_⟩
      cases D with
      |az b off cells e _ us Y hl hh hs hc=>exact .az b off cells e _ us Y hl hh (by rw[E];exact hs) λj z hz=>hc j z (I j z hz)
     | false=>
      rw[U,av]at C;rcases U4 cs ns T _ Z hw C with e|⟨v,y',E,rfl,I⟩
      ·exact ab3 gs rs y1 h2 k x e
      ·refine⟨_,E,λw B af ρ D=>?_⟩
       cases D with
       |sl u _ Y D=>exact .sl u _ Y (D.wk I)
    ·cases h
   ·cases h
  ·cases h
def bG.ab4{C:bG}{x:C.St}(h:C.Nw σ=some x)(hR:R w0 N σ a w):R w0 N (C.mk' x) a w:=by
 unfold bG.Nw at h;split at h
 ·rename_i u v I O;injection h with h;subst h;obtain⟨af,ρ,hR⟩:=hR
  refine⟨af,ρ,hR.below,hR.dj,λn y T=>?_,λk=>?_,hR.size,hR.defers,hR.fix,hR.cS⟩
  ·obtain⟨U,D,E⟩:=ab3 C.gs C.rs v O n y T;exact E _ _ _ _ (hR.root n U D)
  ·show RA _ _ _ _ (yV C.ts u k) _;rcases UY C.ts σ.t u I k with e | ⟨m,z,D,E⟩
   ·rw[e];trivial
   ·rw[E];exact Tm.ru D (hR.tmp k)
 ·cases h
def bG.ru{C:bG}{x:C.St}(h:C.rd σ=some x)(hR:R w0 N σ a w):R w0 N (C.mk' x) a w:=by
 unfold bG.rd at h;split at h
 next y D=>injection h with h;subst h;exact bG.ab4 D hR
 ·split at h
  next z E=>exact bG.ab4 h (jM.ru E hR)
  ·cases h
end
def AQ:Exit->aj Nat
 |.normal=>some 0
 |.ret=>some 1
 |.exit n=>some (n+2)
 |_=>none
def U5:Nat->Exit
 |0=>.normal
 |1=>.ret
 |n+2=>.exit n
def tZ{e:Exit}{n:Nat}(h:AQ e=some n):e=U5 n:=by
 cases e<;>simp[AQ]at h<;>subst h<;>rfl
def vp:aa (Nat×bG)->Type
 |[]=>Empty
 |(_,C)::r=>C.St⊕vp r
def Ny:(l:aa (Nat×bG))->Nat->S->aj (vp l)
 |[],_,_=>none
 | (n,C) :: r,e,σ=>bif Nat.beq n e then (match C.rd σ with
  |some x=>some (.inl x)
  |none=>none)else (match Ny r e σ with
  |some x=>some (.inr x)
  |none=>none)
def U6{X:Type}:(l:aa (Nat×bG))->vp l->(Exit->S->aj X)->aj X
 |[],z,_=>nomatch z
 | (n,C) :: r,z,k=>match z with
  |.inl x=>k (U5 n) (C.mk' x)
  |.inr z=>U6 r z k
def iter{α β:Type}(step:α->aj (α⊕β)):Nat->α->aj β
 |0,_=>none
 | n+1,x=>match step x with
  |some (.inl y)=>iter step n y
  |some (.inr z)=>some z
  |none=>none
def ER(P:Program)(N:Nat)(Φ:eN)(Λ:ni)(body:Code)(C:bG)(D:aa (Nat×bG))(x:C.St):aj (C.St⊕vp D):=
 lT P N Φ Λ body (C.mk' x) λe σ=>match AQ e with
  | some 0=>(match C.rd σ with
   |some x=>some (.inl x)
   |none=>none)
  | some n=>(match Ny D n σ with
   |some x=>some (.inr x)
   |none=>none)
  |none=>none
def U7{X:Type}(id:Nat)(k:Exit->S->aj X)(e:Exit)(σ:S):aj X:=
 match e with
 |.exit C=>if C=id then k .normal σ else k (.exit C) σ
 |e=>k e σ
def Nz(id:Nat)(C:bG)(D:aa (Nat×bG))(F:C.St->aj (C.St⊕vp D))(fuel:C.St->Nat):tU:=
 ⟨λX σ k=>match C.rd σ with
  | some x=>(match iter F (fuel x) x with
   |some z=>U6 D z (U7 id k)
   |none=>none)
  |none=>none⟩
def lu:aa (Bool×TC)->Type
 |[]=>ah
 |(_,t)::r=>T t×lu r
def gJ:(l:aa (Bool×TC))->lu l->aa Pt
 |[],_=>[]
 |(b,t)::r,x=>(b,enc t 0 x.1)::gJ r x.2
def yZ:(l:aa (Bool×TC))->aa Pt->aj (lu l)
 |[],[]=>some ()
 | (b,t) :: r,(C,D) :: ps=>bif b==C then (match dec t 0 D,yZ r ps with
  |some x,some xs=>some (x,xs)
  |_,_=>none)else none
 |_,_=>none
def iL(ai:aa (Bool×TC))(ro:aa (Bool×TC×Nat))(F:lu ai->aj (je ro)):jH:=
 ⟨λX args k=>match yZ ai args with
  | some x=>(match F x with
   |some y=>k (fm ro y)
   |none=>none)
  |none=>none⟩
def U8:Pt->A
 |(false,[x])=>.lf (.v x)
 |(true,xs)=>.agg (xs.map .v)
 |(false,.bool true::c::cs)=>.js (c::cs)
 |(false,.bool false::.int .i64 (.ofNat g)::c::cs)=>.nU g (c::cs)
 |_=>.undef
def ab5(args:aa Pt):S:=⟨λk=>match args[k]? with
 |some p=>U8 p
 |none=>.undef,λ_=>none⟩
def rz{X:Type}(P:Program)(N:Nat)(Φ:eN)(Λ:ni)(code:Code)(C:Array ResultVar)(args:aa Pt)(k:gv->aj X):aj X:=
 lT P N Φ Λ code (ab5 args) λe σ=>match AQ e with
  |some 0=>Ho P σ C k
  |some 1=>Ho P σ C k
  |_=>none
section
variable {P:Program} {w w':World} {w0:Wd} {B N:Nat} {af aA:bw} {ρ ρ':Nat->Loc} {σ:S} {a:Act} {X:Type} {d:Nat} {r:X} {o:Oper} {Φ:eN} {Λ:ni}
def ab6:∀ (l:aa (Nat×bG)) (e:Nat) (z:vp l),Ny l e σ=some z->∀ (X:Type) (k:Exit->S->aj X),∃ D,U6 l z k=k (U5 e) D/\∀ a w,R w0 N σ a w->R w0 N D a w
 |[],e,z,h=>by cases h
 | (n,E) :: l,e,z,h=>by
  intro X k;unfold Ny at h;cases hb:Nat.beq n e with
  | true=>
   obtain rfl:=cJ hb;rw[hb,aq]at h;split at h
   next x C=>injection h with h;subst h;exact⟨E.mk' x,rfl,λa w hR=>bG.ru C hR⟩
   ·cases h
  | false=>
   rw[hb,av]at h;split at h
   next x C=>injection h with h;subst h;exact ab6 l e x C X k
   ·cases h
def am9{id:Nat}{body:Code}{E:bG}{U:aa (Nat×bG)}{F:E.St -> aj (E.St⊕vp U)}{fuel:E.St -> Nat}(eC:fZ P Φ)(vr:qB P N Λ (occs body))(hF:∀ x,ER P N Φ Λ body E U x=F x):CI P N (.block id (.loop body)) (Nz id E U F fuel):=by
 intro X σ k r w0 h a w hR;simp only[Nz]at h;split at h
 ·rename_i x I;split at h
  ·rename_i z hz;refine wp_block ?_;have key:∀ (n:Nat) (x:E.St),iter F n x=some z -> ∀ (a:Act) (w:World),R w0 N (E.mk' x) a w -> ∀ (b:Frame) (O:aa Item) (cs:aa Frame),
     ∃e T w',Exit.inBlock id (λe T w'=>∃dc,k e dc=some r/\R w0 N dc T w') e T w'/\Arrives P (lone (b.at a (.code body::.inLoop body::O)) cs w) b O cs e T w':=by
    intro n
    induction n with
    |zero=>intro x I;simp[iter]at I
    | succ n ih=>
     intro x I a w hR b O cs;simp only[iter]at I;have kC:∃ y,ER P N Φ Λ body E U x=some y/\(match y with | .inl y=>iter F n y=some z | .inr z'=>z'=z):=by
      rw[hF];split at I
      ·grind
      ·grind
      ·cases I
     obtain⟨y,hy,Y⟩:=kC;unfold ER at hy;have hwp:=EM (w0:=w0) eC body _ _ hy vr a w hR;obtain⟨e,a1,w1,⟨q8,D,tQ⟩,Z⟩:=hwp b (.inLoop body::O) cs;split at D
     ·rename_i C;have C:=tZ C;subst C;split at D
      next x1 HE=>injection D with D;subst D;obtain⟨e2,a2,w2,qX,ana⟩:=ih x1 Y a1 w1 (bG.ru HE tQ) b O cs;exact⟨e2,a2,w2,qX,.of_steps (Steps.trans Z (.one step_inLoop)) ana⟩
      ·cases D
     ·rename_i n' cA C;have C:=tZ C;split at D
      ·rename_i z1 It;injection D with D;subst D;have Y:z1=z:=Y;subst Y;obtain⟨σ2,oI,kZ⟩:=ab6 (w0:=w0) (N:=N) U n' z1 It X (U7 id k);rw[oI]at h;rw[<- C]at h;refine⟨e,a1,w1,?_,?_⟩
       ·cases e with
        | exit id'=>
         simp only[U7]at h;simp only[Exit.inBlock];split at h
         ·grind
         ·grind
        |_=>exact⟨σ2,h,kZ a1 w1 tQ⟩
       ·refine .pass (x:=.inLoop body) rfl (λ_ _=>.inl ?_) Z
        intro e';rw[e']at C
        match n',cA,C with
        |0,cA,_=>exact cA rfl
        |1,_,C=>cases C
        |n+2,_,C=>cases C
      ·cases D
     ·cases D
   intro b O cs;obtain⟨e,T,w',hq,Z⟩:=key (fuel x) x hz a w (bG.ru I hR) b O cs;exact⟨e,T,w',hq,.of_steps (.one step_loop) Z⟩
  ·cases h
 ·cases h
def PV.vg{key:Nat->aa Nat}{b:Bool}{xs ys:aa V}{u:Value}(h:PV w B af key (b,xs) u)(k:lN xs ys):PV w B af key (b,ys) u:=by
 obtain⟨us,E,I,O⟩:=h
 refine⟨us,E,I.trans k.1,λj y C=>?_⟩
 have D:j<xs.length:=by rw[k.1];exact(dZ.1 C).1
 obtain⟨v,T,U⟩:=O j _ (bK D);exact⟨v,T,U.wk (k.2 j _ y (bK D) C)⟩
def Am.vg{cs C:aa V}{u:Value}(h:Am w cs u)(k:lN cs C):Am w C u:=by
 obtain⟨b,off,I,hb,O⟩:=h
 refine⟨b,off,I,hb,λj y D=>?_⟩
 have E:j<cs.length:=by rw[k.1];exact(dZ.1 D).1
 obtain⟨v,T,U⟩:=O j _ (bK E);exact⟨v,T,U.wk (k.2 j _ y (bK E) D)⟩
def PA.vg{b:Bool}{xs ys:aa V}{u:Value}(h:PA w (b,xs) u)(k:lN xs ys):PA w (b,ys) u:=by
 cases h with
 |v _ _ h=>exact .v _ _ (h.vg k)
 | p c cs _ h=>
  obtain⟨y,E,rfl,C,D⟩:=k.inv;cases C;have h:=h.vg D;obtain⟨O,fq,rfl,_,_⟩:=D.inv;exact .p _ _ _ h
 | f g c cs u h=>
  obtain⟨y,E,rfl,C,D⟩:=k.inv;cases C;obtain⟨y,E,rfl,C,I⟩:=D.inv;cases C;have h:=h.vg I;obtain⟨O,fq,rfl,_,_⟩:=I.inv;exact .f _ _ _ _ h
def PA.ra{p:Pt}{u:Value}(h:PA w p u)(D:∀ y∈p.2,y.aH=true):RA w w.heap.size (λ_=>none) ρ (U8 p) u:=by
 have U:∀ {cs:aa V} {u:Value},Am w cs u -> (∀ y∈cs,y.aH=true) -> RF w w.heap.size (λ_=>none) cs u:=by
  rintro cs u ⟨b,off,rfl,hb,E⟩ D
  refine⟨b,off,rfl,hb,rfl,λj x Y=>⟨D x (gT Y),E j x Y⟩⟩
 cases h with
 | v _ _ h=>
  obtain⟨us,Z,hs,E⟩:=h;obtain⟨b,xs⟩:=p;cases b with
  | true=>
   refine⟨us,Z,by rw[fy];exact hs,λi y C=>?_⟩
   rw[eO]at C;cases I:xs[i]? with
   |none=>simp_all
   | some z=>
    rw[I]at C;injection C with C;subst C;obtain⟨v,O,T⟩:=E i z I;exact⟨v,O,D z (gT I),T⟩
  | false=>
   subst Z;have h1:=hs.symm;obtain⟨x,rfl⟩:=List.length_eq_one_iff.1 h1;obtain⟨v,O,T⟩:=E 0 x rfl;have:u=v:=by simpa using O
   subst this;exact⟨D x (by simp),T⟩
 |p c cs _ h=>exact U h λy C=>D y (.tail _ C)
 |f g c cs u h=>exact⟨u,rfl,U h λy C=>D y (.tail _ (.tail _ C))⟩
def U9:∀ (l:aa (Bool×TC)) (ps:aa Pt) (x:lu l),yZ l ps=some x -> (gJ l x).length=ps.length /\ ∀ (i:Nat) p,(gJ l x)[i]?=some p -> ∃ q,ps[i]?=some q/\q.1=p.1/\lN q.2 p.2
 |[],[],x,h=>⟨rfl,λi p C=>by simp[gJ]at C⟩
 | (b,t) :: r,(D,E) :: ps,x,h=>by
  unfold yZ at h;cases hb:b==D with
  |false=>simp_all
  | true=>
   rw[hb,aq]at h;have hb:b=D:=by simpa using hb
   subst hb;split at h
   ·rename_i y ys I O;injection h with h;subst h;obtain⟨T,U⟩:=U9 r ps ys O
    refine⟨by simp[gJ,T],λi p C=>?_⟩
    cases i with
    |zero=>simp[gJ]at C;subst C;exact⟨(b,E),rfl,rfl,mj t 0 E y I⟩
    |succ i=>exact U i p (by simpa [gJ]using C)
   ·cases h
 |[],_::_,x,h=>by simp[yZ]at h
 |_::_,[],x,h=>by simp[yZ]at h
def mD(l:aa (Bool×TC×Nat)):Bool:=l.all λp=>Nat.ble (full p.2.1) p.2.2
def ab7(t:TC)(g:Nat)(x:T t)(h:full t <= g):(enc t g x).all V.loc=true:=by
 rw[bT];intro y D;have E:=zS t g x y D;have hl:=LR t g x y D;cases y with
 | sl I C q l=>
  have O:C=g:=by simpa [V.gr]using E
  subst O;have hl:=cE hl;show An I C=true
  match C,h with
  |0,h=>omega
  |1,h=>omega
  | n+2,h=>
   simp only[An,dY];left;exact ja (by omega)
 |_=>rfl
def Va:∀ (l:aa (Bool×TC×Nat)) (ps:aa Pt) (x:je l),mD l=true -> q5 l ps=some x -> (vb l x).length=ps.length /\ ∀ (nm:Nat -> Nat) (off:Nat) (C:aa Value),jR w B af nm off ps C -> jR w B af nm off (vb l x) C
 |[],[],x,_,h=>⟨rfl,λnm off C D=>D⟩
 | [(b,t,g)],[(E,C)],x,O,h=>by
  unfold q5 at h;cases hb:b==E with
  |false=>rw[hb]at h;cases h
  | true=>
   rw[hb]at h;have h:dec t g C=some x:=h;have hb:b=E:=by simpa using hb
   subst hb;have U:full t <= g:=by simpa [mD]using O
   refine⟨rfl,λnm off us D=>?_⟩
   match us,D with
   |[u],⟨⟨_,I⟩,_⟩=>exact⟨⟨ab7 t g x U,I.vg (mj t g C x h)⟩,trivial⟩
 | (b,t,g) :: q :: r,(E,C) :: ps,x,O,h=>by
  unfold q5 at h;cases hb:b==E with
  |false=>grind
  | true=>
   rw[hb,aq]at h;have hb:b=E:=by simpa using hb
   subst hb;have T:full t <= g/\mD (q :: r)=true:=by
    simp only[mD,List.all_cons,aM]at O ⊢;simp_all
   split at h
   ·rename_i y ys I Y;injection h with h;subst h;obtain⟨Z,k2⟩:=Va (q :: r) ps ys T.2 Y
    refine⟨by simp[vb,Z],λnm off us D=>?_⟩
    match us,D with
    | u :: us,⟨⟨_,hp⟩,wo⟩=>
     have hlen:=(mj t g C y I).1;refine⟨⟨ab7 t g y T.1,hp.vg (mj t g C y I)⟩,?_⟩;simp_all
   ·cases h
 |[],_::_,x,_,h=>by simp[q5]at h
 |[_],[],x,_,h=>by simp[q5]at h
 |[_],_::_::_,x,_,h=>by simp[q5]at h
 |_::_::_,[],x,_,h=>by simp[q5]at h
def ab8{l:aa (Bool×TC×Nat)}{E:gv}{x:je l}(O:mD l=true)(h:mz l E=some x){nm:Nat -> Nat}{v:Value}(D:qY w B af nm E v):qY w B af nm (fm l x) v:=by
 cases E with
 | one p=>
  obtain⟨C,I⟩:=Va (w:=w) (B:=B) (af:=af) l [p] x O h;have D:jR w B af nm 0 [p] [v]:=D;have:=I nm 0 [v] D;unfold fm
  match hm:vb l x,C,this with
  |[q],_,this=>exact this
  |[],C,_=>cases C
  |_::_::_,C,_=>simp at C
 | fz ps=>
  simp only[mz]at h;cases hb:Nat.beq ps.length 1 with
  |true=>simp_all
  | false=>
   rw[hb,av]at h;obtain⟨C,I⟩:=Va (w:=w) (B:=B) (af:=af) l ps x O h;obtain⟨T,e,D⟩:=D;have:=I nm 0 _ D;unfold fm
   match hm:vb l x,C,this with
   |[q],C,this=>simp_all
   |[],_,this=>exact⟨T,e,this⟩
   |_::_::_,_,this=>exact⟨T,e,this⟩
def ab9:∀ (l:aa (Bool×TC)) (x:lu l),(gJ l x).length=l.length
 |[],x=>rfl
 |(b,t)::l,x=>by simp[gJ,ab9 l]
def acd:∀ (l:aa (Bool×TC)) (x:lu l) (j:Nat) (p:Pt),(gJ l x)[j]?=some p->∀ y∈p.2,y.aH=true
 |[],x,j,p,C,_,_=>by simp[gJ]at C
 | (b,t) :: l,x,0,p,C,y,D=>by
  simp[gJ]at C;subst C;obtain⟨i,hi⟩:=List.mem_iff_getElem?.1 D;exact qU t 0 x.1 (by omega) i y hi
 |(b,t)::l,x,j+1,p,C,y,D=>acd l x.2 j p (by simpa [gJ]using C) y D
def Iu{f:Nat}{fn:Func}{code:Code}{vt:aa Pt}{ro:aa (Bool×TC×Nat)}{y:je ro}(hf:P.funcs[f]?=some fn)(hb:fn.body=some code)(hN:fn.ntmps=N)(T:vt.length <= N)(fk:mD ro=true)
  (eC:fZ P Φ) (vr:qB P N Λ (occs code)) (anb:∀(j:Nat) p,vt[j]?=some p -> ∀y∈p.2,y.aH=true) (I:rz P N Φ Λ code fn.results vt (mz ro)=some y) (nm:Nat -> Nat) (w:World) (bH:Array Value) (U:qw w vt bH) (Y:Hd w (λ_=>none)):
  Calls P f bH w λe w'=>∃v aA,e = .returned v/\Below w.heap.size w w'/\(∀b k,aA b=some k -> w.heap.size <= b/\b<w'.heap.size/\k≠[])/\qY w' w.heap.size aA nm (fm ro y) v:=by
 have T:bH.size <= N:=by rw[U.1];exact T
 refine calls_of_wp hf hb ?_;unfold rz at I;have hR:R (.of w Y) N (ab5 vt) { tmps:=bH++Array.replicate (fn.ntmps-bH.size) undef,defers:=[] } w:=by
  refine⟨λ_=>none,λ_=>.az 0 0,.of (Below.refl w.heap.size w) (dg _),(λb k D=>by cases D),(λn y I=>by cases I),λj=>?_,by simp[hN];omega,rfl,(λr l h=>by cases h),(λ_ _=>rfl)⟩
  show RA w w.heap.size _ _ (match vt[j]? with|some p=>U8 p|none=>.undef) _;cases Z:vt[j]? with
  |none=>trivial
  | some p=>
   obtain⟨u,hu,tO⟩:=U.2 j p Z;have hj:=(iY.1 hu).1;have e:(bH++Array.replicate (fn.ntmps-bH.size) undef).getD j undef=u:=by rw[iO,Array.getElem?_append_left hj,hu];rfl
   rw[e];exact tO.ra (anb j p Z)
 refine wp_mono (EM (w0:=.of w Y) eC code _ _ I vr _ w hR) λe O w' C=>?_
 obtain⟨dc,D,af,ρ,E⟩:=C;have fin:Ho P dc fn.results (mz ro)=some y -> O.defers=[] /\ ∃ v,(results fn O.tmps).run P w' = .ok v w' /\ ∃ AR aA,Ending.returned v=Ending.returned AR/\Below w.heap.size w w'/\(∀ b k,aA b=some k -> w.heap.size <= b/\b<w'.heap.size/\k≠[])/\qY w' w.heap.size aA nm (fm ro y) AR:=by
  intro qG;obtain⟨res,kD,eR⟩:=akm qG;obtain⟨v,aA,h1,h2,h3⟩:=eR af ρ O w' E nm;exact⟨E.defers,v,h1,v,aA,rfl,⟨E.below.os,E.below.tape,E.below.output,E.below.size,λk D=>E.below.block k D rfl⟩,λb k hb=>⟨(h2 b k hb).1.resolve_right (λh=>h rfl),(h2 b k hb).2⟩,ab8 fk kD h3⟩
 split at D
 next C=>have C:=tZ C;subst C;exact fin D
 next C=>have C:=tZ C;subst C;exact fin D
 ·cases D
def anc{ai:aa (Bool×TC)}{args:aa Pt}{x:lu ai}{bH:Array Value}(E:yZ ai args=some x)(C:qw w args bH):qw w (gJ ai x) bH:=by
 obtain⟨I,O⟩:=U9 ai args x E
 refine⟨C.1.trans I.symm,λj p T=>?_⟩
 obtain⟨q,U,D,Y⟩:=O j p T;obtain⟨u,Z,tO⟩:=C.2 j q U;refine⟨u,Z,?_⟩;obtain⟨b,ys⟩:=p;obtain⟨b',xs⟩:=q;simp only at D;subst D;exact tO.vg Y
def Vb{f:Nat}{ai:aa (Bool×TC)}{ro:aa (Bool×TC×Nat)}{F:lu ai->aj (je ro)}(h:∀ x y,F x=some y->∀ (nm:Nat->Nat) (w:World) (bH:Array Value),qw w (gJ ai x) bH->Hd w (λ_=>none)->
  Calls P f bH w λe w'=>∃v aA,e = .returned v/\Below w.heap.size w w'/\(∀b k,aA b=some k->w.heap.size<=b/\b<w'.heap.size/\k≠[])/\qY w' w.heap.size aA nm (fm ro y) v):jl P f (iL ai ro F):=by
 refine⟨λargs X Y k g=>?_,λargs T C nm w bH D E=>?_⟩
 ·unfold iL;dsimp only;split
  ·split<;>rfl
  ·rfl
 ·simp only[iL]at C;split at C
  ·rename_i x I;split at C
   next y O=>injection C with C;subst C;exact h x y O nm w bH (anc I D) E
   ·cases C
  ·cases C
def ane{f:Nat}{fn:Func}{code:Code}{ai:aa (Bool×TC)}{ro:aa (Bool×TC×Nat)}{F:lu ai->aj (je ro)}(C:P.funcs[f]?=some fn)(hb:fn.body=some code)(D:fn.ntmps=N)(E:(fn.name == "runtime.NumGoroutine")=false)(I:Nat.ble ai.length N=true)(O:mD ro=true)
  (T:fZ P Φ) (U:qB P N Λ (occs code)) (Y:∀x,rz P N Φ Λ code fn.results (gJ ai x) (mz ro)=F x):enters P f/\jl P f (iL ai ro F):=
 ⟨⟨fn,C,E,by rw[hb];rfl⟩,Vb λx y Z nm w bH mw hQ=>Iu C hb D (by rw[ab9];exact cE I) O T U (acd ai x) ((Y x).trans Z) nm w bH mw hQ⟩
def anf{f:Nat}{fn:Func}{code:Code}{t:TC}{g:Nat}{F:aa (T t)->aj (aa (T t))}(E:P.funcs[f]?=some fn)(hb:fn.body=some code)(O:fn.ntmps=N)(CP:(fn.name == "runtime.NumGoroutine")=false)(Vc:Nat.ble 1 N=true)(U:mD [(false,.sl t,g)]=true)
  (Y:fZ P Φ) (Z:qB P N Λ (occs code)) (hF:∀x:aa (T t),rz P N Φ Λ code fn.results [(false,[.sl t 0 false x])] (mz [(false,.sl t,g)])=F x)
  (h0:rz P N Φ Λ code fn.results [(false,[.nil])] (mz [(false,.sl t,g)])=some ([]:aa (T t))) (h1:rz P N Φ Λ code fn.results [(false,[.sl t 0 true []])] (mz [(false,.sl t,g)])=some ([]:aa (T t))):
  enters P f/\jl P f (iL [(false,.sl t)] [(false,.sl t,g)] λx=>bif jG x.1 then some ([]:aa (T t))else F x.1):=by
 refine⟨⟨fn,E,CP,by rw[hb];rfl⟩,Vb λx y D nm w bH I hQ=>?_⟩
 obtain⟨l,_⟩:=x;have I:qw w [(false,[.sl t 0 false l])] bH:=I;have hle:1<=N:=cE Vc;have NA:∀ (v:V),v.aH=true->∀ (j:Nat) p,([(false,[v])]:aa Pt)[j]?=some p->∀ y∈p.2,y.aH=true:=by
  intro v hv j p C y D;rcases j with _|j
  ·injection C with C;subst C;rw[iw.1 D];exact hv
  ·cases C
 obtain⟨u,hu,C⟩:=I.2 0 _ rfl;obtain⟨us,e,_,hv⟩:=C.pv;have e:us = #[u]:=e;subst e;obtain⟨v,g1,hr⟩:=hv 0 _ rfl;have g1:u=v:=by simpa using g1
 subst g1;have one:∀ v:V,RV w w.heap.size (λ_=>none) [] v u->qw w [(false,[v])] bH:=λv hr=>⟨I.1,λj p C=>by
  rcases j with _|j
  ·injection C with C;subst C;exact⟨u,hu,.v _ _ ⟨#[u],rfl,rfl,λi x hx=>by
    rcases i with _|i
    ·injection hx with hx;subst hx;exact⟨u,rfl,hr⟩
    ·cases hx⟩⟩
  ·cases C⟩
 cases l with
 |cons a l=>exact Iu (vt:=[(false,[.sl t 0 false (a::l)])]) E hb O hle U Y Z (NA _ rfl) ((hF _).trans D) nm w bH I hQ
 | nil=>
  have D:some ([]:aa (T t))=some y:=D;injection D with D;subst D;cases hr with
  |eS=>exact Iu (vt:=[(false,[.nil])]) E hb O hle U Y Z (NA _ rfl) h0 nm w bH (one _ (.nil _)) hQ
  |fU _ _ _ A c ho=>exact Iu (vt:=[(false,[.sl t 0 true []])]) E hb O hle U Y Z (NA _ rfl) h1 nm w bH (one _ (.gj _ _ _ _ _ ho)) hQ
  |aH _ _ _ qn l b off cap us ho hl L4 hB kz hc mZ=>exact Iu (vt:=[(false,[.sl t 0 true []])]) E hb O hle U Y Z (NA _ rfl) h1 nm w bH (one _ (.gj _ _ _ _ _ ho)) hQ
end
def Iw(N:Nat)(σ:S)(t:Nat):S:=match σ.t t with
 | .view [q] s 0 j=>bif Nat.blt t N then (match σ.m q with
  |some (.sl (.sl tc (o+2) C l))=>bif Nat.beq (full tc) 0 then (((σ.drop q).drop t).root t (.sl (.sl tc 2 false (l.take j)))).set t (.lf (.own [t]))else σ
  |_=>σ)else σ
 |_=>σ
def wO(N:Nat)(σ:S):aa ResultVar->S
 |[]=>σ
 |.tmp t::r=>wO N (Iw N σ t) r
 |_::r=>wO N σ r
def CQ{X:Type}(P:Program)(N:Nat)(Φ:eN)(Λ:ni)(code:Code)(C:Array ResultVar)(D:aa In)(args:aa Ar)(k:aa In->gv->aj X):aj X:=
 lT P N Φ Λ code (yE D args) λe σ=>match AQ e with
  |some 0=>Hv P (wO N σ C.toList) C D k
  |some 1=>Hv P (wO N σ C.toList) C D k
  |_=>none
section
variable {P:Program} {w w':World} {w0:Wd} {B N:Nat} {af aA:bw} {ρ ρ':Nat->Loc} {σ:S} {a:Act} {X:Type} {d:Nat} {r:X} {o:Oper} {Φ:eN} {Λ:ni}
def Rl.Iw{t:Nat}(h:Rl w0 N af ρ σ a w):∃ aA ρ',Rl w0 N aA ρ' (Proofs.YtpigmalhjkekiaaGreat.Iw N σ t) a w:=by
 unfold Proofs.YtpigmalhjkekiaaGreat.Iw;split
 ·rename_i q s j ht;cases hN:Nat.blt t N with
  |false=>exact⟨af,ρ,h⟩
  | true=>
   have hN:t<N:=by have:=cE hN;omega
   rw[aq];split
   ·rename_i tc g qn l hm;cases U:Nat.beq (full tc) 0 with
    |false=>exact⟨af,ρ,h⟩
    | true=>
     have U:=cJ U;rw[aq];have hv:=h.tmp t;rw[ht]at hv;obtain⟨A,n,c,Y,_,hj,hu⟩:=hv;have gC:sliced A 0 j c s = .slice A j c:=by cases A<;>simp[sliced,Addr.add]
     rw[gC]at hu;let D:bw:=λb=>match af b with
      |some k=>bif cT q k then (bif Nat.beq k.length 1 then some [t]else none)else some k
      |none=>none
     have hrel:Rel q af D:=⟨h.yj,λb hb=>by simp[D,hb],λb k hb C=>by simp[D,hb,C]⟩
     have h1:=h.rel hrel (λb k C=>by
      simp only[D]at C;cases hl:af b with
      |none=>rw[hl]at C;cases C
      | some k'=>
       rw[hl]at C;simp only at C;refine⟨⟨_,rfl⟩,?_⟩;cases hq:cT q k' with
       | true=>
        rw[hq,aq]at C;cases hlen:Nat.beq k'.length 1 with
        |true=>rw[hlen,aq]at C;injection C with C;rw[<- C];simp
        |false=>rw[hlen,av]at C;cases C
       | false=>
        rw[hq,av]at C;injection C with C;subst C;exact(h.dj b k' hl).2.2)
     have fk:=h.root q _ hm;generalize I:aS.sl (.sl tc (g+2) qn l)=z at fk;cases fk with
     |az=>cases I
     |mp=>cases I
     |gh=>cases I
     | sl v y ck O=>
      injection I with I;subst I;simp only[c9,ck]at Y;injection Y with Y;subst Y;have hn:n=l.length:=by cases O<;>rfl
      have TK:RV w w0.heap.size D [t] (.sl tc 2 false (l.take j)) (.slice A j c):=by
       cases O with
       | eS=>
        have:j=0:=by simpa using hj
        subst this;exact .eS _ _ _
       |fU _ _ _ _ _ ho=>omega
       |gj _ _ _ _ _ ho=>omega
       |aH _ _ _ _ _ _ _ _ _ ho=>omega
       | own _ _ _ _ _ b cap cs us qh hh hs Ce tu hc O=>
        have hl:(l.take j).length=j:=by rw[kU];omega
        have hle:∀i (hi:i<(l.take j).length),∃Z:i<l.length,(l.take j)[i]=l[i]:=λi hi=>⟨by omega,List.getElem_take⟩
        have:=RV.own (w:=w) (B:=w0.heap.size) (af:=D) [t] tc 0 false (l.take j) b c cs us (by simp[D,qh,cT]) hh hs (by omega) ⟨tu.1,λh=>by cases h⟩ (λi hi k x T=>by
         obtain⟨Z,e⟩:=hle i hi;rw[e,Eb tc U 0]at T;exact hc i Z k x T) (λi hi k x T=>by
         obtain⟨Z,e⟩:=hle i hi;rw[e,Eb tc U 0]at T;exact(O i Z k x T).uO (zR tc g _ U x (gT T)))
        rw[hl]at this;exact this
      have hrm:D9 w w D D t:=⟨dg _,λ_ _ _=>rfl,λ_ _=>rfl,h1.yj⟩
      have E:=h1.z0 (d:=t) (ρ':=bJ ρ t (.dQ (.slice A j c))) (x:=.sl (.sl tc 2 false (l.take j))) (h.cS t (.inl hN)) ⟨rfl,rfl,rfl,dg _,λ_ _ _=>rfl⟩ hrm (λb k hb C=>by
       have:=(h1.dj b k C).2.1;omega) (λr O=>cy _ _ _ O) (.sl _ _ (bM _ _ _) TK)
      refine⟨_,_,E.below,E.dj,E.root,λk=>?_,E.size,E.defers,E.fix,E.cS⟩
      show RA w w0.heap.size D _ (bJ _ t _ k) _;by_cases C:k=t
      ·subst C;rw[bM,hu];exact⟨rfl,by simp only[c9,bM]⟩
      ·rw[cy _ _ _ C];exact E.tmp k
   ·exact⟨af,ρ,h⟩
 ·exact⟨af,ρ,h⟩
def Rl.wO:∀ (l:aa ResultVar) (σ:S) (af:bw) (ρ:Nat -> Loc),Rl w0 N af ρ σ a w -> ∃ aA ρ',Rl w0 N aA ρ' (Proofs.YtpigmalhjkekiaaGreat.wO N σ l) a w
 |[],_,af,ρ,h=>⟨af,ρ,h⟩
 | .tmp t :: r,_,_,_,h=>by
  obtain⟨C,D,E⟩:=h.Iw;exact Rl.wO r _ C D E
 |.cell _ _::r,_,af,ρ,h=>Rl.wO r _ af ρ h
def fnM_core{f:Nat}{fn:Func}{code:Code}{C:aa In}{args:aa Ar}{k:aa In -> gv -> aj X}(hf:P.funcs[f]?=some fn)(hb:fn.body=some code)(hN:fn.ntmps=N)(ES:N <= 20000)(hlen:args.length <= N)
  (eC:fZ P Φ) (vr:qB P N Λ (occs code)) (h:CQ P N Φ Λ code fn.results C args k=some r) (nm:Nat -> Nat) (w:World) (af:bw) (ρ:Nat -> Loc) (bH:Array Value)
  (hE:qx w w.heap.size af ρ 0 C) (oP:∀b k,af b=some k -> b<w.heap.size/\k≠[]) (gM:bH.size=args.length) (hv:∀i,RA w w.heap.size af ρ ((yE C args).t i) (bH.getD i undef)) (T:Hd w af):
  Calls P f bH w λe w'=>∃v aA outs D,k outs D=some r/\e = .returned v/\jt ⟨w,af,λ_=>none,T,λ_ _=>rfl⟩ w w'/\(∀b k,aA b=some k -> (w.heap.size <= b \/ af b≠none)/\b<w'.heap.size/\k≠[])/\qY w' w.heap.size aA nm D v/\sn w w' aA ρ nm 0 D.len C outs:=by
 let W:Wd:=⟨w,af,λr=>if 20000 <= r/\r<60000 then some (ρ r)else none,T,λr hr=>aX⟩
 refine calls_of_wp hf hb ?_;unfold CQ at h;have hR:R W N (yE C args) { tmps:=bH++Array.replicate (fn.ntmps-bH.size) undef,defers:=[] } w:=by
  refine⟨af,ρ,.of (Below.refl w.heap.size w) (dg _),λb k hb=>⟨.inr (by rw[show W.L b=af b from rfl,hb];simp),oP b k hb⟩,qx.roots C 0 _ hE (λr x hx=>by cases hx),λj=>?_,by simp[hN];omega,rfl,λr l hr=>?_,λr hr=>?_⟩
  ·by_cases hj:j<bH.size
   ·have e:(bH++Array.replicate (fn.ntmps-bH.size) undef).getD j undef=bH.getD j undef:=by
     rw[iO,Array.getElem?_append_left hj,iO]
    rw[e];exact hv j
   ·have e:(yE C args).t j = .undef:=by
     simp only[yE,pX (by omega:args.length <= j)]
    rw[e];trivial
  ·grind
  ·grind
 refine wp_mono (EM (w0:=W) eC code _ _ h vr _ w hR) λe U w' E=>?_
 obtain⟨dc,O,Eo,En,I⟩:=E;have fin:Hv P (Proofs.YtpigmalhjkekiaaGreat.wO N dc fn.results.toList) fn.results C k=some r -> U.defers=[] /\ ∃ v,(results fn U.tmps).run P w' = .ok v w' /\ ∃ AR aA outs D,k outs D=some r/\Ending.returned v=Ending.returned AR/\jt ⟨w,af,λ_=>none,T,λ_ _=>rfl⟩ w w'/\(∀ b k,aA b=some k -> (w.heap.size <= b \/ af b≠none)/\b<w'.heap.size/\k≠[])/\qY w' w.heap.size aA nm D AR/\sn w w' aA ρ nm 0 D.len C outs:=by
  intro qG;obtain⟨outs,D,hko,eR⟩:=ako (w0:=W) rfl (λr Y Z=>aW ⟨Y,Z⟩) (qx.Ta C 0 hE) qG;obtain⟨dR,fB,kZ⟩:=Rl.wO _ dc Eo En I;obtain⟨v,aA,Y,Z,h3,h4⟩:=eR dR fB U w' kZ nm;exact⟨I.defers,v,Y,v,aA,outs,D,hko,rfl,⟨I.below.os,I.below.tape,I.below.output,I.below.size,λk O=>I.below.block k O⟩,Z,h3,h4⟩
 split at O
 next E=>have E:=tZ E;subst E;exact fin O
 next E=>have E:=tZ E;subst E;exact fin O
 ·cases O
end
def sH:(l:aa (Bool×TC×Nat))->aa In->aj (sr l)
 |[],[]=>some ()
 | (true,t,g) :: r,.az cs :: is=>match dec t g cs,sH r is with
  |some x,some xs=>some (x,xs)
  |_,_=>none
 | (false,t,g) :: r,.sl y :: is=>match (bif Nat.ble 1000000 g then (bif y.ku then none else y.fK t (g+2))else bif y.ku then y.fK t (g+2)else none),sH r is with
  |some x,some xs=>some (x,xs)
  |_,_=>none
 |_,_=>none
def NB:aa In->aa In->aa In->Prop
 |[],[],[]=>True
 |.az I::C,.az cs::r,.az fq::D=>(lN cs fq/\I.map (λv=>(v.plain,v.aH))=fq.map (λv=>(v.plain,v.aH))/\∀x∈fq,x.ku=true)/\NB C r D
 |.sl _::C,.sl y::r,.sl E::D=>(Wk y E/\(y = .nil->E = .nil))/\NB C r D
 |_,_,_=>False
def NC:∀ (ps:aa PK) (C:lQ ps) (is:aa In) (x:sr (eU ps)),sH (eU ps) is=some x -> NB (n7 ps C) is (jm (eU ps) x)
 |[],_,[],x,_=>trivial
 |[],_,_::_,x,h=>by simp[sH,eU]at h
 |.v b t::ps,C,is,x,h=>NC ps C.2 is x h
 |.p t g off::ps,C,[],x,h=>by simp[sH,eU]at h
 |.s t g::ps,C,[],x,h=>by simp[sH,eU]at h
 |.p t g off::ps,C,.sl _::_,x,h=>by simp[sH,eU]at h
 |.s t g::ps,C,.az _::_,x,h=>by simp[sH,eU]at h
 | .p t g off :: ps,C,.az cs :: is,x,h=>by
  have h:sH ((true,t,g)::eU ps) (.az cs::is)=some x:=h;unfold sH at h;split at h
  next y ys D I=>injection h with h;subst h;exact⟨⟨mj t g cs y D,ajt t g C.1 y,λz O=>R3 t g y z O⟩,NC ps C.2 is ys I⟩
  ·cases h
 | .s t g :: ps,C,.sl y :: is,x,h=>by
  have h:sH ((false,t,g)::eU ps) (.sl y::is)=some x:=h;unfold sH at h;split at h
  ·rename_i z T D I;injection h with h;subst h;refine⟨?_,NC ps C.2 is T I⟩;cases hb:Nat.ble 1000000 g with
   | true=>
    cases E:y.ku with
    |true=>simp_all
    | false=>
     have:y = .nil:=by cases y<;>first|rfl|cases E
     subst this;exact⟨.same _,λ_=>rfl⟩
   | false=>
    cases E:y.ku with
    |false=>simp_all
    | true=>
     rw[hb,E]at D;exact⟨V.GF D,λe=>by subst e;cases E⟩
  ·cases h
def sn.typed{w w':World}{aA:bw}{ρ:Nat -> Loc}{nm:Nat -> Nat}:∀ (E:aa In) (i Y:Nat) (outs T:aa In),sn w w' aA ρ nm i Y E outs -> NB E outs T -> Hu w w' aA ρ nm i Y E T
 |[],i,Y,[],[],h,C=>trivial
 | .az cs0 :: E,i,Y,.az cs1 :: outs,.az cs2 :: T,h,C=>by
  obtain⟨⟨b,off,cells,yF,e,e',Z,h2,h3,h4,h5,h6,h7⟩,hr⟩:=h;obtain⟨⟨U,Vd,hnn⟩,qq⟩:=C
  refine⟨⟨b,off,cells,yF,e,e',Z,h2,h3,h4,by rw[<- U.1];exact h5,by rw[<- U.1];exact h6,λj x hx=>?_⟩,sn.typed E _ _ outs T hr qq⟩
  have hj:j<cs1.length:=by rw[U.1];exact(dZ.1 hx).1
  obtain⟨u,hu,hc⟩:=h7 j _ (bK hj);have C:=U.2 j _ x (bK hj) hx;have Ix:∀ I,cs0[j]?=some I -> I.plain=x.plain/\I.aH=x.aH:=by
   intro I h0;have e1:(cs0.map (λv=>(v.plain,v.aH)))[j]?=(cs2.map (λv=>(v.plain,v.aH)))[j]?:=by rw[Vd]
   grind
  have hxn:=hnn x (gT hx);generalize cs1[j]=y at hc C;refine⟨u,hu,?_⟩;rcases hc with ⟨D,O⟩|⟨D,O,I,c3,c4⟩|⟨D,O,c6,⟨I,c3,c4⟩,c5⟩|⟨D,O⟩
  ·cases C with
   |same=>grind
   |nil t o=>cases D
   |q t o l=>cases D
   |gr=>cases D
  ·subst D O;have hf:x.aH=false:=by rw[<- (Ix I c3).2];exact c4
   cases C with
   |same=>cases hxn
   |nil t o=>exact .inr (.inr ⟨hf,.eS _ _ _⟩)
  ·cases C with
   |same=>grind
   |nil t o=>cases c6
   |q t o l=>exact .inr (.inl ⟨rfl,O,c5⟩)
   |gr t o o' qn l Z h2=>simp[V.aH]at O;omega
  ·have hf:=C.Tg D;exact .inr (.inr ⟨hf,O.wk C⟩)
 | .sl y0 :: E,i,Y,.sl y1 :: outs,.sl y2 :: T,h,C=>by
  obtain⟨h,hr⟩:=h;obtain⟨⟨U,hn⟩,qq⟩:=C;exact⟨h.imp hn (λ⟨v,Z,h2⟩=>⟨v,Z,h2.wk U⟩),sn.typed E _ _ outs T hr qq⟩
 |[],_,_,_::_,_,h,_=>h.elim
 |[],_,_,[],_::_,_,h=>h.elim
 |.az _::_,_,_,[],_,h,_=>h.elim
 |.sl _::_,_,_,[],_,h,_=>h.elim
 |.az _::_,_,_,.sl _::_,_,h,_=>h.elim
 |.sl _::_,_,_,.az _::_,_,h,_=>h.elim
 |.az _::_,_,_,.az _::_,[],_,h=>h.elim
 |.az _::_,_,_,.az _::_,.sl _::_,_,h=>h.elim
 |.sl _::_,_,_,.sl _::_,[],_,h=>h.elim
 |.sl _::_,_,_,.sl _::_,.az _::_,_,h=>h.elim
def ace:∀ (l:aa (Bool×TC×Nat)) (ps:aa Pt) (x:je l),q5 l ps=some x -> (ps.map λp=>p.2.length)=((vb l x).map λp=>p.2.length)
 |[],[],x,h=>rfl
 | [(b,t,g)],[(C,D)],x,h=>by
  unfold q5 at h;cases hb:b==C with
  |false=>rw[hb]at h;cases h
  | true=>
   rw[hb]at h;simp[vb,(mj t g D x h).1]
 | (b,t,g) :: q :: r,(C,D) :: ps,x,h=>by
  unfold q5 at h;cases hb:b==C with
  |false=>simp_all
  | true=>
   rw[hb]at h;split at h
   next y ys E I=>injection h with h;subst h;simp only[vb,List.map_cons];rw[ace _ ps ys I,(mj t g D y E).1]
   ·cases h
def ang{l:aa (Bool×TC×Nat)}{C:gv}{x:je l}(h:mz l C=some x):C.len=(fm l x).len:=by
 have key:∀ ps,q5 l ps=some x -> (ps.map λp=>p.2.length).sum=(fm l x).len:=by
  intro ps h;rw[ace l ps x h];unfold fm
  match hm:vb l x with
  |[q]=>simp[gv.len]
  |[]=>rfl
  |_::_::_=>rfl
 cases C with
 |one p=>have:=key [p] h;simpa [gv.len]using this
 | fz ps=>
  simp only[mz]at h;cases hb:Nat.beq ps.length 1 with
  |true=>simp_all
  |false=>rw[hb]at h;exact key ps h
section
variable {P:Program} {w w':World} {w0:Wd} {B N:Nat} {af aA:bw} {ρ ρ':Nat->Loc} {σ:S} {a:Act} {X:Type} {d:Nat} {r:X} {o:Oper} {Φ:eN} {Λ:ni}
def ET(l ro:aa (Bool×TC×Nat))(outs:aa In)(C:gv):aj (je ro×sr l):=
 match mz ro C,sH l outs with
 |some x,some y=>some (x,y)
 |_,_=>none
def ND{f:Nat}{fn:Func}{code:Code}{ps:aa PK}{ro:aa (Bool×TC×Nat)}{F:lQ ps->aj (je ro×sr (eU ps))}(I:P.funcs[f]?=some fn)(hb:fn.body=some code)(T:fn.ntmps=N)(U:(fn.name == "runtime.NumGoroutine")=false)(Y:Nat.ble ps.length N=true)(Z:Nat.ble N 20000=true)(fk:mD ro=true)
  (eC:fZ P Φ) (vr:qB P N Λ (occs code)) (hF:∀x,CQ P N Φ Λ code fn.results (n7 ps x) (kE ps 0 x) (ET (eU ps) ro)=F x):enters P f/\wB P f ⟨ps,ro,F⟩:=by
 refine⟨⟨fn,I,U,by rw[hb];rfl⟩,λx y h nm w af ρ bH hE oP D hv hQ=>?_⟩
 have h:F x=some y:=h;rw[<-hF x]at h;have hlen:∀ (ps:aa PK) (i:Nat) (x:lQ ps),(kE ps i x).length=ps.length:=by
  intro ps
  induction ps with
  |nil=>intro i x;rfl
  | cons p ps E=>
   intro i x;cases p with
   |v=>exact bB (· + 1) (E _ _)
   |p=>exact bB (· + 1) (E _ _)
   |s=>exact bB (· + 1) (E _ _)
 have D:bH.size=(kE ps 0 x).length:=by rw[hlen];exact D
 refine(fnM_core I hb T (cE Z) (by rw[hlen];exact cE Y) eC vr h nm w af ρ bH hE oP D hv hQ).mono λe w' sg=>?_
 obtain⟨v,aA,outs,res,C,he,tF,hl,kD,Ts⟩:=sg;unfold ET at C;split at C
 next y1 y2 O h2=>injection C with C;subst C;refine⟨v,aA,he,tF,hl,ab8 fk O kD,?_⟩;rw[<-ang O];exact sn.typed _ _ _ _ _ Ts (NC ps x outs y2 h2)
 ·cases C
end
set_option maxRecDepth 100000
def NF(σ:S)(C:Array ResultVar):aj Int:=
 match C.toList with
 | [.tmp t]=>(match σ.t t with
  | .aG r 0=>(match σ.m r with
   |some (.az [.own [n],.v (.int .i64 z),.v (.int .i64 h)])=>bif Nat.beq n 20000&&z==0 then some h else none
   |_=>none)
  |_=>none)
 |_=>none
def acf(P:Program)(N:Nat)(Φ:eN)(Λ:ni)(code:Code)(C:Array ResultVar)(l:aa (T .u8)):aj Int:=
 lT P N Φ Λ code (yE [.sl (.sl .u8 0 false l)] [.mut 0 0]) λe σ=>match AQ e with
  |some 0=>NF σ C
  |some 1=>NF σ C
  |_=>none
section
variable {P:Program} {w w':World} {w0:Wd} {B N:Nat} {af aA:bw} {ρ ρ':Nat->Loc} {σ:S} {a:Act} {X:Type} {d:Nat} {r:X} {o:Oper} {Φ:eN} {Λ:ni}
def anh{f:Nat}{fn:Func}{code:Code}{F:aa Int->aj Int}(hf:P.funcs[f]?=some fn)(hb:fn.body=some code)(hN:fn.ntmps=N)(CP:(fn.name == "runtime.NumGoroutine")=false)(hN1:Nat.ble 1 N=true)(ES:Nat.ble N 20000=true)
  (eC:fZ P Φ) (vr:qB P N Λ (occs code)) (hF:∀l,acf P N Φ Λ code fn.results l=F l):enters P f/\ML P f F:=by
 refine⟨⟨fn,hf,CP,by rw[hb];rfl⟩,λw l h v hh hv hQ=>?_⟩
 rw[<-hF l]at hh;unfold acf at hh;have hN1:=cE hN1;have ES:=cE ES;let W:Wd:=⟨w,λ_=>none,λr=>if 20000<=r/\r<60000 then some (.dQ v)else none,hQ,λr E=>aX⟩
 refine calls_of_wp hf hb ?_;have hR:R W N (yE [.sl (.sl .u8 0 false l)] [.mut 0 0]) { tmps:=#[v]++Array.replicate (fn.ntmps-(#[v]:Array Value).size) undef,defers:=[] } w:=by
  refine⟨λ_=>none,λ_=>.dQ v,.of (Below.refl w.heap.size w) (dg _),(λb k hb=>by cases hb),λn y O=>?_,λj=>?_,by simp[hN];omega,rfl,λr l E=>?_,λr E=>?_⟩
  ·have O:bJ (λ_=>none) (nF 0) (some (.sl (.sl .u8 0 false l))) n=some y:=O;by_cases Z:n=nF 0
   ·subst Z;rw[bM]at O;injection O with O;subst O;exact .sl v _ rfl (hv.key rfl)
   ·rw[cy _ _ _ Z]at O;cases O
  ·cases j with
   | zero=>
    have e:(#[v]++Array.replicate (fn.ntmps-(#[v]:Array Value).size) undef).getD 0 undef=v:=by
     rw[iO,Array.getElem?_append_left (by simp)];rfl
    show RA w w.heap.size _ _ (.lf (.own [nF 0])) ((#[v]++Array.replicate (fn.ntmps-(#[v]:Array Value).size) undef).getD 0 undef);rw[e];exact⟨hv.mX rfl rfl,rfl⟩
   |succ j=>exact trivial
  ·have E:(if 20000<=r/\r<60000 then some (Loc.dQ v)else none)=some l:=E;split at E
   ·injection E
   ·cases E
  ·show (if 20000<=r/\r<60000 then some (Loc.dQ v)else none)=none;rw[aX]
 refine wp_mono (EM (w0:=W) eC code _ _ hh vr _ w hR) λe a' w' I=>?_
 obtain⟨dc,T,Eo,En,D⟩:=I;have fin:NF dc fn.results=some h->a'.defers=[]/\∃ u,(results fn a'.tmps).run P w' = .ok u w'/\∃ b off cells t,Ending.returned u = .returned (.pointer (some ⟨b,off,none⟩))/\Below w.heap.size w w'/\w.heap.size<=b/\w'.heap[b]?=some (.cells cells t (0,0))/\cells[off]?=some v/\cells[off+1]?=some (.int .i64 0)/\cells[off+2]?=some (.int .i64 h):=by
  intro C;unfold NF at C;split at C
  ·rename_i t ht;split at C
   ·rename_i r E;split at C
    ·rename_i n z h' hm;cases hb:(Nat.beq n 20000&&z==0)with
     |false=>rw[hb]at C;cases C
     | true=>
      rw[hb,aq]at C;injection C with C;subst C;rw[aM]at hb;have Z:=cJ hb.1;have hz:z=0:=by simpa using hb.2
      subst Z hz;have h1:=D.tmp t;rw[E]at h1;obtain⟨b,off,e1,e2⟩:=h1;have h2:=D.root r _ hm;generalize U:aS.az _=x at h2;cases h2 with
      |sl=>cases U
      |mp=>cases U
      |gh=>cases U
      | az b' Cb cells e cs us ck hl Ei hs hc=>
       injection U with U;subst U;rw[ck]at e1;injection e1 with e3 e4;subst e3 e4;obtain⟨c0,Y⟩:=hc 0 _ rfl;obtain⟨c1,d1⟩:=hc 1 _ rfl;obtain⟨c2,d2⟩:=hc 2 _ rfl;have Y:=Y.2;have Ve:=D.fix 20000 (.dQ v) rfl;simp only[c9,Ve]at Y;injection Y with Y;rw[<-Y]at c0;rw[d1.2.gY]at c1;rw[d2.2.gY]at c2
       refine⟨D.defers,_,?_,b',Cb,cells,e,rfl,⟨D.below.os,D.below.tape,D.below.output,D.below.size,λk T=>D.below.block k T rfl⟩,?_,Ei,c0,c1,c2⟩
       ·have kD:results fn a'.tmps=(do let vs <-fn.results.mapM (sj a'.tmps);pure (if h:vs.size=1 then vs[0]else .tuple vs)):=by
         unfold results;congr 1
        have rm:fn.results = #[.tmp t]:=by apply Array.ext';exact ht
        rw[kD,rm,Array.mapM_eq_mapM_toList];simp[sj,e2]
       ·have:=(D.dj b' _ hl).1;exact this.resolve_right (λh=>h rfl)
    ·cases C
   ·cases C
  ·cases C
 split at T
 next I=>have I:=tZ I;subst I;exact fin T
 next I=>have I:=tZ I;subst I;exact fin T
 ·cases T
end
def nV(i j:Nat):Nat:=20001+1000*i+j
def EU(i j:Nat)(x:V):Lf:=match x with
 |.sl ..=>.own [nV i j]
 |x=>.v x
def za(i:Nat):Nat->aa V->aa Lf
 |_,[]=>[]
 |j,x::xs=>EU i j x::za i (j+1) xs
def Vf(args:aa Pt)(n:Nat):aj aS:=bif Nat.ble 20001 n&&Nat.blt n 60000 then (match args[(n-20001) / 1000]? with
 | some (_,xs)=>(match xs[(n-20001) % 1000]? with
  |some (.sl t g q l)=>some (.sl (.sl t g q l))
  |_=>none)
 |none=>none)else none
def acg(args:aa Pt):S:=⟨λi=>match args[i]? with
 |some (false,[x])=>.lf (EU i 0 x)
 |some (true,xs)=>.agg (za i 0 xs)
 |_=>.undef,Vf args⟩
def NG(σ:S)(C:Array ResultVar)(a j:Nat)(t:TC):aj (Nat×Nat):=match C.toList with
 | [.tmp s]=>(match σ.t s with
  |.view [n] D i k=>bif Nat.beq n (nV a j)&&Nat.beq D (aC t)then some (i,k)else none
  |_=>none)
 |_=>none
def ach(P:Program)(N:Nat)(Φ:eN)(Λ:ni)(code:Code)(C:Array ResultVar)(a j:Nat)(t:TC)(args:aa Pt):aj (Nat×Nat):=
 lT P N Φ Λ code (acg args) λe σ=>match AQ e with
  |some 0=>NG σ C a j t
  |some 1=>NG σ C a j t
  |_=>none
def Vg(ai:aa (Bool×TC))(a j:Nat)(t:TC)(F:lu ai->aj (Nat×Nat)):CB:=⟨a,j,t,λargs=>match yZ ai args with
 |some x=>F x
 |none=>none⟩
section
variable {P:Program} {w w':World} {w0:Wd} {B N:Nat} {af aA:bw} {ρ ρ':Nat->Loc} {σ:S} {a:Act} {X:Type} {d:Nat} {r:X} {o:Oper} {Φ:eN} {Λ:ni}
def aci(i:Nat):∀ (xs:aa V) (C j:Nat),(za i C xs)[j]?=(xs[j]?).map λx=>EU i (C+j) x
 |[],C,j=>by simp[za]
 |x::xs,C,0=>by simp[za]
 | x :: xs,C,j+1=>by
  simp[za,List.getElem?_cons_succ,aci]
  grind
def acj(i:Nat):∀ (xs:aa V) (C:Nat),(za i C xs).length=xs.length
 |[],_=>rfl
 |x::xs,C=>by simp[za,acj i xs (C+1)]
def ack{i j:Nat}(h:j<1000):(nV i j-20001) / 1000=i/\(nV i j-20001) % 1000=j:=by
 unfold nV;omega
def AS(bH:Array Value)(n:Nat):Loc:=.dQ ((vl bH ((n-20001) / 1000) ((n-20001) % 1000)).getD undef)
def acm{bH:Array Value}{i j:Nat}{x:V}{u:Value}(D:j<1000)(E:vl bH i j=some u)(I:x.aH=true)(C:RV w B (λ_=>none) [] x u):eB w B (λ_=>none) (AS bH) (EU i j x) u:=by
 unfold EU;split
 ·refine⟨C.mX rfl rfl,?_⟩;obtain⟨O,T⟩:=ack (i:=i) D;simp only[c9,AS,O,T,E];rfl
 ·exact⟨I,C⟩
def ani{f:Nat}{fn:Func}{code:Code}{ai:aa (Bool×TC)}{O T:Nat}{t:TC}{F:lu ai -> aj (Nat×Nat)}(hf:P.funcs[f]?=some fn)(hb:fn.body=some code)(hN:fn.ntmps=N)(CP:(fn.name == "runtime.NumGoroutine")=false)(Vc:Nat.ble ai.length N=true)(ES:Nat.ble N 20000=true)(gM:(ai.all λp=>Nat.blt (aC p.2) 1000&&(p.1 || Nat.beq (aC p.2) 1))=true)(hjj:Nat.blt T 1000=true)(haa:Nat.blt O 30=true)
  (eC:fZ P Φ) (vr:qB P N Λ (occs code)) (hF:∀x,ach P N Φ Λ code fn.results O T t (gJ ai x)=F x):enters P f/\MM P f (Vg ai O T t F):=by
 refine⟨⟨fn,hf,CP,by rw[hb];rfl⟩,λargs p h w bH mw hQ=>?_⟩
 simp only[Vg]at h;split at h
 ·rename_i x hx;obtain⟨k1,k2⟩:=U9 ai args x hx;have hlen:∀ (l:aa (Bool×TC)) (x:lu l),(gJ l x).length=l.length:=by
   intro l
   induction l with
   |nil=>intro x;rfl
   |cons p l ih=>obtain⟨b,t⟩:=p;intro x;simp[gJ,ih]
  have lP:bH.size=ai.length:=by rw[mw.1,<- k1,hlen]
  have hle:bH.size <= N:=by rw[lP];exact cE Vc
  have ES:=cE ES;have rm:∀ (l:aa (Bool×TC)) (x:lu l),(l.all λp=>Nat.blt (aC p.2) 1000&&(p.1 || Nat.beq (aC p.2) 1))=true -> ∀ (j:Nat) p,(gJ l x)[j]?=some p -> (∀ y∈p.2,y.aH=true)/\p.2.length<1000/\(p.1=true \/ p.2.length=1):=by
   intro l
   induction l with
   |nil=>intro x _ j p U;simp[gJ]at U
   | cons c l ih=>
    obtain⟨b,t⟩:=c;intro x hs j p U;rw[List.all_cons,aM]at hs;cases j with
    | zero=>
     simp[gJ]at U;subst U
     refine⟨λy C=>?_,?_⟩
     ·obtain⟨i,hi⟩:=List.mem_iff_getElem?.1 C;exact qU t 0 x.1 (by omega) i y hi
     ·show (enc t 0 x.1).length<1000/\(b=true \/ (enc t 0 x.1).length=1);rw[kX];have h8:=hs.1;rw[aM,dY]at h8;have h9:=cE h8.1;exact⟨h9,h8.2.imp id cJ⟩
    |succ j=>exact ih x.2 hs.2 j p (by simpa [gJ]using U)
  have nX:∀ (i:Nat) (p:Pt),(gJ ai x)[i]?=some p -> ∃ u:Value,bH[i]?=some u/\PV w w.heap.size (λ_=>none) (λ_=>[]) p u/\(∀ y∈p.2,y.aH=true)/\p.2.length<1000:=by
   intro i p U;obtain⟨q,hq,yu,qX⟩:=k2 i p U;obtain⟨u,Y,tO⟩:=mw.2 i q hq;obtain⟨g1,g2,g3⟩:=rm ai x gM i p U;refine⟨u,Y,?_,g1,g2⟩;obtain⟨b,ys⟩:=p;obtain⟨b',xs⟩:=q;simp only at yu;subst yu;have hw:=tO.vg qX;rcases g3 with g3|g3
   ·simp only at g3;subst g3;exact hw.Z4
   ·obtain⟨y,rfl⟩:=List.length_eq_one_iff.1 g3;cases b' with
    |true=>exact hw.Z4
    |false=>exact hw.pv
  have Vh:∀ (i:Nat) (p:Pt),(gJ ai x)[i]?=some p -> ∀ (j:Nat) y,p.2[j]?=some y -> ∃ u,vl bH i j=some u/\RV w w.heap.size (λ_=>none) [] y u/\y.aH=true/\j<1000:=by
   intro i p U j y C;obtain⟨u,Y,⟨us,D,h2,h3⟩,h4,h5⟩:=nX i p U;obtain⟨v,E,I⟩:=h3 j y C;refine⟨v,?_,I,h4 y (gT C),by have:=(dZ.1 C).1;omega⟩;unfold vl;rw[Y];obtain⟨b,ys⟩:=p;cases b with
   | true=>
    have D:u = .agg us:=D;subst D;exact E
   | false=>
    have D:us = #[u]:=D;subst D;have hj:j=0:=by
     have:=(iY.1 E).1
     simpa using this
    subst hj;have:u=v:=by simpa using E
    subst this;have wL:∀ us,u ≠ .agg us:=by
     rintro us rfl;cases I
    cases u<;>first|exact absurd rfl (wL _)|rfl
  let W:Wd:=⟨w,λ_=>none,λr=>if 20000 <= r/\r<60000 then some (AS bH r)else none,hQ,λr I=>aX⟩
  refine calls_of_wp hf hb ?_;rw[<- hF x]at h;unfold ach at h;have hR:R W N (acg (gJ ai x)) { tmps:=bH++Array.replicate (fn.ntmps-bH.size) undef,defers:=[] } w:=by
   refine⟨λ_=>none,AS bH,.of (Below.refl w.heap.size w) (dg _),(λb k hk=>by cases hk),(λn y C=>?_),λi=>?_,by simp[hN];omega,rfl,λr l I=>?_,λr I=>?_⟩
   ·have C:Vf (gJ ai x) n=some y:=C;unfold Vf at C;cases hb:(Nat.ble 20001 n&&Nat.blt n 60000)with
    |false=>rw[hb]at C;cases C
    | true=>
     rw[hb,aq]at C;split at C
     ·rename_i b xs U;split at C
      next t' g q l hl=>injection C with C;subst C;obtain⟨u,Y,I,tA,_⟩:=Vh _ _ U _ _ hl;refine .sl u _ ?_ (I.key tA);unfold AS;simp[*]
      ·cases C
     ·cases C
   ·show RA w w.heap.size _ _ (match (gJ ai x)[i]? with | some (false,[x])=>A.lf (EU i 0 x) | some (true,xs)=>.agg (za i 0 xs) | _=>.undef) _;have D3:∀ p:Pt,(gJ ai x)[i]?=some p -> ∃ u:Value,bH[i]?=some u/\(bH++Array.replicate (fn.ntmps-bH.size) undef).getD i undef=u:=by
     intro p U;obtain⟨u,Y,_⟩:=nX i p U;have hi:=(iY.1 Y).1;exact⟨u,Y,by rw[iO,Array.getElem?_append_left hi,Y];rfl⟩
    split
    ·rename_i x' mq;obtain⟨u,Y,e⟩:=D3 _ mq;rw[e];obtain⟨v,E,I,tA,_⟩:=Vh i _ mq 0 x' rfl;have Hr:u=v:=by
      unfold vl at E;rw[Y]at E;obtain⟨u2,qv,⟨us,D,h2,h3⟩,_⟩:=nX i _ mq;rw[Y]at qv;injection qv with qv;subst qv;have D:us = #[u]:=D;subst D;obtain⟨v3,hv3,hr3⟩:=h3 0 x' rfl;have:u=v3:=by simpa using hv3
      subst this;have wL:∀ us,u ≠ .agg us:=by
       rintro us rfl;cases hr3
      cases u<;>first|exact absurd rfl (wL _)|(simp only[show Nat.beq 0 0=true from rfl,aq,jb]at E;exact E)
     subst Hr;exact acm (by omega) E tA I
    ·rename_i xs mq;obtain⟨u,Y,e⟩:=D3 _ mq;rw[e];obtain⟨u2,qv,⟨us,D,h2,h3⟩,_⟩:=nX i _ mq;rw[Y]at qv;injection qv with qv;subst qv;have D:u = .agg us:=D
     refine⟨us,D,by rw[acj];exact h2,λj y C=>?_⟩
     rw[aci]at C;cases hz:xs[j]? with
     |none=>rw[hz]at C;cases C
     | some z=>
      rw[hz]at C;injection C with C;subst C;obtain⟨v,E,I,tA,hj⟩:=Vh i _ mq j z hz;have huj:us[j]?=some v:=by
       unfold vl at E;rw[Y,D]at E;exact E
      refine⟨v,huj,?_⟩;rw[fO];exact acm hj E tA I
    ·trivial
   ·have I:(if 20000 <= r/\r<60000 then some (AS bH r)else none)=some l:=I;split at I
    ·injection I
    ·cases I
   ·show (if 20000 <= r/\r<60000 then some (AS bH r)else none)=none;rw[aX]
  refine wp_mono (EM (w0:=W) eC code _ _ h vr _ w hR) λe a' w' he=>?_
  obtain⟨dc,hk,Eo,En,dL⟩:=he;have fin:NG dc fn.results O T t=some p -> a'.defers=[] /\ ∃ u,(results fn a'.tmps).run P w' = .ok u w' /\ ∃ A n cap,vl bH O T=some (.slice A n cap)/\p.1 <= p.2/\p.2 <= n/\Ending.returned u = .returned (sliced A p.1 p.2 cap (aC t))/\Below w.heap.size w w':=by
   intro qG;unfold NG at qG;split at qG
   ·rename_i s hs;split at qG
    ·rename_i n sz i k E;cases gX:(Nat.beq n (nV O T)&&Nat.beq sz (aC t))with
     |false=>rw[gX]at qG;cases qG
     | true=>
      rw[gX,aq]at qG;injection qG with qG;subst qG;rw[aM]at gX;have hn:=cJ gX.1;have anj:=cJ gX.2;subst hn anj;have D:=dL.tmp s;rw[E]at D;obtain⟨A,m,c,Z,e2,e3,e4⟩:=D;have hjj:=cE hjj;have wL:20000 <= nV O T:=by unfold nV;omega
      by_cases dK:nV O T<60000
      ·have Ve:=dL.fix (nV O T) (AS bH (nV O T)) (aW ⟨wL,dK⟩);have Z:(match En (nV O T)with | .dQ v=>some v | _=>none)=some (Value.slice A m c):=Z;rw[Ve]at Z;obtain⟨d1,d2⟩:=ack (i:=O) (j:=T) (by omega);have Z:some ((vl bH ((nV O T-20001) / 1000) ((nV O T-20001) % 1000)).getD undef)=some (Value.slice A m c):=Z;rw[d1,d2]at Z;injection Z with Z
       refine⟨dL.defers,_,?_,A,m,c,?_,e2,e3,bB Ending.returned e4,⟨dL.below.os,dL.below.tape,dL.below.output,dL.below.size,λk hk=>dL.below.block k hk rfl⟩⟩
       ·have kD:results fn a'.tmps=(do let vs <- fn.results.mapM (sj a'.tmps);pure (if h:vs.size=1 then vs[0]else .tuple vs)):=by
         unfold results;congr 1
        have rm:fn.results = #[.tmp s]:=by apply Array.ext';exact hs
        rw[kD,rm];simp[sj]
       ·cases hl:vl bH O T with
        |none=>rw[hl]at Z;cases Z
        |some u=>rw[hl]at Z;exact bB some Z
      ·exfalso;have:=cE haa;unfold nV at dK;omega
    ·cases qG
   ·cases qG
  split at hk
  next he=>have he:=tZ he;subst he;exact fin hk
  next he=>have he:=tZ he;subst he;exact fin hk
  ·cases hk
 ·cases h
end
def Wd.pin(d:Wd)(g:Nat)(l:aj Loc)(D:20000<=g):Wd:=⟨d.w,d.L,λr=>if r=g then l else d.F r,d.held,λr C=>by
 show (if r=g then l else d.F r)=none;rw[aX];exact d.low r C⟩
def CR(g:Nat):aa (Bool×aa Lf)->A
 |[(false,[x])]=>.lf (x.drop g)
 |[(true,cs)]=>.agg (cs.map (Lf.drop g))
 |[(false,_)]=>.undef
 |ps=>.fz (ps.map λp=>(p.1,p.2.map (Lf.drop g)))
def CS{X:Type}(P:Program)(g:Nat)(D:Array ResultVar)(C:S)(k:S->A->aj X):aj X:=
 tL P C D.toList λps=>match C.m g with
  |some (.gh ys)=>k ⟨λj=>((ys.map (A.drop g))[j]?).getD .undef,(C.drop g).m⟩ (CR g ps)
  |_=>none
def acn(g N:Nat)(σ:S)(xs:aa A):S:=⟨λj=>((xs.map (A.drop g))[j]?).getD .undef,bJ (σ.drop g).m g (some (.gh ((List.range N).map λj=>(σ.t j).drop g)))⟩
def noB:ni:=λ_=>none
def Iy{X:Type}(P:Program)(M g:Nat)(Φ:eN)(code:Code)(C:Array ResultVar)(N:Nat)(σ:S)(xs:aa A)(k:S->A->aj X):aj X:=
 bif Nat.ble xs.length M then lT P M Φ noB code (acn g N σ xs) λe D=>match AQ e with
  |some 0=>CS P g C D k
  |some 1=>CS P g C D k
  |_=>none
 else none
def aco(P:Program)(M g:Nat)(Φ:eN)(code:Code)(C:Array ResultVar):vm:=⟨λX N σ xs k=>Iy P M g Φ code C N σ xs k⟩
section
variable {P:Program} {w w':World} {w0:Wd} {B M N g:Nat} {af aA:bw} {ρ ρ':Nat->Loc} {σ:S} {a:Act} {X:Type} {d:Nat} {r:X} {o:Oper} {Φ:eN} {Λ:ni}
def Vi{C:aj Tmp}{D:Bool}:cB λX k=>tS (X:=X) σ C D k:=λX Y k g=>by
 unfold tS
 repeat' first|rfl|refine dx ?_ ?_|split
def ank{ops:Array Oper}{L i:Nat}:cB λX k=>HZ (X:=X) P N Φ ops L i σ o k:=λX Y k g=>by
 unfold HZ;split
 ·refine(T8 _ _ _ _).trans (bB _ (funext λv=>?_))
  exact dx (yK _ _ _ _) rfl
 ·exact yK _ _ _ _
 ·rfl
def Vj(D:fZ P Φ){ops:Array Oper}:∀ (f L:Nat) (σ:S),cB λX k=>sA (X:=X) P N Φ ops f L σ k
 | 0,L,σ=>λX Y k g=>by
  unfold sA;split<;>rfl
 | f+1,L,σ=>λX Y k g=>by
  have st:∀E o O,cB λX k=>dM (X:=X) P N Φ ops σ o λI=>tS I o.dst O λC=>sA P N Φ ops f E C k:=λE o O=>(abc D).comp λI=>Vi.comp λC=>Vj D f E C
  unfold sA
  repeat' first
   |rfl
   |exact st _ _ _ _ _ _ _
   |exact(ank.comp λI=>Vi.comp λC=>Vj D f _ C) X Y k g
   |split
def anl{t:TypeId}{x lo hi C:A}{X Y:Type}(k:aj X)(g:X->aj Y):(EC P σ t x lo hi C k).bind g=EC P σ t x lo hi C (k.bind g):=by
 unfold EC
 repeat' first
  |rfl
  |refine(yJ _ _ _ _ _).trans (bB _ (funext λy=>?_))
  |split
def anm(C:fZ P Φ):cB λX k=>HV (X:=X) P N Φ σ o k:=λX Y k g=>by
 unfold HV
 repeat' first
  |exact aa9 C _ _ _ _
  |exact alJ _ _ _ _
  |exact(anl _ _).trans (bB _ (dx rfl rfl))
  |split
def Vk(C:fZ P Φ){ops:Array Oper}:∀ (rest:aa Oper) (j:Nat) (σ:S),cB λX k=>CG (X:=X) P N Φ ops j rest σ k
 |[],j,σ=>λ_ _ _ _=>rfl
 | o :: rest,j,σ=>λX Y k g=>by
  unfold CG;split
  ·exact((anm C).comp λD=>Vi.comp λE=>Vk C rest _ E) X Y k g
  ·exact(yK.comp λD=>Vk C rest _ D) X Y k g
  ·rfl
def acp(E:fZ P Φ):∀ (c:Code) (σ:S),EB λX k=>lT (X:=X) P N Φ noB c σ k:=by
 intro c
 induction c with
 | region id ops draw=>
  intro σ X Y k g;cases draw with
  |true=>exact dx (Vj E _ _ _ _ _ _ _) rfl
  |false=>exact Vk E _ _ _ _ _ _ _
 | seq x y C D=>
  intro σ X Y k g
  refine(C σ _ _ _ _).trans (bB _ (funext λe=>funext λI=>?_))
  cases e with
  |normal=>exact D I _ _ _ _
  |_=>rfl
 | cond c x y C D=>
  intro σ X Y k g;simp only[lT];split
  ·exact dx (C σ _ _ _ _) (D σ _ _ _ _)
  ·rfl
 | block id c O=>
  intro σ X Y k g
  refine(O σ _ _ _ _).trans (bB _ (funext λe=>funext λI=>?_))
  cases e with
  | exit T=>
   simp only;split<;>rfl
  |_=>rfl
 |_=>intro σ X Y k g;rfl
def NH:∀ (l:aa ResultVar),cB λX k=>tL (X:=X) P σ l k
 |[]=>λ_ _ _ _=>rfl
 | .tmp t :: rest=>λX Y k g=>by
  simp only[tL];split
  ·exact NH rest _ _ _ _
  ·rfl
 | .cell c ty :: rest=>λX Y k g=>by
  simp only[tL]
  refine(aaz _ _ _ _).trans (bB _ (funext λy=>?_))
  split
  ·exact NH rest _ _ _ _
  ·rfl
def acq{C:Array ResultVar}:EB λX k=>CS (X:=X) P g C σ k:=λX Y k f=>by
 unfold CS
 refine(NH _ _ _ _ _).trans (bB _ (funext λps=>?_))
 split<;>rfl
def ann(C:fZ P Φ){code:Code}{D:Array ResultVar}{xs:aa A}:EB λX k=>Iy (X:=X) P M g Φ code D N σ xs k:=λX Y k f=>by
 unfold Iy
 refine dx ((acp C _ _ _ _ _ _).trans (bB _ (funext λe=>funext λE=>?_))) rfl
 split
 ·exact acq _ _ _ _
 ·exact acq _ _ _ _
 ·rfl
def ano{D:Array ResultVar}{E:S}{y:A}(h:CS P g D σ (λσ y=>some (σ,y))=some (E,y)):∃ ys ps,σ.m g=some (.gh ys)/\tL P σ D.toList some=some ps/\⟨λj=>((ys.map (A.drop g))[j]?).getD .undef,(σ.drop g).m⟩=E/\CR g ps=y:=by
 unfold CS at h;obtain⟨ps,C,I⟩:=(NH _).mm h;split at C
 next ys O=>injection C with C;injection C with T U;exact⟨ys,ps,O,I.at_ _,T,U⟩
 ·cases C
def List.acr(xs:aa A)(g j:Nat):((xs.map (A.drop g))[j]?).getD .undef=A.drop g ((xs[j]?).getD .undef):=by
 rw[eO];cases xs[j]?<;>rfl
def RP.CR{ps:aa (Bool×aa Lf)}{C:aa Value}(I:∀ r,r≠g->ρ' r=ρ r)(hl:C.length=ps.length)(h:∀ (i:Nat) p v,ps[i]?=some p->C[i]?=some v->RP w B af ρ p v):
  RA w B af ρ' (CR g ps) (if h:C.toArray.size=1 then C.toArray[0]else .tuple C.toArray):=by
 have fz:ps.length≠1->RA w B af ρ' (.fz (ps.map λp=>(p.1,p.2.map (Lf.drop g)))) (if h:C.toArray.size=1 then C.toArray[0]else .tuple C.toArray):=by
  intro T;rw[dif_neg (by simpa [hl]using T)]
  refine⟨C.toArray,rfl,by simpa using hl,λj p D=>?_⟩
  rw[eO]at D;cases E:ps[j]? with
  |none=>rw[E]at D;cases D
  | some q=>
   rw[E]at D;injection D with D;subst D;have O:j<C.length:=by rw[hl];exact(dZ.1 E).1
   exact⟨C[j],by simp[O],(h j q C[j] E (bK O)).fA I⟩
 unfold Proofs.YtpigmalhjkekiaaGreat.CR;split
 ·rename_i x
  match C,hl,h with
  | [v],_,h=>
   have:=h 0 _ v rfl rfl;obtain⟨u,U,Y⟩:=this.2 0 x rfl;have:v=u:=by simpa using U
   subst this;exact Y.fA I
 ·rename_i cs
  match C,hl,h with
  |[v],_,h=>exact RP.fA I (p:=(true,cs)) (h 0 _ v rfl rfl)
 ·trivial
 ·rename_i h1 Z h3
  refine fz λe=>?_
  obtain⟨⟨b,cs⟩,rfl⟩:=List.length_eq_one_iff.1 e;cases b with
  |true=>exact Z cs rfl
  |false=>exact h3 cs rfl
def anp{f:Nat}{fn:Func}{code:Code}(hf:P.funcs[f]?=some fn)(hb:fn.body=some code)(hN:fn.ntmps=M)(hM:M<=20000)(CP:(fn.name == "runtime.NumGoroutine")=false)(hg:20000<=g/\g<60000)(eC:fZ P Φ):
  enters P f/\ri P f (aco P M g Φ code fn.results):=by
 refine⟨⟨fn,hf,CP,by rw[hb];rfl⟩,λN σ xs=>ann eC,λN σ xs τ0 y0 h w0 af ρ a w bH hR gM hv=>?_⟩
 have h:Iy P M g Φ code fn.results N σ xs _=_:=h;unfold Iy at h;cases hl:Nat.ble xs.length M with
 |false=>rw[hl]at h;cases h
 | true=>
  rw[hl,aq]at h;have Cj:=cE hl;obtain⟨e,τ,h1,h2⟩:=(acp eC _ _).mm h;have h3:(e = .normal\/e = .ret)/\CS P g fn.results τ (λσ y=>some (σ,y))=some (τ0,y0):=by
   split at h1
   next U=>exact⟨.inl (tZ U),h1⟩
   next U=>exact⟨.inr (tZ U),h1⟩
   ·cases h1
  obtain⟨hex,h3⟩:=h3;obtain⟨ys,ps,hy,qZ,rfl,rfl⟩:=ano h3;let us:=a.tmps.toList
  let W:Wd:=w0.pin g (some (.bH us)) hg.1
  let Y:=bJ ρ g (.bH us)
  have ck:∀r,r≠g->Y r=ρ r:=λr hr=>cy _ _ _ hr
  have m0:∀ j,us.getD j undef=a.tmps.getD j undef:=λj=>by
   show a.tmps.toList.getD j undef=_;rw[cK,Array.getElem?_toList,iO]
  have hle:bH.size<=M:=by rw[gM];exact Cj
  have tQ:Rl W M af Y (acn g N σ xs) { tmps:=bH++Array.replicate (fn.ntmps-bH.size) undef,defers:=[] } w:=by
   refine⟨⟨hR.below.os,hR.below.tape,hR.below.output,hR.below.size,hR.below.block⟩,hR.dj,λr x C=>?_,λj=>?_,by simp[hN];omega,rfl,λr l hr=>?_,λr hr=>?_⟩
   ·have C:bJ (σ.drop g).m g (some (.gh ((List.range N).map λj=>(σ.t j).drop g))) r=some x:=C;by_cases D:r=g
    ·subst D;rw[bM]at C;injection C with C;subst C
     refine .gh us _ (bM _ _ _) λj x I=>?_
     rw[eO]at I;cases hr:(List.range N)[j]? with
     |none=>rw[hr]at I;cases I
     | some j'=>
      rw[hr]at I;injection I with I;obtain⟨dK,tq⟩:=dZ.1 hr;rw[jD]at tq;subst tq I;rw[m0];exact(hR.tmp j).fA ck
    ·rw[cy _ _ _ D]at C;have C:(bif Nat.beq r g then none else (σ.m r).map (aS.drop g))=some x:=C;cases hb:Nat.beq r g with
     |true=>rw[hb]at C;cases C
     | false=>
      rw[hb,av]at C;cases hm:σ.m r with
      |none=>rw[hm]at C;cases C
      | some y=>
       rw[hm]at C;injection C with C;subst C;exact(hR.root r y hm).fA ck D
   ·show RA w w0.heap.size af Y (((xs.map (A.drop g))[j]?).getD .undef) _;rw[List.acr];by_cases I:j<bH.size
    ·have e1:(bH++Array.replicate (fn.ntmps-bH.size) undef).getD j undef=bH.getD j undef:=by
      rw[iO,Array.getElem?_append_left I,iO]
     show RA w w0.heap.size af Y _ ((bH++Array.replicate (fn.ntmps-bH.size) undef).getD j undef);rw[e1];exact(hv j).fA ck
    ·rw[pX (by omega:xs.length<=j)];trivial
   ·have hr:(if r=g then some (Loc.bH us)else w0.F r)=some l:=hr;by_cases D:r=g
    ·rw[aW D]at hr;injection hr with hr;rw[D,<-hr];exact bM _ _ _
    ·rw[aX D]at hr;rw[ck r D];exact hR.fix r l hr
   ·show (if r=g then some (Loc.bH us)else w0.F r)=none;rw[aX];rcases hr with hr | hr
    ·exact w0.low r (by omega)
    ·exact hR.cS r (.inr hr)
  refine calls_of_wp hf hb ?_
  refine wp_mono (EM (w0:=W) eC code _ (λe τ=>some (e,τ)) (h2 _ _) (λp hp b hb=>by cases hb) _ w ⟨af,Y,tQ⟩) λe' O w' U=>?_
  obtain⟨dc,qq,aA,ρ',E⟩:=U;injection qq with qq;injection qq with k1 k2;subst k1 k2;have HD:ρ' g = .bH us:=E.fix g _ (aW rfl);let fB:=bJ ρ' g ((w0.F g).getD (.az 0 0))
  have Ev:∀r,r≠g->fB r=ρ' r:=λr hr=>cy _ _ _ hr
  obtain⟨yD,Vl,kA⟩:=Hs (w0:=W) (N:=M) _ _ qZ;injection Vl with Vl;subst Vl;obtain⟨Z,eR,hlen,kB⟩:=kA aA ρ' O w' E;have anq:(fn.results.mapM (sj O.tmps)).run P w' = .ok Z.toArray w':=by
   rw[Array.mapM_eq_mapM_toList];simp[eR]
  have kD:results fn O.tmps=(do let Z <-fn.results.mapM (sj O.tmps);pure (if h:Z.size=1 then Z[0]else .tuple Z)):=by
   unfold results;congr 1
  have hRf:Rl w0 N aA fB ⟨λj=>((ys.map (A.drop g))[j]?).getD .undef,(dc.drop g).m⟩ a w':=by
   refine⟨⟨E.below.os,E.below.tape,E.below.output,E.below.size,E.below.block⟩,E.dj,λr x C=>?_,λj=>?_,hR.size,hR.defers,λr l hr=>?_,hR.cS⟩
   ·have C:(bif Nat.beq r g then none else (dc.m r).map (aS.drop g))=some x:=C;cases hb:Nat.beq r g with
    |true=>rw[hb]at C;cases C
    | false=>
     have D:r≠g:=by rintro rfl;simp at hb
     rw[hb,av]at C;cases hm:dc.m r with
     |none=>rw[hm]at C;cases C
     | some y=>
      rw[hm]at C;injection C with C;subst C;exact(E.root r y hm).fA Ev D
   ·show RA w' w0.heap.size aA fB (((ys.map (A.drop g))[j]?).getD .undef) _;rw[List.acr];cases hyj:ys[j]? with
    |none=>trivial
    | some y=>
     have fk:=E.root g _ hy;generalize T:aS.gh ys=z at fk;cases fk with
     |az=>cases T
     |sl=>cases T
     |mp=>cases T
     | gh L7 xs' yI hx3=>
      injection T with T;subst T;rw[HD]at yI;injection yI with yI;subst yI;have:=hx3 j y hyj;rw[m0]at this;exact this.fA Ev
   ·by_cases D:r=g
    ·subst D;show bJ ρ' r ((w0.F r).getD (.az 0 0)) r=l;rw[bM,hr];rfl
    ·rw[Ev r D];exact E.fix r l ((aX D).trans hr)
  have fin:O.defers=[]/\∃ v,(results fn O.tmps).run P w' = .ok v w'/\∃ AR aA ρ',Ending.returned v=Ending.returned AR/\Rl w0 N aA ρ' ⟨λj=>((ys.map (A.drop g))[j]?).getD .undef,(dc.drop g).m⟩ a w'/\RA w' w0.heap.size aA ρ' (CR g yD) AR:=
   ⟨E.defers,_,by rw[kD,gA,anq,me,Sem.run_pure],_,aA,fB,rfl,hRf,RP.CR Ev hlen kB⟩
  rcases hex with rfl|rfl
  ·exact fin
  ·exact fin
end
def vu:Nat:=1000000000
def stays(n:Nat):Bool:=Nat.ble 20000 (n % vu)
def anr:60000<=vu:=cE rfl
def rA(n:Nat):Nat:=bif stays n then n else n+vu
def AT(n:Nat):aj Nat:=bif stays n then some n else bif Nat.ble vu n && !stays (n-vu)then some (n-vu)else none
def lU:aa Nat->aa Nat
 |[]=>[]
 |[r]=>[rA r]
 |x::y::k=>x::lU (y::k)
def Lf.up:Lf->Lf
 |.v x=>.v x
 |.own k=>.own (lU k)
 |.dead=>.dead
def A.up:A->A
 |.undef=>.undef
 |.skip=>.skip
 |.lf x=>.lf x.up
 |.agg cs=>.agg (cs.map Lf.up)
 |.fz xs=>.fz (xs.map λp=>(p.1,p.2.map Lf.up))
 |.ptr k=>.ptr (lU k)
 |.aG r j=>.aG (rA r) j
 |.js cs=>.js cs
 |.nU f cs=>.nU f cs
 |.pk r n=>.pk (rA r) n
 |.view k s i j=>.view (lU k) s i j
 |.fn f cap=>.fn f (cap.map λp=>(rA p.1,p.2))
def aS.up:aS->aS
 |.az cs=>.az (cs.map Lf.up)
 |.sl y=>.sl y
 |.mp l=>.mp l
 |.gh xs=>.gh (xs.map A.up)
def S.up(σ:S):S:=⟨λk=>(σ.t k).up,λn=>match AT n with
 |some r=>(σ.m r).map aS.up
 |none=>none⟩
def upI(c:vm):vm:=⟨λX N σ xs k=>c.run X N σ.up (xs.map A.up) λC y=>k C.up y.up⟩
section
variable {P:Program} {w w':World} {w0:Wd} {B N:Nat} {af aA:bw} {ρ ρ':Nat->Loc} {σ:S} {a:Act} {X:Type}
def ans(r:Nat):AT (rA r)=some r:=by
 unfold AT rA;cases h:stays r with
 |true=>simp_all
 | false=>
  have C:stays (r+vu)=false:=by
   unfold stays at h ⊢;simp_all
  have D:Nat.ble vu (r+vu)=true:=ja (Nat.le_add_left _ _);simp[*]
def ant{n r:Nat}(h:AT n=some r):n=rA r:=by
 unfold AT at h;cases D:stays n with
 | true=>
  rw[D]at h;injection h with h;subst h;simp[rA,D]
 | false=>
  rw[D,av]at h;cases C:(Nat.ble vu n && !stays (n-vu))with
  |false=>simp_all
  | true=>
   rw[C]at h;have h:=Option.some.inj h;rw[aM]at C;have I:=cE C.1;have E:stays r=false:=by rw[<- h];simpa using C.2
   simp[rA,E,av];omega
def nt(af:bw):bw:=λb=>(af b).map lU
def wP(ρ:Nat->Loc):Nat->Loc:=λn=>match AT n with
 |some r=>ρ r
 |none=>ρ n
def CT(r:Nat):wP ρ (rA r)=ρ r:=by unfold wP;rw[ans]
def anu{k:aa Nat}(h:k≠[]):lU k≠[]:=by
 match k with
 |[r]=>simp[lU]
 |x::y::k=>simp[lU]
def EV{x:Nat}{k:aa Nat}(h:k≠[]):lU (x :: k)=x :: lU k:=by
 match k with
 |[]=>exact absurd rfl h
 |y::k=>rfl
def acs(x y:Nat)(k:aa Nat):∃ C D,lU (x :: y :: k)=x :: C :: D:=by
 match k with
 |[]=>exact⟨_,_,rfl⟩
 |z::k=>exact⟨y,_,rfl⟩
def Vm:∀ (k:aa Nat) (ad:Addr),addrAt w af ρ k=some ad -> addrAt w (nt af) (wP ρ) (lU k)=some ad
 |[],_,h=>by simp[addrAt]at h
 | [j,i,s,r],ad,h=>by
  simp only[addrAt]at h;simp only[lU,addrAt,CT];split at h
  ·rename_i b n c C;split at h
   next hl=>rw[aW (by simp[nt,hl,lU])];exact h
   ·cases h
  ·cases h
 | j :: i :: s :: x :: y :: q,ad,h=>by
  simp only[addrAt]at h;split at h
  ·rename_i b n c C;split at h
   ·rename_i hl;cases D:addrAt w af ρ (x :: y :: q)with
    |none=>simp_all
    | some I=>
     have E:=Vm (x::y::q) I D;have e:nt af b=some (lU (x::y::q)):=by simp[nt,hl]
     rw[EV (by simp),EV (by simp),EV (by simp)];rw[D]at C;obtain⟨T,U,O⟩:=acs x y q;rw[O]at E e ⊢;simp only[addrAt,E,C,e,if_true];exact h
   ·cases h
  ·cases h
def acu{k:aa Nat}{u:Value}(h:c9 w af ρ k=some u):c9 w (nt af) (wP ρ) (lU k)=some u:=by
 match k with
 | [r]=>
  simp[lU,c9,CT];exact h
 | x :: y :: k=>
  simp[c9]at h;cases C:addrAt w af ρ _ with
  |none=>rw[C]at h;cases h
  | some ad=>
   have:=Vm _ _ C;obtain⟨E,I,D⟩:=acs x y k;rw[D]at this ⊢;simp[c9,this];simp_all
def Vn{b:Nat}(h:af b=none):nt af b=none:=by simp[nt,h]
def RV.up(D:∀ b k,af b=some k->k≠[]){k:aa Nat}{x:V}{v:Value}(h:RV w B af k x v):RV w B (nt af) (lU k) x v:=
 h.map (Q:=λk C=>C=lU k) (dg _) (λb _ h=>⟨rfl,Vn h⟩) (λb k C _ hl e=>by
  subst e;exact⟨rfl,by simp[nt,hl],λj i s=>by rw[EV (by simp),EV (by simp),EV (D b k hl)]⟩) (.inr rfl)
def eB.up(C:∀ b k,af b=some k->k≠[]){x:Lf}{u:Value}(h:eB w B af ρ x u):eB w B (nt af) (wP ρ) x.up u:=by
 cases x with
 |v x=>exact⟨h.1,RV.up C h.2⟩
 |own k=>exact⟨h.1,acu h.2⟩
 |dead=>trivial
def eX.up(E:∀ b k,af b=some k -> k≠[]){cs:aa Lf}{us:Array Value}(h:eX w B af ρ cs us):eX w B (nt af) (wP ρ) (cs.map Lf.up) us:=by
 refine⟨by rw[fy];exact h.1,λj x C=>?_⟩
 rw[eO]at C;cases D:cs[j]? with
 |none=>simp_all
 | some z=>
  rw[D]at C;injection C with C;subst C;obtain⟨u,I,O⟩:=h.2 j z D;exact⟨u,I,O.up E⟩
def RP.up(C:∀ b k,af b=some k->k≠[]){p:Bool×aa Lf}{u:Value}(h:RP w B af ρ p u):RP w B (nt af) (wP ρ) (p.1,p.2.map Lf.up) u:=by
 obtain⟨b,cs⟩:=p;cases b with
 | true=>
  obtain⟨us,rfl,h⟩:=h;exact⟨us,rfl,eX.up C h⟩
 |false=>exact eX.up C h
def RA.up(I:∀ b k,af b=some k -> k≠[]){x:A}{u:Value}(h:RA w B af ρ x u):RA w B (nt af) (wP ρ) x.up u:=by
 cases x with
 |undef=>trivial
 |skip=>exact h
 |lf x=>exact eB.up I h
 |agg cs=>exact RP.up I (p:=(true,cs)) h
 | fz xs=>
  obtain⟨us,rfl,D,E⟩:=h
  refine⟨us,rfl,by rw[fy];exact D,λj p C=>?_⟩
  rw[eO]at C;cases O:xs[j]? with
  |none=>simp_all
  | some z=>
   rw[O]at C;injection C with C;subst C;obtain⟨v,T,U⟩:=E j z O;exact⟨v,T,U.up I⟩
 | ptr k=>
  obtain⟨ad,rfl,h⟩:=h;exact⟨ad,rfl,Vm _ _ h⟩
 | aG r j=>
  obtain⟨b,off,D,E⟩:=h;exact⟨b,off,(CT r).trans D,E⟩
 | js cs=>
  obtain⟨b,off,Y,Z,g3,g4⟩:=h
  refine⟨b,off,Y,Z,Vn g3,λj x hx=>?_⟩
  obtain⟨f1,v,f2,f3⟩:=g4 j x hx;exact⟨f1,v,f2,RV.up I f3⟩
 | nU f cs=>
  obtain⟨pv,e0,h⟩:=h;refine⟨pv,e0,?_⟩;obtain⟨b,off,Y,Z,g3,g4⟩:=h
  refine⟨b,off,Y,Z,Vn g3,λj x hx=>?_⟩
  obtain⟨f1,v,f2,f3⟩:=g4 j x hx;exact⟨f1,v,f2,RV.up I f3⟩
 | pk r n=>
  obtain⟨b,D,E⟩:=h;exact⟨b,(CT r).trans D,E⟩
 | view k s i j=>
  obtain⟨A,n,c,D,E⟩:=h;exact⟨A,n,c,acu D,E⟩
 | fn f cap=>
  obtain⟨vs,rfl,D,E⟩:=h
  refine⟨vs,rfl,by rw[fy];exact D,λj p C=>?_⟩
  rw[eO]at C;cases O:cap[j]? with
  |none=>simp_all
  | some z=>
   rw[O]at C;injection C with C;subst C;obtain⟨b,off,T,U⟩:=E j z O;exact⟨b,off,(CT _).trans T,U⟩
def eH.up(U:∀ b k,af b=some k -> k≠[]){r:Nat}{x:aS}(h:eH w B af ρ r x):eH w B (nt af) (wP ρ) (rA r) x.up:=by
 have T:=CT (ρ:=ρ) r;have hl:∀{b},af b=some [r] -> nt af b=some [rA r]:=λh=>by simp[nt,h,lU]
 cases h with
 | az b off cells e cs us C I Y hs Z=>
  refine .az b off cells e _ us (T.trans C) (hl I) Y (by rw[fy];exact hs) λj x D=>?_
  rw[eO]at D;cases E:cs[j]? with
  |none=>simp_all
  | some z=>
   rw[E]at D;injection D with D;subst D;exact⟨(Z j z E).1,(Z j z E).2.up U⟩
 |sl v y C I=>exact .sl v y (T.trans C) (RV.up U I)
 |mp b c es l C I Y he=>exact .mp b c es l (T.trans C) (hl I) Y he
 | gh us xs C D=>
  refine .gh us _ (T.trans C) λj x O=>?_
  rw[eO]at O;cases E:xs[j]? with
  |none=>simp_all
  | some z=>
   rw[E]at O;injection O with O;subst O;exact RA.up U (D j z E)
def Rl.up(h:Rl w0 N af ρ σ a w):Rl w0 N (nt af) (wP ρ) σ.up a w:=by
 have T:=λb k D=>(h.dj b k D).2.2
 refine⟨h.below,λb k D=>?_,λn x C=>?_,λk=>RA.up T (h.tmp k),h.size,h.defers,λr l E=>?_,h.cS⟩
 ·unfold nt at D;cases hl:af b with
  |none=>simp_all
  | some q=>
   rw[hl]at D;injection D with D;obtain⟨I,O,Y⟩:=h.dj b q hl;exact⟨I,O,by rw[<- D];exact anu Y⟩
 ·have C:(match AT n with | some r=>(σ.m r).map _ | none=>none)=some x:=C;cases U:AT n with
  |none=>simp_all
  | some r=>
   rw[U]at C;have C:(σ.m r).map _=some x:=C;cases hm:σ.m r with
   |none=>simp_all
   | some y=>
    rw[hm]at C;injection C with C;subst C;rw[ant U];exact(h.root r y hm).up T
 ·have Z:stays r=true:=by
   have I:20000 <= r:=Nat.le_of_not_lt λdK=>by rw[w0.low r dK]at E;cases E
   have O:r<60000:=Nat.lt_of_not_le λhle=>by rw[h.cS r (.inr hle)]at E;cases E
   unfold stays;rw[Nat.mod_eq_of_lt (Nat.lt_of_lt_of_le O anr)];exact ja I
  have hu:rA r=r:=by simp[rA,Z]
  have:=CT (ρ:=ρ) r;rw[hu]at this;rw[this];exact h.fix r l E
def anv{f:Nat}{c:vm}(h:ri P f c):ri P f (upI c):=by
 refine⟨λN σ xs X Y k g=>h.1 N σ.up (xs.map A.up) X Y _ g,λN σ xs τ z I w0 af ρ a w bH hR O T=>?_⟩
 obtain⟨U,y,C,Z⟩:=(h.1 N σ.up (xs.map A.up)).mm I;injection C with C;injection C with h4 h5;subst h4 h5;have h3:=h.2 N σ.up (xs.map A.up) U y (Z _ _);have cA:∀b k,af b=some k->k≠[]:=λb k D=>(hR.dj b k D).2.2
 refine(h3 w0 _ _ a w bH hR.up (by rw[fy];exact O) λi=>?_).mono λe w' hp=>?_
 ·rw[eO];have:=T i;cases hx:xs[i]? with
  |none=>trivial
  | some x=>
   rw[hx]at this;exact RA.up cA this
 ·obtain⟨v,aA,ρ',he,E,hy⟩:=hp;exact⟨v,_,_,he,E.up,RA.up (λb k D=>(E.dj b k D).2.2) hy⟩
end
def bq:Nat:=4611686018427387904
def zb(c:Code)(id:Nat):Code:=match (occs c).lookup id with
 |some (.loop b)=>b
 |_=>.skip
def bx(fn:Func):Code:=fn.body.getD .skip
def mE(l:aa (Nat×rj)):eN:=λf=>l.lookup f
def CU(P:Program):aa (Nat×rj)->Prop
 |[]=>True
 |(f,c)::l=>(enters P f/\TR P f c)/\CU P l
def vw{P:Program}:∀ (l:aa (Nat×rj)),CU P l -> fZ P (mE l)
 |[],_=>λf c h=>by cases h
 | (f',E) :: l,⟨I,D⟩=>λf c h=>by
  have C:List.lookup f _=some c:=h;rw[List.lookup_cons]at C;split at C
  ·simp_all
  ·exact vw l D f c C
def jW(l:aa (Nat×tU)):ni:=λid=>l.lookup id
def Vo(P:Program)(N:Nat)(code:Code):aa (Nat×tU)->Prop
 |[]=>True
 |(id,b)::l=>(∃c,(occs code).lookup id=some c/\CI P N (.block id c) b)/\Vo P N code l
def ids(l:aa (Nat×Code)):Bool:=(l.map (·.1)).all λi=>Nat.beq ((l.filter λp=>Nat.beq p.1 i).length) 1
def acv:∀ (l:aa (Nat×Code)) (p:Nat×Code),(∀ q∈l,q.1=p.1 -> q=p) -> p∈l -> l.lookup p.1=some p.2
 |[],p,_,h=>by cases h
 | q :: l,p,C,h=>by
  rw[List.lookup_cons];by_cases D:p.1=q.1
  ·simp_all
  ·have hb:(p.1==q.1)=false:=by simpa using D
   rw[hb];rcases gU.1 h with rfl|h
   ·simp_all
   ·exact acv l p (λq E=>C q (.tail _ E)) h
def anw{l:aa (Nat×Code)}(h:ids l=true){p q:Nat×Code}(D:p∈l)(E:q∈l)(I:q.1=p.1):q=p:=by
 have C:=bT.1 h p.1 (List.mem_map_of_mem D);have C:=cJ C;have O:p∈l.filter λr=>Nat.beq r.1 p.1:=List.mem_filter.2 ⟨D,by simp⟩
 have T:q∈l.filter λr=>Nat.beq r.1 p.1:=List.mem_filter.2 ⟨E,by simp[I]⟩
 obtain⟨z,U⟩:=List.length_eq_one_iff.1 C
 grind
def Vp{P:Program}{N:Nat}{code:Code}(hi:ids (occs code)=true):∀ (l:aa (Nat×tU)),Vo P N code l -> qB P N (jW l) (occs code)
 |[],_=>λp D b h=>by cases h
 | (id,T) :: l,⟨⟨c,U,Y⟩,I⟩=>λp D b h=>by
  have C:List.lookup p.1 _=some b:=h;rw[List.lookup_cons]at C;split at C
  ·rename_i E;have E:p.1=id:=by simpa using E
   injection C with C;subst C;have:=acv _ p (λq O e=>anw hi D O e) D;simp_all
  ·exact Vp hi l I p D b C
def sI{P:Program}{N:Nat}{l:aa (Nat×Code)}:qB P N (jW []) l:=λp C b h=>by cases h
def ci(P:Program)(fn:Func)(C:Nat)(l:aa (Nat×rj)):vm:=aco P fn.ntmps (59000+C) (mE l) (bx fn) fn.results
def EW{P:Program}{f:Nat}{fn:Func}(C:Nat)(l:aa (Nat×rj))(D:P.funcs[f]?=some fn)(hl:CU P l)(hb:fn.body=some (bx fn):=by kernel_rfl)(E:Nat.ble fn.ntmps 20000=true:=by kernel_rfl)(I:Nat.ble C 900=true:=by kernel_rfl)(O:(fn.name == "runtime.NumGoroutine")=false:=by kernel_rfl):enters P f/\ri P f (ci P fn C l):=
 anp D hb rfl (cE E) O ⟨by omega,by have:=cE I;omega⟩ (vw l hl)
def cj(P:Program)(fn:Func)(C:Nat)(l:aa (Nat×rj)):vm:=upI (ci P fn C l)
def Iz{P:Program}{f:Nat}{fn:Func}{C:Nat}{l:aa (Nat×rj)}(h:enters P f/\ri P f (ci P fn C l)):enters P f/\ri P f (cj P fn C l):=⟨h.1,anv h.2⟩
def NI{P:Program}{f:Nat}{fn:Func}{ai:aa (Bool×TC)}{ro:aa (Bool×TC×Nat)}{F:lu ai->aj (je ro)}(N:Nat)(l:aa (Nat×rj))(b:aa (Nat×tU))(C:P.funcs[f]?=some fn)(hl:CU P l)(D:qB P N (jW b) (occs (bx fn)))(E:∀x,rz P N (mE l) (jW b) (bx fn) fn.results (gJ ai x) (mz ro)=F x)(hb:fn.body=some (bx fn):=by kernel_rfl)(I:fn.ntmps=N:=by kernel_rfl)(O:(fn.name == "runtime.NumGoroutine")=false:=by kernel_rfl)(T:Nat.ble ai.length N=true:=by kernel_rfl)(U:mD ro=true:=by kernel_rfl):enters P f/\jl P f (iL ai ro F):=ane C hb I O T U (vw l hl) D E
def CV{P:Program}{f:Nat}{fn:Func}{t:TC}{g:Nat}{F:aa (T t)->aj (aa (T t))}(N:Nat)(l:aa (Nat×rj))(b:aa (Nat×tU))(C:P.funcs[f]?=some fn)(hl:CU P l)(D:qB P N (jW b) (occs (bx fn)))(E:∀ x:aa (T t),rz P N (mE l) (jW b) (bx fn) fn.results [(false,[.sl t 0 false x])] (mz [(false,.sl t,g)])=F x)
  (I:rz P N (mE l) (jW b) (bx fn) fn.results [(false,[.nil])] (mz [(false,.sl t,g)])=some ([]:aa (T t)):=by kernel_rfl) (O:rz P N (mE l) (jW b) (bx fn) fn.results [(false,[.sl t 0 true []])] (mz [(false,.sl t,g)])=some ([]:aa (T t)):=by kernel_rfl)
  (hb:fn.body=some (bx fn):=by kernel_rfl) (U:fn.ntmps=N:=by kernel_rfl) (Y:(fn.name == "runtime.NumGoroutine")=false:=by kernel_rfl) (Z:Nat.ble 1 N=true:=by kernel_rfl) (fk:mD [(false,.sl t,g)]=true:=by kernel_rfl):enters P f/\jl P f (iL [(false,.sl t)] [(false,.sl t,g)] λx=>bif jG x.1 then some ([]:aa (T t))else F x.1):=anf C hb U Y Z fk (vw l hl) D E I O
def acw{P:Program}{id:Nat}{body:Code}{C:bG}{D:aa (Nat×bG)}{F:C.St->aj (C.St⊕vp D)}{fuel:C.St->Nat}(N:Nat)(l:aa (Nat×rj))(b:aa (Nat×tU))(hl:CU P l)(E:qB P N (jW b) (occs body))(I:∀x,ER P N (mE l) (jW b) body C D x=F x):CI P N (.block id (.loop body)) (Nz id C D F fuel):=am9 (vw l hl) E I
abbrev W6 (x:Int):Int:=IntKind.i64.wrap x
/-! Words for what printed functions say often. -/
def xI{α β:Type}(l:aa α)(i:Int)(k:α->aj β):aj β:=if h:0<=i/\i.toNat<l.length then (let e:=l[i.toNat]'h.2;k e)else none
def xC{α β:Type}(l:aa α)(i:Int)(k:aj β):aj β:=if h:0<=i/\i.toNat<l.length then k else none
def xM{α β:Type}(l:aa α)(i:Int)(k:α->aj β):aj β:=if h:i.toNat<l.length then (let e:=l[i.toNat]'h;k e)else none
def xL{α β:Type}(l:aa α)(i:Int)(k:α->aj β):aj β:=if h:0<=i/\i.toNat<l.length then (if h:i.toNat<l.length then (let e:=l[i.toNat]'h;k e)else none)else none
def xZ{α:Type}(l:aa α):Bool:=bX (([]:aa α).length+l.length)
def xA{α:Type}(l:aa α):aa α:=([]:aa α)++l
def bR{S A C:Type}(L:S->aj (S⊕(A⊕Empty)))(s:S)(f:A->aj C):aj C:=(iter L bq s).bind (Sum.elim f (λz=>nomatch z))
def bY{S A B C:Type}(L:S->aj (S⊕(A⊕(B⊕Empty))))(s:S)(f:A->aj C)(g:B->aj C):aj C:=(iter L bq s).bind (Sum.elim f (Sum.elim g (λz=>nomatch z)))
def xG{S E:Type}(s:S):aj (S⊕E):=some (.inl s)
def aE{S A E:Type}(v:A):aj (S⊕(A⊕E)):=some (.inr (.inl v))
def bk{S A B E:Type}(v:B):aj (S⊕(A⊕(B⊕E))):=some (.inr (.inr (.inl v)))
abbrev tI:Tm:=.lf (.int .i64)
abbrev tB:Tm:=.lf (.bool)
structure KC (P:Program) where
 f:Nat
 c:rj
 ok:enters P f/\TR P f c
def KL{P:Program}(l:aa (KC P)):aa (Nat×rj):=l.map λk=>(k.f,k.c)
def vz{P:Program}:∀ l:aa (KC P),CU P (KL l)
 |[]=>trivial
 |k::l=>⟨k.ok,vz l⟩
structure BK (P:Program) (N:Nat) (code:Code) where
 id:Nat
 b:tU
 ok:CI P N (.block id (.loop (zb code id))) b
section
variable {P:Program} {f N:Nat} {fn:Func} {code:Code}
def BL(l:aa (BK P N code)):aa (Nat×tU):=l.map λk=>(k.id,k.b)
def BC(l:aa (BK P N code)):aa (aj Code):=l.map λk=>(occs code).lookup k.id
def BD(l:aa (BK P N code)):aa (aj Code):=l.map λk=>some (.loop (zb code k.id))
def acy:∀ l:aa (BK P N code),BC l=BD l -> Vo P N code (BL l)
 |[],_=>trivial
 | k :: l,h=>by
  unfold BC BD at h;injection h with C D;exact⟨⟨_,C,k.ok⟩,acy l D⟩
def BT(l:aa (BK P N code))(C:BC l=BD l)(hi:ids (occs code)=true):qB P N (jW (BL l)) (occs code):=Vp hi _ (acy l C)
def lB(id:Nat)(C:bG)(D:aa (Nat×bG))(F:C.St->aj (C.St⊕vp D)):tU:=Nz id C D F λ_=>bq
def lp{body:Code}{id:Nat}{C:bG}{D:aa (Nat×bG)}{F:C.St->aj (C.St⊕vp D)}(l:aa (KC P))(E:∀x,ER P N (mE (KL l)) (jW []) body C D x=F x:=by intro x;kernel_rfl):CI P N (.block id (.loop body)) (lB id C D F):=acw N (KL l) [] (vz l) sI E
def lq{id:Nat}{C:bG}{D:aa (Nat×bG)}{F:C.St->aj (C.St⊕vp D)}(l:aa (KC P))(b:aa (BK P N code))(E:BC b=BD b:=by kernel_rfl)(hi:ids (occs code)=true:=by kernel_rfl)(I:∀x,ER P N (mE (KL l)) (jW (BL b)) code C D x=F x:=by intro x;kernel_rfl):CI P N (.block id (.loop code)) (lB id C D F):=acw N (KL l) (BL b) (vz l) (BT b E hi) I
def kp{ai:aa (Bool×TC)}{ro:aa (Bool×TC×Nat)}{F:lu ai->aj (je ro)}(N:Nat)(l:aa (KC P))(C:P.funcs[f]?=some fn)(D:∀x,rz P N (mE (KL l)) (jW []) (bx fn) fn.results (gJ ai x) (mz ro)=F x:=by intro x;kernel_rfl)(hb:fn.body=some (bx fn):=by kernel_rfl)(E:fn.ntmps=N:=by kernel_rfl)(I:(fn.name == "runtime.NumGoroutine")=false:=by kernel_rfl)(O:Nat.ble ai.length N=true:=by kernel_rfl)(T:mD ro=true:=by kernel_rfl):enters P f/\jl P f (iL ai ro F):=NI N (KL l) [] C (vz l) sI D hb E I O T
def kq{ai:aa (Bool×TC)}{ro:aa (Bool×TC×Nat)}{F:lu ai->aj (je ro)}(N:Nat)(l:aa (KC P))(b:aa (BK P N (bx fn)))(C:P.funcs[f]?=some fn)(D:BC b=BD b:=by kernel_rfl)(hi:ids (occs (bx fn))=true:=by kernel_rfl)(E:∀x,rz P N (mE (KL l)) (jW (BL b)) (bx fn) fn.results (gJ ai x) (mz ro)=F x:=by intro x;kernel_rfl)(hb:fn.body=some (bx fn):=by kernel_rfl)(I:fn.ntmps=N:=by kernel_rfl)(O:(fn.name == "runtime.NumGoroutine")=false:=by kernel_rfl)(T:Nat.ble ai.length N=true:=by kernel_rfl)(U:mD ro=true:=by kernel_rfl):enters P f/\jl P f (iL ai ro F):=NI N (KL l) (BL b) C (vz l) (BT b D hi) E hb I O T U
def km{ps:aa PK}{ro:aa (Bool×TC×Nat)}{F:lQ ps->aj (je ro×sr (eU ps))}(N:Nat)(l:aa (KC P))(C:P.funcs[f]?=some fn)(D:∀x,CQ P N (mE (KL l)) (jW []) (bx fn) fn.results (n7 ps x) (kE ps 0 x) (ET (eU ps) ro)=F x:=by intro x;kernel_rfl)(hb:fn.body=some (bx fn):=by kernel_rfl)(E:fn.ntmps=N:=by kernel_rfl)(I:(fn.name == "runtime.NumGoroutine")=false:=by kernel_rfl)(O:Nat.ble ps.length N=true:=by kernel_rfl)(T:Nat.ble N 20000=true:=by kernel_rfl)(U:mD ro=true:=by kernel_rfl):enters P f/\wB P f ⟨ps,ro,F⟩:=ND C hb E I O T U (vw _ (vz l)) sI D
def kn{ps:aa PK}{ro:aa (Bool×TC×Nat)}{F:lQ ps->aj (je ro×sr (eU ps))}(N:Nat)(l:aa (KC P))(b:aa (BK P N (bx fn)))(C:P.funcs[f]?=some fn)(D:BC b=BD b:=by kernel_rfl)(hi:ids (occs (bx fn))=true:=by kernel_rfl)(E:∀x,CQ P N (mE (KL l)) (jW (BL b)) (bx fn) fn.results (n7 ps x) (kE ps 0 x) (ET (eU ps) ro)=F x:=by intro x;kernel_rfl)(hb:fn.body=some (bx fn):=by kernel_rfl)(I:fn.ntmps=N:=by kernel_rfl)(O:(fn.name == "runtime.NumGoroutine")=false:=by kernel_rfl)(T:Nat.ble ps.length N=true:=by kernel_rfl)(U:Nat.ble N 20000=true:=by kernel_rfl)(Y:mD ro=true:=by kernel_rfl):enters P f/\wB P f ⟨ps,ro,F⟩:=ND C hb I O T U Y (vw _ (vz l)) (BT b D hi) E
def bD(ai:aa (Bool×TC))(ro:aa (Bool×TC×Nat))(F:lu ai->aj (je ro))(N:Nat)(l:aa (KC P))(C:P.funcs[f]?=some fn)(D:∀x,rz P N (mE (KL l)) (jW []) (bx fn) fn.results (gJ ai x) (mz ro)=F x:=by intro x;kernel_rfl)(hb:fn.body=some (bx fn):=by kernel_rfl)(E:fn.ntmps=N:=by kernel_rfl)(I:(fn.name == "runtime.NumGoroutine")=false:=by kernel_rfl)(O:Nat.ble ai.length N=true:=by kernel_rfl)(T:mD ro=true:=by kernel_rfl):KC P:=⟨f,.p (iL ai ro F),NI N (KL l) [] C (vz l) sI D hb E I O T⟩
def cM(ai:aa (Bool×TC))(ro:aa (Bool×TC×Nat))(F:lu ai->aj (je ro))(N:Nat)(l:aa (KC P))(b:aa (BK P N (bx fn)))(C:P.funcs[f]?=some fn)(D:BC b=BD b:=by kernel_rfl)(hi:ids (occs (bx fn))=true:=by kernel_rfl)(E:∀x,rz P N (mE (KL l)) (jW (BL b)) (bx fn) fn.results (gJ ai x) (mz ro)=F x:=by intro x;kernel_rfl)(hb:fn.body=some (bx fn):=by kernel_rfl)(I:fn.ntmps=N:=by kernel_rfl)(O:(fn.name == "runtime.NumGoroutine")=false:=by kernel_rfl)(T:Nat.ble ai.length N=true:=by kernel_rfl)(U:mD ro=true:=by kernel_rfl):KC P:=⟨f,.p (iL ai ro F),NI N (KL l) (BL b) C (vz l) (BT b D hi) E hb I O T U⟩
def nu(ps:aa PK)(ro:aa (Bool×TC×Nat))(F:lQ ps->aj (je ro×sr (eU ps)))(N:Nat)(l:aa (KC P))(C:P.funcs[f]?=some fn)(D:∀x,CQ P N (mE (KL l)) (jW []) (bx fn) fn.results (n7 ps x) (kE ps 0 x) (ET (eU ps) ro)=F x:=by intro x;kernel_rfl)(hb:fn.body=some (bx fn):=by kernel_rfl)(E:fn.ntmps=N:=by kernel_rfl)(I:(fn.name == "runtime.NumGoroutine")=false:=by kernel_rfl)(O:Nat.ble ps.length N=true:=by kernel_rfl)(T:Nat.ble N 20000=true:=by kernel_rfl)(U:mD ro=true:=by kernel_rfl):KC P:=⟨f,.m ⟨ps,ro,F⟩,ND C hb E I O T U (vw _ (vz l)) sI D⟩
def IA(ps:aa PK)(ro:aa (Bool×TC×Nat))(F:lQ ps->aj (je ro×sr (eU ps)))(N:Nat)(l:aa (KC P))(b:aa (BK P N (bx fn)))(C:P.funcs[f]?=some fn)(D:BC b=BD b:=by kernel_rfl)(hi:ids (occs (bx fn))=true:=by kernel_rfl)(E:∀x,CQ P N (mE (KL l)) (jW (BL b)) (bx fn) fn.results (n7 ps x) (kE ps 0 x) (ET (eU ps) ro)=F x:=by intro x;kernel_rfl)(hb:fn.body=some (bx fn):=by kernel_rfl)(I:fn.ntmps=N:=by kernel_rfl)(O:(fn.name == "runtime.NumGoroutine")=false:=by kernel_rfl)(T:Nat.ble ps.length N=true:=by kernel_rfl)(U:Nat.ble N 20000=true:=by kernel_rfl)(Y:mD ro=true:=by kernel_rfl):KC P:=⟨f,.m ⟨ps,ro,F⟩,ND C hb I O T U Y (vw _ (vz l)) (BT b D hi) E⟩
def xU0{A R:Type}(F:R)(_:A):R:=F
def bP{A Z R:Type}(F:A->R)(x:A×Z):R:=F x.1
def cF{A B Z R:Type}(F:A->B->R)(x:A×B×Z):R:=F x.1 x.2.1
def iV{A B C Z R:Type}(F:A->B->C->R)(x:A×B×C×Z):R:=F x.1 x.2.1 x.2.2.1
def AU{A B C D Z R:Type}(F:A->B->C->D->R)(x:A×B×C×D×Z):R:=F x.1 x.2.1 x.2.2.1 x.2.2.2.1
def NJ{A B C D E Z R:Type}(F:A->B->C->D->E->R)(x:A×B×C×D×E×Z):R:=F x.1 x.2.1 x.2.2.1 x.2.2.2.1 x.2.2.2.2.1
end
end Go.Proofs.YtpigmalhjkekiaaGreat
