/-
  Running the program over pure contents, and that it follows (part Z). Nothing here is a claim.
-/
import Derived.Test.YthmgjjfedieljaaGreatV4
set_option linter.unusedSimpArgs false
namespace Go.Proofs.YthmgjjfedieljaaGreat
set_option linter.defProp false
open Go.RowKit
set_option linter.unusedVariables false
section
variable {P:Program} {w w':World} {w0:Wd} {B N:Nat} {af aC:bB} {ρ ρ':Nat->Loc} {σ:S} {a:Act} {X:Type} {d:Nat} {r:X} {o:Oper} {Φ:fo} {Λ:oW}
def anF{E:ah Tmp}{g:Bool}{k:S -> ah X}(h:vw σ E g k=some r):∃ C,k C=some r /\ ∀ a w,R w0 N σ a w -> R w0 N C a w:=by
 unfold vw at h;cases g with
 |false=>grind
 | true=>
  rw[av]at h;split at h
  ·rename_i d;split at h
   ·rename_i b hb;have key:∀ c:Bool,b=c -> ∀ a w,R w0 N σ a w -> R w0 N (σ.set d (.lf (.v (.bool c)))) a w:=by
     rintro c rfl a w ⟨af,ρ,hR⟩
     refine⟨af,ρ,hR.below,hR.dj,hR.root,λk=>?_,hR.size,hR.defers,hR.fix,hR.cT⟩
     show RA w w0.heap.size af ρ (bK σ.t d (.lf (.v (.bool b))) k) _;by_cases D:k=d
     ·subst D;rw[bT,<- hb];exact hR.tmp k
     ·rw[cz _ _ _ D];exact hR.tmp k
    grind
   ·grind
  ·grind
def Oq(U:gL P Φ)(ops:Array Oper):∀ (rest:aa Oper) (j:Nat) (σ:S) (k:S -> ah X),DU P N Φ ops j rest σ k=some r -> ∃ di,k di=some r /\ ∀ a w,R w0 N σ a w -> ∀ Q,(∀ E w',R w0 N di E w' -> Q Exit.normal E w') -> wpList P ops Q rest a w
 |[],j,σ,k,h=>⟨σ,h,λa w hR Q D=>D a w hR⟩
 | o :: rest,j,σ,k,h=>by
  unfold DU at h;split at h
  ·rename_i Y;obtain⟨tq,h1,mE⟩:=amy U h;obtain⟨σ2,h2,yx⟩:=anF h1;obtain⟨I,O,T⟩:=Oq U ops rest (j+1) σ2 k h2
   refine⟨I,O,λa w hR Q D=>?_⟩
   obtain⟨af,ρ,C⟩:=hR;simp only[wpList,Gj Y C,if_true];exact .inl (mE a w _ Q ⟨af,ρ,C⟩ λE w' vu=>T E w' (yx E w' vu) Q D)
  ·rename_i Y;unfold jm at h;split at h
   ·rename_i Z;obtain⟨I,O,T⟩:=Oq U ops rest _ σ k h
    refine⟨I,O,λa w hR Q D=>?_⟩
    obtain⟨af,ρ,C⟩:=hR;simp[wpList,Gj Y C,Z];exact T a w ⟨af,ρ,C⟩ Q D
   ·rename_i d Z;cases hN:Nat.blt d N with
    |false=>simp_all
    | true=>
     rw[hN,av]at h;obtain⟨I,O,T⟩:=Oq U ops rest (j+1) _ k h
     refine⟨I,O,λa w hR Q D=>?_⟩
     obtain⟨af,ρ,C⟩:=hR;simp only[wpList,Gj Y C,Z];exact T _ w ⟨af,ρ,C.set rfl (by have:=cH hN;omega)⟩ Q D
  ·cases h
def Gk(eF:gL P Φ):∀ (c:Code) (σ:S) (k:Exit->S->ah X),ny P N Φ Λ c σ k=some r->sn P N Λ (occs c)->AW P w0 N c σ λe D=>k e D=some r:=by
 intro c
 induction c with
 |skip=>exact λσ k h _ a w hR=>wp_skip ⟨σ,h,hR⟩
 |label l=>exact λσ k h _ a w hR=>wp_label ⟨σ,h,hR⟩
 |ret=>exact λσ k h _ a w hR=>wp_ret ⟨σ,h,hR⟩
 |exit id=>exact λσ k h _ a w hR=>wp_exit ⟨σ,h,hR⟩
 | region id ops draw=>
  intro σ k h _ a w hR;cases draw with
  | true=>
   simp only[ny]at h;cases hm:P.follows .mixedOrders with
   |false=>rw[hm]at h;cases h
   | true=>
    rw[hm,av]at h
    haveI:Inhabited Wd:=⟨w0⟩
    exact anE eF hm h (λτ jz a w hR=>⟨τ,jz,hR⟩) hR
  | false=>
   simp only[ny]at h;obtain⟨D,h',hw⟩:=Oq (w0:=w0) eF ops _ _ _ _ h;exact wp_region_list (hw a w hR _ λT w' C=>⟨D,h',C⟩)
 | seq x y U Y=>
  intro σ k h I a w hR;simp only[ny]at h;have Z:=U σ _ h (λp E=>I p (List.mem_append_left _ E))
  refine wp_seq (wp_mono (Z a w hR) λe T w' he=>?_)
  obtain⟨D,O,C⟩:=he;cases e with
  |normal=>exact Y D k O (λp E=>I p (List.mem_append_right _ E)) T w' C
  |_=>exact⟨D,O,C⟩
 | cond c x y U Y=>
  intro σ k h I a w hR;simp only[ny]at h;split at h
  ·rename_i b hb;obtain⟨af,ρ,C⟩:=hR;have hc:=C.aJ c;rw[hb]at hc;have hcv:=hc.2.Bp;cases b with
   |true=>exact wp_cond_true hcv (U σ k h (λp E=>I p (List.mem_append_left _ E)) a w ⟨af,ρ,C⟩)
   |false=>exact wp_cond_false hcv (Y σ k h (λp E=>I p (List.mem_append_right _ E)) a w ⟨af,ρ,C⟩)
  ·cases h
 | block id c ih=>
  intro σ k h I a w hR;simp only[ny]at h;split at h
  next b hb=>exact I (id,c) (.head _) b hb X σ k r w0 h a w hR
  ·have Z:=ih σ _ h (λp E=>I p (.tail _ E))
   refine wp_block (wp_mono (Z a w hR) λe T w' he=>?_)
   obtain⟨D,O,C⟩:=he;cases e with
   | exit id'=>
    simp only[Exit.inBlock];by_cases hid:id'=id
    ·simp only[hid,if_true]at O ⊢;exact⟨D,O,C⟩
    ·simp only[hid,if_false]at O ⊢;exact⟨D,O,C⟩
   |_=>exact⟨D,O,C⟩
 |_=>exact λσ k h=>by simp[ny]at h
end
/-! What a loop carries. -/
inductive Lm where
 |int (k:IntKind)
 |bool
 |str
 |own (r:Nat)
 |aI (t:TC) (o:Nat)
def Lm.T:Lm->Type
 |.int _=>Int
 |.bool=>Bool
 |.str=>ByteArray
 |.own _=>aj
 |.aI t _=>aa (Proofs.YthmgjjfedieljaaGreat.T t)
def Lm.mk:(m:Lm)->m.T->Lf
 |.int k,n=>.v (.int k n)
 |.bool,b=>.v (.bool b)
 |.str,s=>.v (.str s)
 |.own r,_=>.own [r]
 |.aI t o,l=>.v (.sl t o false l)
def Lm.rd:(m:Lm)->Lf->ah m.T
 |.int k,.v (.int C n)=>if C=k then some n else none
 |.bool,.v (.bool b)=>some b
 |.str,.v (.str s)=>some s
 |.own r,.own [r']=>bif Nat.beq r' r then some ()else none
 |.aI t o,.v x=>bif Nat.blt o 2 then x.gn t o else none
 |_,_=>none
inductive Tm where
 |lf (m:Lm)
 |aL (r j:Nat)
 |fp (t:TC) (o:Nat)
 |fc (f:Nat) (t:TC)
 |ag (t:TC)
 |pk (r n:Nat)
def Tm.T:Tm->Type
 |.lf m=>m.T
 |.aL _ _=>aj
 |.fp t _=>Proofs.YthmgjjfedieljaaGreat.T t
 |.fc _ t=>Proofs.YthmgjjfedieljaaGreat.T t
 |.ag t=>Proofs.YthmgjjfedieljaaGreat.T t
 |.pk _ _=>aj
def Tm.mk:(m:Tm)->m.T->A
 |.lf m,x=>.lf (m.mk x)
 |.aL r j,_=>.aL r j
 |.fp t o,x=>.kG (enc t o x)
 |.fc f t,x=>.qf f (enc t 0 x)
 |.ag t,x=>.agg ((enc t 0 x).map .v)
 |.pk r n,_=>.pk r n
def Tm.rd:(m:Tm)->A->ah m.T
 |.lf m,.lf x=>m.rd x
 |.aL r j,.aL r' C=>bif Nat.beq r' r&&Nat.beq C j then some ()else none
 |.fp t o,.kG cs=>bif Nat.blt o 2 then dec t o cs else none
 |.fc f t,.qf f' cs=>bif Nat.beq f' f then dec t 0 cs else none
 | .ag t,.agg cs=>(match wR cs with
  |some D=>dec t 0 D
  |none=>none)
 |.pk r n,.pk r' n'=>bif Nat.beq r' r&&Nat.beq n' n then some ()else none
 |_,_=>none
def Kb:aa Lm->Type
 |[]=>aj
 |m::C=>m.T×Kb C
def AF:(C:aa Lm)->Kb C->aa Lf
 |[],_=>[]
 |m::C,x=>m.mk x.1::AF C x.2
def Ot:(C:aa Lm)->aa Lf->ah (Kb C)
 |[],[]=>some ()
 | m :: C,x :: xs=>match m.rd x,Ot C xs with
  |some y,some ys=>some (y,ys)
  |_,_=>none
 |_,_=>none
inductive Rm where
 |sl (t:TC) (o:Nat)
 |st (t:TC)
 |aD (ms:List Lm)
 |mp
def Rm.T:Rm->Type
 |.sl t _=>aa (Proofs.YthmgjjfedieljaaGreat.T t)
 |.st t=>Proofs.YthmgjjfedieljaaGreat.T t
 |.aD C=>Kb C
 |.mp=>aa (Int×Bool)
def Rm.mk:(m:Rm)->m.T->aU
 |.sl t o,l=>.sl (.sl t o false l)
 |.st t,x=>.aD ((enc t 0 x).map .v)
 |.aD C,x=>.aD (AF C x)
 |.mp,l=>.mp l
def Rm.rd:(m:Rm)->aU->ah m.T
 |.sl t o,.sl y=>y.gn t o
 | .st t,.aD cs=>(match wR cs with
  |some C=>dec t 0 C
  |none=>none)
 |.aD D,.aD cs=>Ot D cs
 |.mp,.mp l=>some l
 |_,_=>none
def Gl:aa (Nat×Tm)->Type
 |[]=>aj
 |(_,m)::C=>m.T×Gl C
def AG:(C:aa (Nat×Tm))->Gl C->Nat->A
 |[],_,_=>.undef
 |(n,m)::C,x,k=>bif Nat.beq k n then m.mk x.1 else AG C x.2 k
def Kc:(C:aa (Nat×Tm))->(Nat->A)->ah (Gl C)
 |[],_=>some ()
 | (n,m) :: C,t=>match m.rd (t n),Kc C t with
  |some x,some xs=>some (x,xs)
  |_,_=>none
def AH:aa (Nat×Rm)->Type
 |[]=>aj
 |(_,m)::C=>m.T×AH C
def AI:(C:aa (Nat×Rm))->AH C->Nat->ah aU
 |[],_,_=>none
 |(n,m)::C,x,k=>bif Nat.beq k n then some (m.mk x.1)else AI C x.2 k
def Gm:(C:aa (Nat×Rm))->(Nat->ah aU)->ah (AH C)
 |[],_=>some ()
 | (n,m) :: C,t=>match (t n).bind m.rd,Gm C t with
  |some x,some xs=>some (x,xs)
  |_,_=>none
structure kV where
 ts:List (Nat×Tm)
 rs:List (Nat×Rm)
def kV.St(C:kV):Type:=Gl C.ts×AH C.rs
def kV.mk'(C:kV)(x:C.St):S:=⟨AG C.ts x.1,AI C.rs x.2⟩
def kV.Ou(C:kV)(σ:S):ah C.St:=match Kc C.ts σ.t,Gm C.rs σ.m with
 |some x,some y=>some (x,y)
 |_,_=>none
/-! Roots by other names. -/
abbrev Rn:=aa (Nat×Nat)
def Rn.inv(rs:Rn)(n:Nat):ah Nat:=(rs.find? λp=>Nat.beq p.2 n).map (·.1)
def Rn.add(rs:Rn)(r n:Nat):Rn:=bif rs.any (λp=>Nat.beq p.1 r&&Nat.beq p.2 n)then rs else (r,n)::rs
def VL(n:Nat):ah Nat->Bool
 |some m=>Nat.beq m n
 |none=>false
def Rn.ok(rs:Rn):Bool:=rs.all λp=>(Nat.beq p.1 p.2 ||Nat.ble 60000 p.2)&&VL p.2 (rs.lookup p.1)&&VL p.1 (rs.inv p.2)
def Lf.fm(rs:Rn):Lf->Lf
 |.v x=>.v x
 | .own [r]=>(match rs.lookup r with
  |some n=>.own [n]
  |none=>.dead)
 |_=>.dead
def A.fm(rs:Rn):A->A
 |.lf x=>.lf (x.fm rs)
 | .aL r j=>(match rs.lookup r with
  |some n=>.aL n j
  |none=>.undef)
 |.kG cs=>.kG cs
 |.qf f cs=>.qf f cs
 |.agg cs=>.agg (cs.map (Lf.fm rs))
 |_=>.undef
def aU.fm(rs:Rn):aU->aU
 |.aD cs=>.aD (cs.map (Lf.fm rs))
 |.sl y=>.sl y
 |.mp l=>.mp l
 |.gh _=>.gh []
def S.fm(rs:Rn)(σ:S):S:=⟨λk=>(σ.t k).fm rs,λn=>match rs.inv n with
 |some r=>(σ.m r).map (aU.fm rs)
 |none=>none⟩
def rnL:Lm->Lf->Rn->Rn
 |.own n,.own [r],rs=>rs.add r n
 |_,_,rs=>rs
def VM:aa Lm->aa Lf->Rn->Rn
 |m::C,x::xs,rs=>VM C xs (rnL m x rs)
 |_,_,rs=>rs
def rnT:Tm->A->Rn->Rn
 |.lf m,.lf x,rs=>rnL m x rs
 |.aL n j,.aL r C,rs=>rs.add r n
 |_,_,rs=>rs
def acF(t:Nat->A):aa (Nat×Tm)->Rn->Rn
 |[],rs=>rs
 |(k,m)::C,rs=>acF t C (rnT m (t k) rs)
def acG(m:Nat->ah aU):aa (Nat×Rm)->Rn->Rn
 |[],rs=>rs
 | (n,x) :: xs,rs=>acG m xs (match x,rs.inv n with
  | .aD C,some r=>(match m r with
   |some (.aD cs)=>VM C cs rs
   |_=>rs)
  | .aD C,none=>(match m n with
   |some (.aD cs)=>VM C cs (rs.add n n)
   |_=>rs)
  |_,some _=>rs
  |_,none=>rs.add n n)
def kV.rn(C:kV)(σ:S):Rn:=acG σ.m C.rs (acF σ.t C.ts [])
def VN(rs:aa (Nat×Rm))(p:Nat×Tm)(σ:S):S:=match p.2,σ.t p.1 with
 | .lf (.own n),.lf (.v .nil)=>(match rs.lookup n with
  |some (.sl t o)=>bif Nat.ble 60000 n then ⟨bK ((σ.drop n).root n (.sl (.sl t o false []))).t p.1 (.lf (.own [n])),((σ.drop n).root n (.sl (.sl t o false []))).m⟩else σ
  |_=>σ)
 |_,_=>σ
def Ov(rs:aa (Nat×Rm)):aa (Nat×Tm)->S->S
 |[],σ=>σ
 |p::ps,σ=>Ov rs ps (VN rs p σ)
def VO(n j r:Nat)(σ:S):S:=match σ.m r with
 | some (.aD cs)=>(match cs[j]? with
  |some (.v .nil)=>⟨σ.t,bK σ.m r (some (.aD (cs.set j (.own [n]))))⟩
  |_=>σ)
 |_=>σ
def VP(rs:aa (Nat×Rm))(n j r:Nat)(σ:S):S:=match rs.lookup n with
 |some (.sl t o)=>bif Nat.ble 60000 n then VO n j r ((σ.drop n).root n (.sl (.sl t o false [])))else σ
 |_=>σ
def D0(rs:aa (Nat×Rm))(r:Nat):Nat->aa Lm->aa Lf->S->S
 |j,.own n::C,.v .nil::cs,σ=>D0 rs r (j+1) C cs (VP rs n j r σ)
 |j,_::C,_::cs,σ=>D0 rs r (j+1) C cs σ
 |_,_,_,σ=>σ
def Ow(rs:aa (Nat×Rm)):aa (Nat×Rm)->S->S
 |[],σ=>σ
 | (r,.aD C) :: ps,σ=>Ow rs ps (match σ.m r with
  |some (.aD cs)=>D0 rs r 0 C cs σ
  |_=>σ)
 |_::ps,σ=>Ow rs ps σ
def kV.rd1(C:kV)(σ:S):ah C.St:=bif (C.rn σ).ok then C.Ou (Ow C.rs C.rs (σ.fm (C.rn σ)))else none
def kV.rd(C:kV)(σ:S):ah C.St:=match C.Ou σ with
 |some x=>some x
 |none=>C.rd1 (Ov C.rs C.ts σ)
section
variable {P:Program} {w w':World} {w0:Wd} {B N:Nat} {af aC:bB} {ρ ρ':Nat->Loc} {σ:S} {a:Act} {X:Type} {d:Nat} {r:X} {o:Oper} {Φ:fo} {Λ:oW}
def Lm.tw{m:Lm}{x:Lf}{y:m.T}(h:m.rd x=some y){u:Value}(C:eE w B af ρ x u):eE w B af ρ (m.mk y) u:=by
 unfold Lm.rd at h;split at h
 ·split at h
  next D=>subst D;injection h with h;subst h;exact C
  ·cases h
 ·injection h with h;subst h;exact C
 ·injection h with h;subst h;exact C
 ·rename_i r' E;cases hb:Nat.beq E r' with
  |false=>simp_all
  |true=>obtain rfl:=c8 hb;exact C
 ·rename_i t o x;cases hb:Nat.blt o 2 with
  |false=>rw[hb]at h;cases h
  | true=>
   rw[hb]at h;have:=cH hb;exact⟨by simp[V.aI];omega,C.2.wk (V.IE h)⟩
 ·cases h
def Tm.tw{m:Tm}{x:A}{y:m.T}(h:m.rd x=some y){u:Value}(I:RA w B af ρ x u):RA w B af ρ (m.mk y) u:=by
 cases m with
 | lf m=>
  cases x with
  |lf x=>exact Lm.tw h I
  |_=>cases h
 | aL r j=>
  cases x with
  | aL r' j'=>
   have h:(bif Nat.beq r' r&&Nat.beq j' j then some ()else none)=some y:=h;cases hb:(Nat.beq r' r&&Nat.beq j' j)with
   |false=>simp_all
   | true=>
    rw[aH]at hb;obtain rfl:=c8 hb.1;obtain rfl:=c8 hb.2;exact I
  |_=>cases h
 | fp t o=>
  cases x with
  | kG cs=>
   have h:(bif Nat.blt o 2 then dec t o cs else none)=some y:=h;cases hb:Nat.blt o 2 with
   |false=>simp_all
   | true=>
    rw[hb,av]at h;have ho:=cH hb;have D:=nY t o cs y h;obtain⟨b,off,U,Y,Z,h4⟩:=I
    refine⟨b,off,U,Y,Z,λj z C=>?_⟩
    have hj:j<cs.length:=by rw[D.1];exact(dW.1 C).1
    have E:=bL hj;obtain⟨g1,v,g2,g3⟩:=h4 j _ E;exact⟨sX t o y (by omega) j z C,v,g2,g3.wk (D.2 j _ z E C)⟩
  |_=>cases h
 | fc f t=>
  cases x with
  | qf f' cs=>
   have h:(bif Nat.beq f' f then dec t 0 cs else none)=some y:=h;cases hb:Nat.beq f' f with
   |false=>simp_all
   | true=>
    rw[hb,av]at h;obtain rfl:=c8 hb;have D:=nY t 0 cs y h;obtain⟨pv,e0,b,off,U,Y,Z,h4⟩:=I
    refine⟨pv,e0,b,off,U,Y,Z,λj z C=>?_⟩
    have hj:j<cs.length:=by rw[D.1];exact(dW.1 C).1
    have E:=bL hj;obtain⟨g1,v,g2,g3⟩:=h4 j _ E;exact⟨sX t 0 y (by omega) j z C,v,g2,g3.wk (D.2 j _ z E C)⟩
  |_=>cases h
 | ag t=>
  cases x with
  | agg cs=>
   have h:(match wR cs with|some O=>dec t 0 O|none=>none)=some y:=h;cases lS:wR cs with
   |none=>simp_all
   | some O=>
    rw[lS]at h;have h:dec t 0 O=some y:=h;have jn:=Ja _ _ lS;have D:=nY t 0 O y h;obtain⟨us,U,Y,Z⟩:=I
    refine⟨us,U,?_,λj x hx=>?_⟩
    ·rw[Y,jn,fN,fN,D.1]
    ·rw[fz]at hx;cases C:(enc t 0 y)[j]? with
     |none=>simp_all
     | some z=>
      rw[C]at hx;injection hx with hx;subst hx;have hj:j<O.length:=by rw[D.1];exact(dW.1 C).1
      have E:=bL hj;obtain⟨v,g1,g2⟩:=Z j (.v O[j]) (by rw[jn,fz,E];rfl);exact⟨v,g1,sX t 0 y (by omega) j z C,g2.2.wk (D.2 j _ z E C)⟩
  |_=>cases h
 | pk r n=>
  cases x with
  | pk r' n'=>
   have h:(bif Nat.beq r' r&&Nat.beq n' n then some ()else none)=some y:=h;cases hb:(Nat.beq r' r&&Nat.beq n' n)with
   |false=>simp_all
   | true=>
    rw[aH]at hb;obtain rfl:=c8 hb.1;obtain rfl:=c8 hb.2;exact I
  |_=>cases h
def acH:∀ (C:aa Lm) (cs:aa Lf) (y:Kb C),Ot C cs=some y -> (AF C y).length=cs.length /\ ∀ (j:Nat) x,(AF C y)[j]?=some x -> ∃ z,cs[j]?=some z/\(∀ (w:World) (B:Nat) (af:bB) (ρ:Nat -> Loc) (u:Value),eE w B af ρ z u -> eE w B af ρ x u)
 |[],[],y,h=>⟨rfl,λj x D=>by simp[AF]at D⟩
 | m :: C,c :: cs,y,h=>by
  unfold Ot at h;split at h
  ·rename_i Y ys E I;injection h with h;subst h;obtain⟨O,T⟩:=acH C cs ys I
   refine⟨by simp[AF,O],λj x D=>?_⟩
   cases j with
   |zero=>simp[AF]at D;subst D;exact⟨c,rfl,λw B af ρ u U=>Lm.tw E U⟩
   |succ j=>exact T j x (by simpa [AF]using D)
  ·cases h
def Rm.tw{m:Rm}{x:aU}{y:m.T}(h:m.rd x=some y){n:Nat}(C:eV w B af ρ n x):eV w B af ρ n (m.mk y):=by
 cases m with
 | sl t o=>
  cases C with
  |sl v y' D hr=>exact .sl v _ D (hr.wk (V.IE h))
  |aD=>cases h
  |mp=>cases h
  |gh=>cases h
 | mp=>
  cases C with
  |gh=>cases h
  |sl=>cases h
  |aD=>cases h
  |mp b c es l D hl I he=>injection h with h;subst h;exact .mp b c es _ D hl I he
 | st t=>
  cases C with
  |sl=>cases h
  |mp=>cases h
  |gh=>cases h
  | aD b off cells e cs us D hl I O Z=>
   have h:(match wR cs with|some E=>dec t 0 E|none=>none)=some y:=h;cases lS:wR cs with
   |none=>simp_all
   | some E=>
    rw[lS]at h;have h:dec t 0 E=some y:=h;have jn:=Ja _ _ lS;have Y:=nY t 0 E y h
    refine .aD b off cells e _ us D hl I (by rw[fN,<- Y.1];rw[jn,fN]at O;exact O) λj x C=>?_
    rw[fz]at C;cases U:(enc t 0 y)[j]? with
    |none=>simp_all
    | some z=>
     rw[U]at C;injection C with C;subst C;have hj:j<E.length:=by rw[Y.1];exact(dW.1 U).1
     have hv:=bL hj;obtain⟨h1,h2⟩:=Z j (.v E[j]) (by rw[jn,fz,hv];rfl);exact⟨h1,sX t 0 y (by omega) j z U,h2.2.wk (Y.2 j _ z hv U)⟩
 | aD ms=>
  cases C with
  |sl=>cases h
  |mp=>cases h
  |gh=>cases h
  | aD b off cells e cs us D hl I O Z=>
   obtain⟨k1,k2⟩:=acH ms cs y h
   refine .aD b off cells e _ us D hl I (by show off+(AF ms y).length <= _;rw[k1];exact O) λj x C=>?_
   grind
def VQ:∀ (C:aa (Nat×Tm)) (t:Nat -> A) (y:Gl C),Kc C t=some y -> ∀ k,AG C y k = .undef \/ ∃ m z,(Tm.rd m (t k)=some z/\AG C y k=m.mk z)
 |[],t,y,h,k=>.inl rfl
 | (n,m) :: C,t,y,h,k=>by
  unfold Kc at h;split at h
  ·rename_i x xs D E;injection h with h;subst h;by_cases I:k=n
   ·subst I;exact .inr ⟨m,x,D,by simp[AG]⟩
   ·have hb:Nat.beq k n=false:=by
     cases hb:Nat.beq k n with
     |false=>rfl
     |true=>simp_all
    simp only[AG,hb,ax];exact VQ C t xs E k
  ·cases h
def VR:∀ (C:aa (Nat×Rm)) (t:Nat -> ah aU) (y:AH C),Gm C t=some y -> ∀ k,AI C y k=none \/ ∃ m x z,t k=some x/\Rm.rd m x=some z/\AI C y k=some (m.mk z)
 |[],t,y,h,k=>.inl rfl
 | (n,m) :: C,t,y,h,k=>by
  unfold Gm at h;split at h
  ·rename_i x xs D E;injection h with h;subst h;by_cases I:k=n
   ·subst I;cases O:t k with
    |none=>simp_all
    |some z=>rw[O]at D;exact .inr ⟨m,z,x,rfl,D,by simp[AI]⟩
   ·have hb:Nat.beq k n=false:=by
     cases hb:Nat.beq k n with
     |false=>rfl
     |true=>simp_all
    simp only[AI,hb,ax];exact VR C t xs E k
  ·cases h
def kV.acI{C:kV}{x:C.St}(h:C.Ou σ=some x)(hR:R w0 N σ a w):R w0 N (C.mk' x) a w:=by
 unfold kV.Ou at h;split at h
 ·rename_i u v O T;injection h with h;subst h;obtain⟨af,ρ,hR⟩:=hR
  refine⟨af,ρ,hR.below,hR.dj,λn y D=>?_,λk=>?_,hR.size,hR.defers,hR.fix,hR.cT⟩
  ·have D:AI C.rs v n=some y:=D;rcases VR C.rs σ.m v T n with e | ⟨m,x,z,E,I,U⟩
   ·simp_all
   ·rw[U]at D;injection D with D;subst D;exact Rm.tw I (hR.root n x E)
  ·show RA _ _ _ _ (AG C.ts u k) _;rcases VQ C.ts σ.t u O k with e | ⟨m,z,E,I⟩
   ·rw[e];trivial
   ·rw[I];exact Tm.tw E (hR.tmp k)
 ·cases h
def acJ{n:Nat}{o:ah Nat}(h:VL n o=true):o=some n:=by
 cases o with
 |none=>cases h
 |some m=>rw[c8 h]
def acK{rs:Rn}{r n:Nat}(h:rs.lookup r=some n):(r,n)∈rs:=by
 induction rs with
 |nil=>cases h
 |cons p rs C =>grind
def acL{rs:Rn}{r n:Nat}(h:rs.inv n=some r):(r,n)∈rs:=by
 unfold Rn.inv at h;cases C:rs.find? _ with
 |none=>rw[C]at h;cases h
 | some p=>
  rw[C]at h;injection h with h;subst h;have D:=List.find?_some C;have E:=sR C;rw[<- c8 D];exact E
def Rn.fY(rs:Rn)(ρ:Nat->Loc):Nat->Loc:=λn=>match rs.inv n with
 |some r=>ρ r
 |none=>ρ n
def Rn.Ox{rs:Rn}(h:rs.ok=true){r n:Nat}(C:(r,n)∈rs):(r=n \/ 60000 <= n)/\rs.lookup r=some n/\rs.inv n=some r:=by
 have:=cm.1 h _ C;rw[aH,aH,eZ]at this;refine⟨?_,acJ this.1.2,acJ this.2⟩;simp_all
def eE.fm{rs:Rn}(C:rs.ok=true){x:Lf}{u:Value}(h:eE w B af ρ x u):eE w B (fD af rs id) (rs.fY ρ) (x.fm rs) u:=by
 unfold Lf.fm;split
 ·exact⟨h.1,h.2.MX h.1 λb=>BO⟩
 ·rename_i r;split
  next n D=>have hi:=(Rn.Ox C (acK D)).2.2;refine⟨h.1,?_⟩;have E:=h.2;simp[de]at E ⊢;unfold Rn.fY;simp_all
  ·trivial
 ·trivial
def Rl.fm{rs:Rn}(O:rs.ok=true)(h:Rl w0 N af ρ σ a w):Rl w0 N (fD af rs id) (rs.fY ρ) (σ.fm rs) a w:=by
 have hl:∀ b r n,af b=some [r] -> rs.lookup r=some n -> fD af rs id b=some [n]:=by
  intro b r n E I;simp[fD,E,I]
 refine⟨h.below,λb k D=>?_,λn x C=>?_,λk=>?_,h.size,h.defers,λr l U=>?_,h.cT⟩
 ·unfold fD at D;split at D
  ·cases D
  ·rename_i k0 F2;split at D
   ·cases D
   ·rename_i r U;cases hn:rs.lookup r with
    |none=>grind
    | some n=>
     rw[hn]at D;injection D with D;subst D;obtain⟨E,I,_⟩:=h.dj b k0 F2;simp_all
 ·have C:(match rs.inv n with | some r=>(σ.m r).map (aU.fm rs) | none=>none)=some x:=C;cases hi:rs.inv n with
  |none=>grind
  | some r=>
   rw[hi]at C;have C:(σ.m r).map (aU.fm rs)=some x:=C;have wY:=(Rn.Ox O (acL hi)).2.1;have cv:rs.fY ρ n=ρ r:=by unfold Rn.fY;rw[hi]
   cases hm:σ.m r with
   |none=>grind
   | some y=>
    rw[hm]at C;injection C with C;subst C;cases h.root r y hm with
    | aD b off cells e cs us E I hh hs hc=>
     refine .aD b off cells e _ us (cv.trans E) (hl b r n I wY) hh (by rw[fN];exact hs) λj x C=>?_
     rw[fz]at C;cases T:cs[j]? with
     |none=>grind
     | some z=>
      rw[T]at C;injection C with C;subst C;exact⟨(hc j z T).1,(hc j z T).2.fm O⟩
    | sl v y E I=>
     exact .sl v y (cv.trans E) (RV.fD (p:=[]) (nm:=id) I wY)
    |mp b c es l E I hh he=>exact .mp b c es l (cv.trans E) (hl b r n I wY) hh he
    |gh us xs E C=>exact .gh us _ (cv.trans E) λj x hj=>by simp at hj
 ·show RA _ _ _ _ ((σ.t k).fm rs) _;have D:=h.tmp k;generalize σ.t k=x at D;unfold A.fm;split
  ·exact D.fm O
  ·rename_i r j;split
   next n hn=>have hi:=(Rn.Ox O (acK hn)).2.2;obtain⟨b,off,E,I⟩:=D;exact⟨b,off,by unfold Rn.fY;rw[hi];exact E,I⟩
   ·trivial
  ·obtain⟨b,off,Y,Z,g3,g4⟩:=D
   refine⟨b,off,Y,Z,BO g3,λj x C=>?_⟩
   obtain⟨f1,v,f2,f3⟩:=g4 j x C;exact⟨f1,v,f2,f3.MX f1 λb=>BO⟩
  ·obtain⟨pv,e0,b,off,Y,Z,g3,g4⟩:=D
   refine⟨pv,e0,b,off,Y,Z,BO g3,λj x C=>?_⟩
   obtain⟨f1,v,f2,f3⟩:=g4 j x C;exact⟨f1,v,f2,f3.MX f1 λb=>BO⟩
  ·obtain⟨us,Y,Z,g3⟩:=D
   refine⟨us,Y,by rw[fN];exact Z,λj x C=>?_⟩
   rw[fz]at C;rename_i cs;cases T:cs[j]? with
   |none=>grind
   | some z=>
    rw[T]at C;injection C with C;subst C;obtain⟨v,f1,f2⟩:=g3 j z T;exact⟨v,f1,f2.fm O⟩
  ·trivial
 ·show rs.fY ρ r=l;unfold Rn.fY;split
  ·rename_i r0 hi;rcases(Rn.Ox O (acL hi)).1 with e | e
   ·rw[e];exact h.fix r l U
   ·rw[h.cT r (.inr e)]at U;cases U
  ·exact h.fix r l U
def anG{rs:aa (Nat×Rm)}{p:Nat×Tm}(hR:R w0 N σ a w):R w0 N (VN rs p σ) a w:=by
 unfold VN;split
 ·rename_i n Y O;split
  ·rename_i t o hl;cases hb:Nat.ble 60000 n with
   |false=>exact hR
   | true=>
    have T:=cH hb;obtain⟨af,ρ,hR⟩:=hR;have D:=hR.tmp p.1;rw[O]at D;have U:a.tmps.getD p.1 undef = .slice none 0 0:=by
     have E:=D.2;generalize a.tmps.getD p.1 undef=u at E;cases E;rfl
    have C:=hR.new (d:=n) (x:=.sl (.sl t o false [])) (.dP (.slice none 0 0)) (.sl _ _ (bT _ _ _) (.fC _ _ _)) (hR.cT n (.inr T))
    refine⟨af,_,C.below,C.dj,C.root,λk=>?_,C.size,C.defers,C.fix,C.cT⟩
    show RA _ _ _ _ (bK ((σ.drop n).root n (.sl (.sl t o false []))).t p.1 (.lf (.own [n])) k) _;by_cases I:k=p.1
    ·subst I;rw[bT,U];exact⟨rfl,by simp[de,bT]⟩
    ·rw[cz _ _ _ I];exact C.tmp k
  ·exact hR
 ·exact hR
def anH{n j r:Nat}{y:V}(hR:Rl w0 N af ρ σ a w)(T:ρ n = .dP (.slice none 0 0)):Rl w0 N af ρ (VO n j r σ) a w:=by
 unfold VO;split
 ·rename_i cs U;split
  ·rename_i I
   refine⟨hR.below,hR.dj,λr' x C=>?_,hR.tmp,hR.size,hR.defers,hR.fix,hR.cT⟩
   have C:bK σ.m r (some (.aD (cs.set j (.own [n])))) r'=some x:=C;by_cases O:r'=r
   ·subst O;rw[bT]at C;injection C with C;subst C;cases hR.root r' _ U with
    | aD b off cells e cs us Y E Z hs hc=>
     refine .aD b off cells e _ us Y E Z (by rw[jg];exact hs) λi z D=>?_
     rw[List.getElem?_set]at D;by_cases hi:j=i
     ·subst hi;have dA:j<cs.length:=(dW.1 I).1;rw[aV rfl,aV dA]at D;injection D with D;subst D;obtain⟨k1,k2⟩:=hc j _ I;refine⟨k1,?_⟩;have hu:us j = .slice none 0 0:=by
       have E:=k2.2;generalize us j=u at E;cases E;rfl
      rw[hu];exact⟨rfl,by simp only[de,T]⟩
     ·grind
   ·rw[cz _ _ _ O]at C;exact hR.root r' x C
  ·exact hR
 ·exact hR
def anI{rs:aa (Nat×Rm)}{n j r:Nat}(hR:R w0 N σ a w):R w0 N (VP rs n j r σ) a w:=by
 unfold VP;split
 ·rename_i t o hl;cases hb:Nat.ble 60000 n with
  |false=>exact hR
  | true=>
   have C:=cH hb;obtain⟨af,ρ,hR⟩:=hR;exact⟨af,_,anH (y:=.nil) (hR.new _ (.sl _ _ (bT _ _ _) (.fC _ _ _)) (hR.cT n (.inr C))) (bT _ _ _)⟩
 ·exact hR
def VS{rs:aa (Nat×Rm)}{r:Nat}:∀ (C:aa Lm) (cs:aa Lf) (j:Nat) (σ:S),R w0 N σ a w -> R w0 N (D0 rs r j C cs σ) a w
 |[],cs,j,σ,h=>by unfold D0;exact h
 | m :: C,[],j,σ,h=>by
  unfold D0;simp_all
 | m :: C,c :: cs,j,σ,h=>by
  unfold D0;split
  next D E=>cases D;cases E;exact VS C cs _ _ (anI h)
  next D E=>cases D;cases E;exact VS C cs _ _ h
  ·exact h
def Kd{rs:aa (Nat×Rm)}:∀ (ps:aa (Nat×Rm)) (σ:S),R w0 N σ a w -> R w0 N (Ow rs ps σ) a w
 |[],σ,h=>h
 |(r,.sl t o)::ps,σ,h=>Kd ps σ h
 |(r,.st t)::ps,σ,h=>Kd ps σ h
 |(r,.mp)::ps,σ,h=>Kd ps σ h
 | (r,.aD C) :: ps,σ,h=>by
  refine Kd ps _ ?_;split
  ·exact VS C _ 0 σ h
  ·exact h
def acM{rs:aa (Nat×Rm)}:∀ (ps:aa (Nat×Tm)) (σ:S),R w0 N σ a w->R w0 N (Ov rs ps σ) a w
 |[],σ,h=>h
 |p::ps,σ,h=>acM ps _ (anG h)
def kV.tw{C:kV}{x:C.St}(h:C.rd σ=some x)(hR:R w0 N σ a w):R w0 N (C.mk' x) a w:=by
 unfold kV.rd at h;split at h
 next y D=>injection h with h;subst h;exact kV.acI D hR
 ·have hR:=acM (rs:=C.rs) C.ts σ hR;revert h hR;generalize Ov C.rs C.ts σ=E;intro h hR;unfold kV.rd1 at h;cases hb:(C.rn E).ok with
  |false=>simp_all
  | true=>
   rw[hb,av]at h;obtain⟨af,ρ,hR⟩:=hR;exact kV.acI h (Kd C.rs _ ⟨_,_,hR.fm hb⟩)
end
def AJ:aa V->aa Nat->aa Lf
 |[],_=>[]
 | x :: xs,ns=>bif x.plain then .v x :: AJ xs ns else (match ns with
  |n::ns=>.own [n]::AJ xs ns
  |[]=>.dead::AJ xs [])
def D1:aa V->aa Nat->(Nat->ah aU)->Nat->ah aU
 |[],_,m,k=>m k
 | x :: xs,ns,m,k=>bif x.plain then D1 xs ns m k else (match ns with
  |n::ns=>bif Nat.beq k n then some (.sl x)else D1 xs ns m k
  |[]=>D1 xs [] m k)
def mG(m:Nat->ah aU):aa Lf->aa Nat->ah (aa V)
 |[],[]=>some []
 | .v x :: cs,ns=>bif x.plain then (match mG m cs ns with
  |some C=>some (x::C)
  |none=>none)else none
 | .own [r] :: cs,n :: ns=>bif Nat.beq r n then (match m n with
  | some (.sl y)=>bif y.plain then none else (match mG m cs ns with
   |some C=>some (y::C)
   |none=>none)
  |_=>none)else none
 |_,_=>none
abbrev Gp:=Nat×TC×Nat×aa Nat
def Kg:aa Gp->Type->Type
 |[],X=>X
 |g::gs,X=>T g.2.1×Kg gs X
def Oy:(gs:aa Gp)->(rs:aa (Nat×Rm))->Kg gs (AH rs)->Nat->ah aU
 |[],rs,x,k=>AI rs x k
 |(n,t,o,ns)::gs,rs,x,k=>bif Nat.beq k n then some (.aD (AJ (enc t o x.1) ns))else D1 (enc t o x.1) ns (Oy gs rs x.2) k
def Oz:(gs:aa Gp)->(rs:aa (Nat×Rm))->(Nat->ah aU)->ah (Kg gs (AH rs))
 |[],rs,m=>Gm rs m
 | (n,t,o,ns) :: gs,rs,m=>match m n with
  | some (.aD cs)=>(match mG m cs ns with
   | some C=>(match dec t o C,Oz gs rs m with
    |some x,some y=>some (x,y)
    |_,_=>none)
   |none=>none)
  |_=>none
def Gn:aa V->aa Nat->aa Lm
 |[],_=>[]
 |.int k _::xs,ns=>.int k::Gn xs ns
 |.bool _::xs,ns=>.bool::Gn xs ns
 |.str _::xs,ns=>.str::Gn xs ns
 |_::xs,n::ns=>.own n::Gn xs ns
 |_::xs,[]=>.bool::Gn xs []
def VT:aa V->aa Nat->aa (Nat×Rm)
 |.sl t o _ _::xs,n::ns=>(n,.sl t o)::VT xs ns
 |_::xs,ns=>VT xs ns
 |[],_=>[]
def VU:aa Gp->aa (Nat×Rm)->aa (Nat×Rm)
 |[],rs=>rs
 |(n,t,o,ns)::gs,rs=>(n,.aD (Gn (Z7 t o) ns))::(VT (Z7 t o) ns++VU gs rs)
structure bN where
 ts:List (Nat×Tm)
 rs:List (Nat×Rm)
 gs:List Gp
def bN.St(C:bN):Type:=Gl C.ts×Kg C.gs (AH C.rs)
def bN.mk'(C:bN)(x:C.St):S:=⟨AG C.ts x.1,Oy C.gs C.rs x.2⟩
def bN.OA(C:bN)(σ:S):ah C.St:=match Kc C.ts σ.t,Oz C.gs C.rs σ.m with
 |some x,some y=>some (x,y)
 |_,_=>none
def bN.rd(C:bN)(σ:S):ah C.St:=match C.OA σ with
 |some x=>some x
 | none=>match kV.rd ⟨C.ts,VU C.gs C.rs⟩ σ with
  |some z=>C.OA (kV.mk' ⟨C.ts,VU C.gs C.rs⟩ z)
  |none=>none
section
variable {P:Program} {w w':World} {w0:Wd} {B N:Nat} {af aC:bB} {ρ ρ':Nat->Loc} {σ:S} {a:Act} {m:Nat->ah aU}
def m9.inv{x:V}{xs ys:aa V}(k:m9 (x :: xs) ys):∃ y C,ys=y :: C/\Wk x y/\m9 xs C:=by
 obtain⟨D,E⟩:=k;cases ys with
 |nil=>simp at D
 |cons y C=>exact⟨y,C,rfl,E 0 x y rfl rfl,by simpa using D,λj a b I hb=>E (j+1) a b (by simpa using I) (by simpa using hb)⟩
def Wk.acN{x y:V}(h:Wk x y)(C:x.plain=true):y=x:=by
 cases h<;>first|rfl|cases C
def Wk.acO{x y:V}(h:Wk x y)(C:x.plain=false):y.plain=false:=by
 cases h<;>first|exact C|rfl
def VV:∀ (cs:aa Lf) (ns:aa Nat) (C ys:aa V),mG m cs ns=some C -> m9 C ys -> (AJ ys ns).length=cs.length /\ ∀ (j:Nat) z,(AJ ys ns)[j]?=some z -> cs[j]?=some z
 | [],[],C,ys,h,E=>by
  simp only[mG,jJ]at h;subst h;have:ys=[]:=uS E.1.symm;subst this;exact⟨rfl,λj z I=>by simp[AJ]at I⟩
 | .v x :: cs,ns,C,ys,h,E=>by
  unfold mG at h;cases D:x.plain with
  |false=>simp_all
  | true=>
   rw[D,av]at h;split at h
   ·rename_i us O;injection h with h;subst h;obtain⟨y,T,rfl,U,Y⟩:=E.inv;obtain rfl:=U.acN D;obtain⟨Z,e2⟩:=VV cs ns us T O Y;simp only[AJ,D,av]
    refine⟨by simp[Z],λj z I=>?_⟩
    cases j with
    |zero=>simp_all
    |succ j=>simp_all
   ·cases h
 | .own [r] :: cs,n :: ns,C,ys,h,E=>by
  unfold mG at h;cases hb:Nat.beq r n with
  |false=>simp_all
  | true=>
   rw[hb,av]at h;obtain rfl:=c8 hb;split at h
   ·rename_i y hy;cases D:y.plain with
    |true=>simp_all
    | false=>
     rw[D,ax]at h;split at h
     ·rename_i us O;injection h with h;subst h;obtain⟨y',T,rfl,U,Y⟩:=E.inv;have hq:=U.acO D;obtain⟨Z,e2⟩:=VV cs ns us T O Y;simp only[AJ,hq,ax]
      refine⟨by simp[Z],λj z I=>?_⟩
      cases j with
      |zero=>simp_all
      |succ j=>simp_all
     ·cases h
   ·cases h
 |[],_::_,C,ys,h,_=>by simp[mG]at h
 |.dead::_,_,C,ys,h,_=>by simp[mG]at h
 |.own []::_,_,C,ys,h,_=>by simp[mG]at h
 |.own (_::_::_)::_,_,C,ys,h,_=>by simp[mG]at h
 |.own [_]::_,[],C,ys,h,_=>by simp[mG]at h
def VW{f:Nat -> ah aU}{k:Nat}{x:aU}:∀ (cs:aa Lf) (ns:aa Nat) (D ys:aa V),mG m cs ns=some D -> m9 D ys -> D1 ys ns f k=some x -> f k=some x \/ ∃ v y,m k=some (.sl v)/\x = .sl y/\Wk v y
 | [],[],D,ys,h,I,C=>by
  simp only[mG,jJ]at h;subst h;have:ys=[]:=uS I.1.symm;subst this;exact .inl C
 | .v x' :: cs,ns,D,ys,h,I,C=>by
  unfold mG at h;cases E:x'.plain with
  |false=>simp_all
  | true=>
   rw[E,av]at h;split at h
   next us O=>injection h with h;subst h;obtain⟨y,T,rfl,U,Y⟩:=I.inv;obtain rfl:=U.acN E;simp[D1,E]at C;exact VW cs ns us T O Y C
   ·cases h
 | .own [r] :: cs,n :: ns,D,ys,h,I,C=>by
  unfold mG at h;cases hb:Nat.beq r n with
  |false=>simp_all
  | true=>
   rw[hb,av]at h;obtain rfl:=c8 hb;split at h
   ·rename_i y hy;cases E:y.plain with
    |true=>simp_all
    | false=>
     rw[E,ax]at h;split at h
     ·rename_i us O;injection h with h;subst h;obtain⟨y',T,rfl,U,Y⟩:=I.inv;have hq:=U.acO E;simp only[D1,hq,ax]at C;cases Z:Nat.beq k r with
      | true=>
       rw[Z]at C;injection C with C;obtain rfl:=c8 Z
       grind
      | false=>
       rw[Z]at C;exact VW cs ns us T O Y C
     ·cases h
   ·cases h
 |[],_::_,D,ys,h,_,_=>by simp[mG]at h
 |.dead::_,_,D,ys,h,_,_=>by simp[mG]at h
 |.own []::_,_,D,ys,h,_,_=>by simp[mG]at h
 |.own (_::_::_)::_,_,D,ys,h,_,_=>by simp[mG]at h
 |.own [_]::_,[],D,ys,h,_,_=>by simp[mG]at h
def acP:∀ (gs:aa Gp) (rs:aa (Nat×Rm)) (y:Kg gs (AH rs)),Oz gs rs m=some y -> ∀ k x,Oy gs rs y k=some x -> ∃ O,m k=some O /\ ∀ (w:World) (B:Nat) (af:bB) (ρ:Nat -> Loc),eV w B af ρ k O -> eV w B af ρ k x
 | [],rs,y,h,k,x,C=>by
  have h:Gm rs m=some y:=h;have C:AI rs y k=some x:=C;rcases VR rs m y h k with e|⟨m',O,z,E,I,e3⟩
  ·simp_all
  ·rw[e3]at C;injection C with C;subst C;exact⟨O,E,λw B af ρ D=>Rm.tw I D⟩
 | (n,t,o,ns) :: gs,rs,y,h,k,x,C=>by
  unfold Oz at h;split at h
  ·rename_i cs hm;split at h
   ·rename_i T Z;split at h
    ·rename_i x1 y1 h1 h2;injection h with h;subst h;have hw:=nY t o T x1 h1;simp only[Oy]at C;cases U:Nat.beq k n with
     | true=>
      rw[U,av]at C;injection C with C;subst C;obtain rfl:=c8 U;obtain⟨E,I⟩:=VV cs ns T _ Z hw
      refine⟨_,hm,λw B af ρ D=>?_⟩
      cases D with
      |aD b off cells e _ us Y hl hh hs hc=>exact .aD b off cells e _ us Y hl hh (by rw[E];exact hs) λj z hz=>hc j z (I j z hz)
     | false=>
      rw[U,ax]at C;rcases VW cs ns T _ Z hw C with e|⟨v,y',E,rfl,I⟩
      ·exact acP gs rs y1 h2 k x e
      ·refine⟨_,E,λw B af ρ D=>?_⟩
       cases D with
       |sl u _ Y D=>exact .sl u _ Y (D.wk I)
    ·cases h
   ·cases h
  ·cases h
def bN.acQ{C:bN}{x:C.St}(h:C.OA σ=some x)(hR:R w0 N σ a w):R w0 N (C.mk' x) a w:=by
 unfold bN.OA at h;split at h
 ·rename_i u v I O;injection h with h;subst h;obtain⟨af,ρ,hR⟩:=hR
  refine⟨af,ρ,hR.below,hR.dj,λn y T=>?_,λk=>?_,hR.size,hR.defers,hR.fix,hR.cT⟩
  ·obtain⟨U,D,E⟩:=acP C.gs C.rs v O n y T;exact E _ _ _ _ (hR.root n U D)
  ·show RA _ _ _ _ (AG C.ts u k) _;rcases VQ C.ts σ.t u I k with e | ⟨m,z,D,E⟩
   ·rw[e];trivial
   ·rw[E];exact Tm.tw D (hR.tmp k)
 ·cases h
def bN.tw{C:bN}{x:C.St}(h:C.rd σ=some x)(hR:R w0 N σ a w):R w0 N (C.mk' x) a w:=by
 unfold bN.rd at h;split at h
 next y D=>injection h with h;subst h;exact bN.acQ D hR
 ·split at h
  next z E=>exact bN.acQ h (kV.tw E hR)
  ·cases h
end
def Cb:Exit->ah Nat
 |.normal=>some 0
 |.ret=>some 1
 |.exit n=>some (n+2)
 |_=>none
def VX:Nat->Exit
 |0=>.normal
 |1=>.ret
 |n+2=>.exit n
def vD{e:Exit}{n:Nat}(h:Cb e=some n):e=VX n:=by
 cases e<;>simp[Cb]at h<;>subst h<;>rfl
def xx:aa (Nat×bN)->Type
 |[]=>Empty
 |(_,C)::r=>C.St⊕xx r
def OB:(l:aa (Nat×bN))->Nat->S->ah (xx l)
 |[],_,_=>none
 | (n,C) :: r,e,σ=>bif Nat.beq n e then (match C.rd σ with
  |some x=>some (.inl x)
  |none=>none)else (match OB r e σ with
  |some x=>some (.inr x)
  |none=>none)
def VY{X:Type}:(l:aa (Nat×bN))->xx l->(Exit->S->ah X)->ah X
 |[],z,_=>nomatch z
 | (n,C) :: r,z,k=>match z with
  |.inl x=>k (VX n) (C.mk' x)
  |.inr z=>VY r z k
def iter{α β:Type}(step:α->ah (α⊕β)):Nat->α->ah β
 |0,_=>none
 | n+1,x=>match step x with
  |some (.inl y)=>iter step n y
  |some (.inr z)=>some z
  |none=>none
def Gr(P:Program)(N:Nat)(Φ:fo)(Λ:oW)(body:Code)(C:bN)(D:aa (Nat×bN))(x:C.St):ah (C.St⊕xx D):=
 ny P N Φ Λ body (C.mk' x) λe σ=>match Cb e with
  | some 0=>(match C.rd σ with
   |some x=>some (.inl x)
   |none=>none)
  | some n=>(match OB D n σ with
   |some x=>some (.inr x)
   |none=>none)
  |none=>none
def VZ{X:Type}(id:Nat)(k:Exit->S->ah X)(e:Exit)(σ:S):ah X:=
 match e with
 |.exit C=>if C=id then k .normal σ else k (.exit C) σ
 |e=>k e σ
def OC(id:Nat)(C:bN)(D:aa (Nat×bN))(F:C.St->ah (C.St⊕xx D))(fuel:C.St->Nat):vA:=
 ⟨λX σ k=>match C.rd σ with
  | some x=>(match iter F (fuel x) x with
   |some z=>VY D z (VZ id k)
   |none=>none)
  |none=>none⟩
def mH:aa (Bool×TC)->Type
 |[]=>aj
 |(_,t)::r=>T t×mH r
def iy:(l:aa (Bool×TC))->mH l->aa Pt
 |[],_=>[]
 |(b,t)::r,x=>(b,enc t 0 x.1)::iy r x.2
def AK:(l:aa (Bool×TC))->aa Pt->ah (mH l)
 |[],[]=>some ()
 | (b,t) :: r,(b',C) :: ps=>bif b==b' then (match dec t 0 C,AK r ps with
  |some x,some xs=>some (x,xs)
  |_,_=>none)else none
 |_,_=>none
def jB(ai:aa (Bool×TC))(ro:aa (Bool×TC×Nat))(F:mH ai->ah (jN ro)):kP:=
 ⟨λX args k=>match AK ai args with
  | some x=>(match F x with
   |some y=>k (fQ ro y)
   |none=>none)
  |none=>none⟩
def V0:Pt->A
 |(false,[x])=>.lf (.v x)
 |(true,xs)=>.agg (xs.map .v)
 |(false,.bool true::c::cs)=>.kG (c::cs)
 |(false,.bool false::.int .i64 (.ofNat g)::c::cs)=>.qf g (c::cs)
 |_=>.undef
def acR(args:aa Pt):S:=⟨λk=>match args[k]? with
 |some p=>V0 p
 |none=>.undef,λ_=>none⟩
def tA{X:Type}(P:Program)(N:Nat)(Φ:fo)(Λ:oW)(code:Code)(C:Array ResultVar)(args:aa Pt)(k:gU->ah X):ah X:=
 ny P N Φ Λ code (acR args) λe σ=>match Cb e with
  |some 0=>Jk P σ C k
  |some 1=>Jk P σ C k
  |_=>none
section
variable {P:Program} {w w':World} {w0:Wd} {B N:Nat} {af aC:bB} {ρ ρ':Nat->Loc} {σ:S} {a:Act} {X:Type} {d:Nat} {r:X} {o:Oper} {Φ:fo} {Λ:oW}
def acS:∀ (l:aa (Nat×bN)) (e:Nat) (z:xx l),OB l e σ=some z->∀ (X:Type) (k:Exit->S->ah X),∃ D,VY l z k=k (VX e) D/\∀ a w,R w0 N σ a w->R w0 N D a w
 |[],e,z,h=>by cases h
 | (n,E) :: l,e,z,h=>by
  intro X k;unfold OB at h;cases hb:Nat.beq n e with
  | true=>
   obtain rfl:=c8 hb;rw[hb,av]at h;split at h
   next x C=>injection h with h;subst h;exact⟨E.mk' x,rfl,λa w hR=>bN.tw C hR⟩
   ·cases h
  | false=>
   rw[hb,ax]at h;split at h
   next x C=>injection h with h;subst h;exact acS l e x C X k
   ·cases h
def anJ{id:Nat}{body:Code}{E:bN}{U:aa (Nat×bN)}{F:E.St -> ah (E.St⊕xx U)}{fuel:E.St -> Nat}(eF:gL P Φ)(xy:sn P N Λ (occs body))(hF:∀ x,Gr P N Φ Λ body E U x=F x):DW P N (.block id (.loop body)) (OC id E U F fuel):=by
 intro X σ k r w0 h a w hR;simp only[OC]at h;split at h
 ·rename_i x I;split at h
  ·rename_i z hz;refine wp_block ?_;have key:∀ (n:Nat) (x:E.St),iter F n x=some z -> ∀ (a:Act) (w:World),R w0 N (E.mk' x) a w -> ∀ (b:Frame) (O:aa Item) (cs:aa Frame),
     ∃e T w',Exit.inBlock id (λe T w'=>∃di,k e di=some r/\R w0 N di T w') e T w'/\Arrives P (lone (b.at a (.code body::.inLoop body::O)) cs w) b O cs e T w':=by
    intro n
    induction n with
    |zero=>intro x I;simp[iter]at I
    | succ n ih=>
     intro x I a w hR b O cs;simp only[iter]at I;have iK:∃ y,Gr P N Φ Λ body E U x=some y/\(match y with | .inl y=>iter F n y=some z | .inr z'=>z'=z):=by
      rw[hF];split at I
      ·grind
      ·grind
      ·cases I
     obtain⟨y,hy,Y⟩:=iK;unfold Gr at hy;have hwp:=Gk (w0:=w0) eF body _ _ hy xy a w hR;obtain⟨e,a1,w1,⟨tq,D,vu⟩,Z⟩:=hwp b (.inLoop body::O) cs;split at D
     ·rename_i C;have C:=vD C;subst C;split at D
      next x1 Ue=>injection D with D;subst D;obtain⟨e2,a2,w2,wQ,anK⟩:=ih x1 Y a1 w1 (bN.tw Ue vu) b O cs;exact⟨e2,a2,w2,wQ,.of_steps (Steps.trans Z (.one step_inLoop)) anK⟩
      ·cases D
     ·rename_i n' bQ C;have C:=vD C;split at D
      ·rename_i z1 V1;injection D with D;subst D;have Y:z1=z:=Y;subst Y;obtain⟨σ2,qQ,mB⟩:=acS (w0:=w0) (N:=N) U n' z1 V1 X (VZ id k);rw[qQ]at h;rw[<- C]at h;refine⟨e,a1,w1,?_,?_⟩
       ·cases e with
        | exit id'=>
         simp only[VZ]at h;simp only[Exit.inBlock];split at h
         ·grind
         ·grind
        |_=>exact⟨σ2,h,mB a1 w1 vu⟩
       ·refine .pass (x:=.inLoop body) rfl (λ_ _=>.inl ?_) Z
        intro e';rw[e']at C
        match n',bQ,C with
        |0,bQ,_=>exact bQ rfl
        |1,_,C=>cases C
        |n+2,_,C=>cases C
      ·cases D
     ·cases D
   intro b O cs;obtain⟨e,T,w',hq,Z⟩:=key (fuel x) x hz a w (bN.tw I hR) b O cs;exact⟨e,T,w',hq,.of_steps (.one step_loop) Z⟩
  ·cases h
 ·cases h
def PV.xe{key:Nat->aa Nat}{b:Bool}{xs ys:aa V}{u:Value}(h:PV w B af key (b,xs) u)(k:m9 xs ys):PV w B af key (b,ys) u:=by
 obtain⟨us,E,I,O⟩:=h
 refine⟨us,E,I.trans k.1,λj y C=>?_⟩
 have D:j<xs.length:=by rw[k.1];exact(dW.1 C).1
 obtain⟨v,T,U⟩:=O j _ (bL D);exact⟨v,T,U.wk (k.2 j _ y (bL D) C)⟩
def BJ.xe{cs C:aa V}{u:Value}(h:BJ w cs u)(k:m9 cs C):BJ w C u:=by
 obtain⟨b,off,I,hb,O⟩:=h
 refine⟨b,off,I,hb,λj y D=>?_⟩
 have E:j<cs.length:=by rw[k.1];exact(dW.1 D).1
 obtain⟨v,T,U⟩:=O j _ (bL E);exact⟨v,T,U.wk (k.2 j _ y (bL E) D)⟩
def PA.xe{b:Bool}{xs ys:aa V}{u:Value}(h:PA w (b,xs) u)(k:m9 xs ys):PA w (b,ys) u:=by
 cases h with
 |v _ _ h=>exact .v _ _ (h.xe k)
 | p c cs _ h=>
  obtain⟨y,E,rfl,C,D⟩:=k.inv;cases C;have h:=h.xe D;obtain⟨O,fW,rfl,_,_⟩:=D.inv;exact .p _ _ _ h
 | f g c cs u h=>
  obtain⟨y,E,rfl,C,D⟩:=k.inv;cases C;obtain⟨y,E,rfl,C,I⟩:=D.inv;cases C;have h:=h.xe I;obtain⟨O,fW,rfl,_,_⟩:=I.inv;exact .f _ _ _ _ h
def PA.ra{p:Pt}{u:Value}(h:PA w p u)(D:∀ y∈p.2,y.aI=true):RA w w.heap.size (λ_=>none) ρ (V0 p) u:=by
 have U:∀ {cs:aa V} {u:Value},BJ w cs u -> (∀ y∈cs,y.aI=true) -> RF w w.heap.size (λ_=>none) cs u:=by
  rintro cs u ⟨b,off,rfl,hb,E⟩ D
  refine⟨b,off,rfl,hb,rfl,λj x Y=>⟨D x (iR Y),E j x Y⟩⟩
 cases h with
 | v _ _ h=>
  obtain⟨us,Z,hs,E⟩:=h;obtain⟨b,xs⟩:=p;cases b with
  | true=>
   refine⟨us,Z,by rw[fN];exact hs,λi y C=>?_⟩
   rw[fz]at C;cases I:xs[i]? with
   |none=>simp_all
   | some z=>
    rw[I]at C;injection C with C;subst C;obtain⟨v,O,T⟩:=E i z I;exact⟨v,O,D z (iR I),T⟩
  | false=>
   subst Z;have h1:=hs.symm;obtain⟨x,rfl⟩:=List.length_eq_one_iff.1 h1;obtain⟨v,O,T⟩:=E 0 x rfl;have:u=v:=by simpa using O
   subst this;exact⟨D x (by simp),T⟩
 |p c cs _ h=>exact U h λy C=>D y (.tail _ C)
 |f g c cs u h=>exact⟨u,rfl,U h λy C=>D y (.tail _ (.tail _ C))⟩
def V2:∀ (l:aa (Bool×TC)) (ps:aa Pt) (x:mH l),AK l ps=some x -> (iy l x).length=ps.length /\ ∀ (i:Nat) p,(iy l x)[i]?=some p -> ∃ q,ps[i]?=some q/\q.1=p.1/\m9 q.2 p.2
 |[],[],x,h=>⟨rfl,λi p C=>by simp[iy]at C⟩
 | (b,t) :: r,(b',D) :: ps,x,h=>by
  unfold AK at h;cases hb:b==b' with
  |false=>simp_all
  | true=>
   rw[hb,av]at h;have hb:b=b':=by simpa using hb
   subst hb;split at h
   ·rename_i y ys E I;injection h with h;subst h;obtain⟨O,T⟩:=V2 r ps ys I
    refine⟨by simp[iy,O],λi p C=>?_⟩
    cases i with
    |zero=>simp[iy]at C;subst C;exact⟨(b,D),rfl,rfl,nY t 0 D y E⟩
    |succ i=>exact T i p (by simpa [iy]using C)
   ·cases h
 |[],_::_,x,h=>by simp[AK]at h
 |_::_,[],x,h=>by simp[AK]at h
def od(l:aa (Bool×TC×Nat)):Bool:=l.all λp=>Nat.ble (full p.2.1) p.2.2
def acT(t:TC)(g:Nat)(x:T t)(h:full t <= g):(enc t g x).all V.loc=true:=by
 rw[cm];intro y D;have E:=Bm t g x y D;have hl:=MW t g x y D;cases y with
 | sl I C q l=>
  have O:C=g:=by simpa [V.gr]using E
  subst O;have hl:=cH hl;show BM I C=true
  match C,h with
  |0,h=>omega
  |1,h=>omega
  | n+2,h=>
   simp only[BM,eZ];left;exact jI (by omega)
 |_=>rfl
def V3:∀ (l:aa (Bool×TC×Nat)) (ps:aa Pt) (x:jN l),od l=true -> ta l ps=some x -> (wZ l x).length=ps.length /\ ∀ (nm:Nat -> Nat) (off:Nat) (C:aa Value),lA w B af nm off ps C -> lA w B af nm off (wZ l x) C
 |[],[],x,_,h=>⟨rfl,λnm off C D=>D⟩
 | [(b,t,g)],[(b',C)],x,I,h=>by
  unfold ta at h;cases hb:b==b' with
  |false=>rw[hb]at h;cases h
  | true=>
   rw[hb]at h;have h:dec t g C=some x:=h;have hb:b=b':=by simpa using hb
   subst hb;have T:full t <= g:=by simpa [od]using I
   refine⟨rfl,λnm off us D=>?_⟩
   match us,D with
   |[u],⟨⟨_,E⟩,_⟩=>exact⟨⟨acT t g x T,E.xe (nY t g C x h)⟩,trivial⟩
 | (b,t,g) :: q :: r,(b',C) :: ps,x,I,h=>by
  unfold ta at h;cases hb:b==b' with
  |false=>grind
  | true=>
   rw[hb,av]at h;have hb:b=b':=by simpa using hb
   subst hb;have O:full t <= g/\od (q :: r)=true:=by
    simp only[od,List.all_cons,aH]at I ⊢;simp_all
   split at h
   ·rename_i y ys E U;injection h with h;subst h;obtain⟨Y,k2⟩:=V3 (q :: r) ps ys O.2 U
    refine⟨by simp[wZ,Y],λnm off us D=>?_⟩
    match us,D with
    | u :: us,⟨⟨_,Z⟩,yE⟩=>
     have hlen:=(nY t g C y E).1;refine⟨⟨acT t g y O.1,Z.xe (nY t g C y E)⟩,?_⟩;simp_all
   ·cases h
 |[],_::_,x,_,h=>by simp[ta]at h
 |[_],[],x,_,h=>by simp[ta]at h
 |[_],_::_::_,x,_,h=>by simp[ta]at h
 |_::_::_,[],x,_,h=>by simp[ta]at h
def acU{l:aa (Bool×TC×Nat)}{E:gU}{x:jN l}(O:od l=true)(h:n9 l E=some x){nm:Nat -> Nat}{v:Value}(D:s9 w B af nm E v):s9 w B af nm (fQ l x) v:=by
 cases E with
 | one p=>
  obtain⟨C,I⟩:=V3 (w:=w) (B:=B) (af:=af) l [p] x O h;have D:lA w B af nm 0 [p] [v]:=D;have:=I nm 0 [v] D;unfold fQ
  match hm:wZ l x,C,this with
  |[q],_,this=>exact this
  |[],C,_=>cases C
  |_::_::_,C,_=>simp at C
 | fX ps=>
  simp only[n9]at h;cases hb:Nat.beq ps.length 1 with
  |true=>simp_all
  | false=>
   rw[hb,ax]at h;obtain⟨C,I⟩:=V3 (w:=w) (B:=B) (af:=af) l ps x O h;obtain⟨T,e,D⟩:=D;have:=I nm 0 _ D;unfold fQ
   match hm:wZ l x,C,this with
   |[q],C,this=>simp_all
   |[],_,this=>exact⟨T,e,this⟩
   |_::_::_,_,this=>exact⟨T,e,this⟩
def acV:∀ (l:aa (Bool×TC)) (x:mH l),(iy l x).length=l.length
 |[],x=>rfl
 |(b,t)::l,x=>by simp[iy,acV l]
def acW:∀ (l:aa (Bool×TC)) (x:mH l) (j:Nat) (p:Pt),(iy l x)[j]?=some p->∀ y∈p.2,y.aI=true
 |[],x,j,p,C,_,_=>by simp[iy]at C
 | (b,t) :: l,x,0,p,C,y,D=>by
  simp[iy]at C;subst C;obtain⟨i,hi⟩:=List.mem_iff_getElem?.1 D;exact sX t 0 x.1 (by omega) i y hi
 |(b,t)::l,x,j+1,p,C,y,D=>acW l x.2 j p (by simpa [iy]using C) y D
def Kh{f:Nat}{fn:Func}{code:Code}{xz:aa Pt}{ro:aa (Bool×TC×Nat)}{y:jN ro}(hf:P.funcs[f]?=some fn)(hb:fn.body=some code)(hN:fn.ntmps=N)(T:xz.length <= N)(fk:od ro=true)
  (eF:gL P Φ) (xy:sn P N Λ (occs code)) (anL:∀(j:Nat) p,xz[j]?=some p -> ∀y∈p.2,y.aI=true) (I:tA P N Φ Λ code fn.results xz (n9 ro)=some y) (nm:Nat -> Nat) (w:World) (bJ:Array Value) (U:r8 w xz bJ) (Y:Hd w (λ_=>none)):
  Calls P f bJ w λe w'=>∃v aC,e = .returned v/\Below w.heap.size w w'/\(∀b k,aC b=some k -> w.heap.size <= b/\b<w'.heap.size/\k≠[])/\s9 w' w.heap.size aC nm (fQ ro y) v:=by
 have T:bJ.size <= N:=by rw[U.1];exact T
 refine calls_of_wp hf hb ?_;unfold tA at I;have hR:R (.of w Y) N (acR xz) { tmps:=bJ++Array.replicate (fn.ntmps-bJ.size) undef,defers:=[] } w:=by
  refine⟨λ_=>none,λ_=>.aD 0 0,.of (Below.refl w.heap.size w) (dg _),(λb k D=>by cases D),(λn y I=>by cases I),λj=>?_,by simp[hN];omega,rfl,(λr l h=>by cases h),(λ_ _=>rfl)⟩
  show RA w w.heap.size _ _ (match xz[j]? with|some p=>V0 p|none=>.undef) _;cases Z:xz[j]? with
  |none=>trivial
  | some p=>
   obtain⟨u,hu,vp⟩:=U.2 j p Z;have hj:=(jH.1 hu).1;have e:(bJ++Array.replicate (fn.ntmps-bJ.size) undef).getD j undef=u:=by rw[jt,Array.getElem?_append_left hj,hu];rfl
   rw[e];exact vp.ra (anL j p Z)
 refine wp_mono (Gk (w0:=.of w Y) eF code _ _ I xy _ w hR) λe O w' C=>?_
 obtain⟨di,D,af,ρ,E⟩:=C;have fin:Jk P di fn.results (n9 ro)=some y -> O.defers=[] /\ ∃ v,(results fn O.tmps).run P w' = .ok v w' /\ ∃ Cc aC,Ending.returned v=Ending.returned Cc/\Below w.heap.size w w'/\(∀ b k,aC b=some k -> w.heap.size <= b/\b<w'.heap.size/\k≠[])/\s9 w' w.heap.size aC nm (fQ ro y) Cc:=by
  intro sv;obtain⟨res,lU,fJ⟩:=akU sv;obtain⟨v,aC,h1,h2,h3⟩:=fJ af ρ O w' E nm;exact⟨E.defers,v,h1,v,aC,rfl,⟨E.below.os,E.below.tape,E.below.output,E.below.size,λk D=>E.below.block k D rfl⟩,λb k hb=>⟨(h2 b k hb).1.resolve_right (λh=>h rfl),(h2 b k hb).2⟩,acU fk lU h3⟩
 split at D
 next C=>have C:=vD C;subst C;exact fin D
 next C=>have C:=vD C;subst C;exact fin D
 ·cases D
def anM{ai:aa (Bool×TC)}{args:aa Pt}{x:mH ai}{bJ:Array Value}(E:AK ai args=some x)(C:r8 w args bJ):r8 w (iy ai x) bJ:=by
 obtain⟨I,O⟩:=V2 ai args x E
 refine⟨C.1.trans I.symm,λj p T=>?_⟩
 obtain⟨q,U,D,Y⟩:=O j p T;obtain⟨u,Z,vp⟩:=C.2 j q U;refine⟨u,Z,?_⟩;obtain⟨b,ys⟩:=p;obtain⟨b',xs⟩:=q;simp only at D;subst D;exact vp.xe Y
def V4{f:Nat}{ai:aa (Bool×TC)}{ro:aa (Bool×TC×Nat)}{F:mH ai->ah (jN ro)}(h:∀ x y,F x=some y->∀ (nm:Nat->Nat) (w:World) (bJ:Array Value),r8 w (iy ai x) bJ->Hd w (λ_=>none)->
  Calls P f bJ w λe w'=>∃v aC,e = .returned v/\Below w.heap.size w w'/\(∀b k,aC b=some k->w.heap.size<=b/\b<w'.heap.size/\k≠[])/\s9 w' w.heap.size aC nm (fQ ro y) v):jZ P f (jB ai ro F):=by
 refine⟨λargs X Y k g=>?_,λargs T C nm w bJ D E=>?_⟩
 ·unfold jB;dsimp only;split
  ·split<;>rfl
  ·rfl
 ·simp only[jB]at C;split at C
  ·rename_i x I;split at C
   next y O=>injection C with C;subst C;exact h x y O nm w bJ (anM I D) E
   ·cases C
  ·cases C
def anN{f:Nat}{fn:Func}{code:Code}{ai:aa (Bool×TC)}{ro:aa (Bool×TC×Nat)}{F:mH ai->ah (jN ro)}(C:P.funcs[f]?=some fn)(hb:fn.body=some code)(D:fn.ntmps=N)(E:(fn.name == "runtime.NumGoroutine")=false)(I:Nat.ble ai.length N=true)(O:od ro=true)
  (T:gL P Φ) (U:sn P N Λ (occs code)) (Y:∀x,tA P N Φ Λ code fn.results (iy ai x) (n9 ro)=F x):enters P f/\jZ P f (jB ai ro F):=
 ⟨⟨fn,C,E,by rw[hb];rfl⟩,V4 λx y Z nm w bJ n8 hQ=>Kh C hb D (by rw[acV];exact cH I) O T U (acW ai x) ((Y x).trans Z) nm w bJ n8 hQ⟩
def anO{f:Nat}{fn:Func}{code:Code}{t:TC}{g:Nat}{F:aa (T t)->ah (aa (T t))}(E:P.funcs[f]?=some fn)(hb:fn.body=some code)(O:fn.ntmps=N)(D3:(fn.name == "runtime.NumGoroutine")=false)(Ki:Nat.ble 1 N=true)(U:od [(false,.sl t,g)]=true)
  (Y:gL P Φ) (Z:sn P N Λ (occs code)) (hF:∀x:aa (T t),tA P N Φ Λ code fn.results [(false,[.sl t 0 false x])] (n9 [(false,.sl t,g)])=F x)
  (h0:tA P N Φ Λ code fn.results [(false,[.nil])] (n9 [(false,.sl t,g)])=some ([]:aa (T t))) (h1:tA P N Φ Λ code fn.results [(false,[.sl t 0 true []])] (n9 [(false,.sl t,g)])=some ([]:aa (T t))):
  enters P f/\jZ P f (jB [(false,.sl t)] [(false,.sl t,g)] λx=>bif lz x.1 then some ([]:aa (T t))else F x.1):=by
 refine⟨⟨fn,E,D3,by rw[hb];rfl⟩,V4 λx y D nm w bJ I hQ=>?_⟩
 obtain⟨l,_⟩:=x;have I:r8 w [(false,[.sl t 0 false l])] bJ:=I;have hle:1<=N:=cH Ki;have OD:∀ (v:V),v.aI=true->∀ (j:Nat) p,([(false,[v])]:aa Pt)[j]?=some p->∀ y∈p.2,y.aI=true:=by
  intro v hv j p C y D;rcases j with _|j
  ·injection C with C;subst C;rw[gz.1 D];exact hv
  ·cases C
 obtain⟨u,hu,C⟩:=I.2 0 _ rfl;obtain⟨us,e,_,hv⟩:=C.pv;have e:us = #[u]:=e;subst e;obtain⟨v,g1,hr⟩:=hv 0 _ rfl;have g1:u=v:=by simpa using g1
 subst g1;have one:∀ v:V,RV w w.heap.size (λ_=>none) [] v u->r8 w [(false,[v])] bJ:=λv hr=>⟨I.1,λj p C=>by
  rcases j with _|j
  ·injection C with C;subst C;exact⟨u,hu,.v _ _ ⟨#[u],rfl,rfl,λi x hx=>by
    rcases i with _|i
    ·injection hx with hx;subst hx;exact⟨u,rfl,hr⟩
    ·cases hx⟩⟩
  ·cases C⟩
 cases l with
 |cons a l=>exact Kh (xz:=[(false,[.sl t 0 false (a::l)])]) E hb O hle U Y Z (OD _ rfl) ((hF _).trans D) nm w bJ I hQ
 | nil=>
  have D:some ([]:aa (T t))=some y:=D;injection D with D;subst D;cases hr with
  |fC=>exact Kh (xz:=[(false,[.nil])]) E hb O hle U Y Z (OD _ rfl) h0 nm w bJ (one _ (.nil _)) hQ
  |gF _ _ _ A c ho=>exact Kh (xz:=[(false,[.sl t 0 true []])]) E hb O hle U Y Z (OD _ rfl) h1 nm w bJ (one _ (.gO _ _ _ _ _ ho)) hQ
  |aI _ _ _ qn l b off cap us ho hl M8 hB lQ hc qh=>exact Kh (xz:=[(false,[.sl t 0 true []])]) E hb O hle U Y Z (OD _ rfl) h1 nm w bJ (one _ (.gO _ _ _ _ _ ho)) hQ
end
def Kj(N:Nat)(σ:S)(t:Nat):S:=match σ.t t with
 | .view [q] s 0 j=>bif Nat.blt t N then (match σ.m q with
  |some (.sl (.sl tc (o+2) C l))=>bif Nat.beq (full tc) 0 then (((σ.drop q).drop t).root t (.sl (.sl tc 2 false (l.take j)))).set t (.lf (.own [t]))else σ
  |_=>σ)else σ
 |_=>σ
def yV(N:Nat)(σ:S):aa ResultVar->S
 |[]=>σ
 |.tmp t::r=>yV N (Kj N σ t) r
 |_::r=>yV N σ r
def D4{X:Type}(P:Program)(N:Nat)(Φ:fo)(Λ:oW)(code:Code)(C:Array ResultVar)(D:aa In)(args:aa Ar)(k:aa In->gU->ah X):ah X:=
 ny P N Φ Λ code (Am D args) λe σ=>match Cb e with
  |some 0=>Jq P (yV N σ C.toList) C D k
  |some 1=>Jq P (yV N σ C.toList) C D k
  |_=>none
section
variable {P:Program} {w w':World} {w0:Wd} {B N:Nat} {af aC:bB} {ρ ρ':Nat->Loc} {σ:S} {a:Act} {X:Type} {d:Nat} {r:X} {o:Oper} {Φ:fo} {Λ:oW}
def Rl.Kj{t:Nat}(h:Rl w0 N af ρ σ a w):∃ aC ρ',Rl w0 N aC ρ' (Proofs.YthmgjjfedieljaaGreat.Kj N σ t) a w:=by
 unfold Proofs.YthmgjjfedieljaaGreat.Kj;split
 ·rename_i q s j ht;cases hN:Nat.blt t N with
  |false=>exact⟨af,ρ,h⟩
  | true=>
   have hN:t<N:=by have:=cH hN;omega
   rw[av];split
   ·rename_i tc g qn l hm;cases U:Nat.beq (full tc) 0 with
    |false=>exact⟨af,ρ,h⟩
    | true=>
     have U:=c8 U;rw[av];have hv:=h.tmp t;rw[ht]at hv;obtain⟨A,n,c,Y,_,hj,hu⟩:=hv;have gX:sliced A 0 j c s = .slice A j c:=by cases A<;>simp[sliced,Addr.add]
     rw[gX]at hu;let D:bB:=λb=>match af b with
      |some k=>bif cV q k then (bif Nat.beq k.length 1 then some [t]else none)else some k
      |none=>none
     have hrel:Rel q af D:=⟨h.Aa,λb hb=>by simp[D,hb],λb k hb C=>by simp[D,hb,C]⟩
     have h1:=h.rel hrel (λb k C=>by
      simp only[D]at C;cases hl:af b with
      |none=>rw[hl]at C;cases C
      | some k'=>
       rw[hl]at C;simp only at C;refine⟨⟨_,rfl⟩,?_⟩;cases hq:cV q k' with
       | true=>
        rw[hq,av]at C;cases hlen:Nat.beq k'.length 1 with
        |true=>rw[hlen,av]at C;injection C with C;rw[<- C];simp
        |false=>rw[hlen,ax]at C;cases C
       | false=>
        rw[hq,ax]at C;injection C with C;subst C;exact(h.dj b k' hl).2.2)
     have fk:=h.root q _ hm;generalize I:aU.sl (.sl tc (g+2) qn l)=z at fk;cases fk with
     |aD=>cases I
     |mp=>cases I
     |gh=>cases I
     | sl v y cv O=>
      injection I with I;subst I;simp only[de,cv]at Y;injection Y with Y;subst Y;have hn:n=l.length:=by cases O<;>rfl
      have UC:RV w w0.heap.size D [t] (.sl tc 2 false (l.take j)) (.slice A j c):=by
       cases O with
       | fC=>
        have:j=0:=by simpa using hj
        subst this;exact .fC _ _ _
       |gF _ _ _ _ _ ho=>omega
       |gO _ _ _ _ _ ho=>omega
       |aI _ _ _ _ _ _ _ _ _ ho=>omega
       | own _ _ _ _ _ b cap cs us rY hh hs Dk vb hc O=>
        have hl:(l.take j).length=j:=by rw[jK];omega
        have hle:∀i (hi:i<(l.take j).length),∃Z:i<l.length,(l.take j)[i]=l[i]:=λi hi=>⟨by omega,List.getElem_take⟩
        have:=RV.own (w:=w) (B:=w0.heap.size) (af:=D) [t] tc 0 false (l.take j) b c cs us (by simp[D,rY,cV]) hh hs (by omega) ⟨vb.1,λh=>by cases h⟩ (λi hi k x T=>by
         obtain⟨Z,e⟩:=hle i hi;rw[e,FJ tc U 0]at T;exact hc i Z k x T) (λi hi k x T=>by
         obtain⟨Z,e⟩:=hle i hi;rw[e,FJ tc U 0]at T;exact(O i Z k x T).wK (Bl tc g _ U x (iR T)))
        rw[hl]at this;exact this
      have hrm:FH w w D D t:=⟨dg _,λ_ _ _=>rfl,λ_ _=>rfl,h1.Aa⟩
      have E:=h1.Bv (d:=t) (ρ':=bK ρ t (.dP (.slice A j c))) (x:=.sl (.sl tc 2 false (l.take j))) (h.cT t (.inl hN)) ⟨rfl,rfl,rfl,dg _,λ_ _ _=>rfl⟩ hrm (λb k hb C=>by
       have:=(h1.dj b k C).2.1;omega) (λr O=>cz _ _ _ O) (.sl _ _ (bT _ _ _) UC)
      refine⟨_,_,E.below,E.dj,E.root,λk=>?_,E.size,E.defers,E.fix,E.cT⟩
      show RA w w0.heap.size D _ (bK _ t _ k) _;by_cases C:k=t
      ·subst C;rw[bT,hu];exact⟨rfl,by simp only[de,bT]⟩
      ·rw[cz _ _ _ C];exact E.tmp k
   ·exact⟨af,ρ,h⟩
 ·exact⟨af,ρ,h⟩
def Rl.yV:∀ (l:aa ResultVar) (σ:S) (af:bB) (ρ:Nat -> Loc),Rl w0 N af ρ σ a w -> ∃ aC ρ',Rl w0 N aC ρ' (Proofs.YthmgjjfedieljaaGreat.yV N σ l) a w
 |[],_,af,ρ,h=>⟨af,ρ,h⟩
 | .tmp t :: r,_,_,_,h=>by
  obtain⟨C,D,E⟩:=h.Kj;exact Rl.yV r _ C D E
 |.cell _ _::r,_,af,ρ,h=>Rl.yV r _ af ρ h
def fnM_core{f:Nat}{fn:Func}{code:Code}{C:aa In}{args:aa Ar}{k:aa In -> gU -> ah X}(hf:P.funcs[f]?=some fn)(hb:fn.body=some code)(hN:fn.ntmps=N)(Gs:N <= 20000)(hlen:args.length <= N)
  (eF:gL P Φ) (xy:sn P N Λ (occs code)) (h:D4 P N Φ Λ code fn.results C args k=some r) (nm:Nat -> Nat) (w:World) (af:bB) (ρ:Nat -> Loc) (bJ:Array Value)
  (hE:r9 w w.heap.size af ρ 0 C) (qY:∀b k,af b=some k -> b<w.heap.size/\k≠[]) (iI:bJ.size=args.length) (hv:∀i,RA w w.heap.size af ρ ((Am C args).t i) (bJ.getD i undef)) (T:Hd w af):
  Calls P f bJ w λe w'=>∃v aC outs D,k outs D=some r/\e = .returned v/\kH ⟨w,af,λ_=>none,T,λ_ _=>rfl⟩ w w'/\(∀b k,aC b=some k -> (w.heap.size <= b \/ af b≠none)/\b<w'.heap.size/\k≠[])/\s9 w' w.heap.size aC nm D v/\uh w w' aC ρ nm 0 D.len C outs:=by
 let W:Wd:=⟨w,af,λr=>if 20000 <= r/\r<60000 then some (ρ r)else none,T,λr hr=>aX⟩
 refine calls_of_wp hf hb ?_;unfold D4 at h;have hR:R W N (Am C args) { tmps:=bJ++Array.replicate (fn.ntmps-bJ.size) undef,defers:=[] } w:=by
  refine⟨af,ρ,.of (Below.refl w.heap.size w) (dg _),λb k hb=>⟨.inr (by rw[show W.L b=af b from rfl,hb];simp),qY b k hb⟩,r9.roots C 0 _ hE (λr x hx=>by cases hx),λj=>?_,by simp[hN];omega,rfl,λr l hr=>?_,λr hr=>?_⟩
  ·by_cases hj:j<bJ.size
   ·have e:(bJ++Array.replicate (fn.ntmps-bJ.size) undef).getD j undef=bJ.getD j undef:=by
     rw[jt,Array.getElem?_append_left hj,jt]
    rw[e];exact hv j
   ·have e:(Am C args).t j = .undef:=by
     simp only[Am,qL (by omega:args.length <= j)]
    rw[e];trivial
  ·grind
  ·grind
 refine wp_mono (Gk (w0:=W) eF code _ _ h xy _ w hR) λe U w' E=>?_
 obtain⟨di,O,FV,FU,I⟩:=E;have fin:Jq P (Proofs.YthmgjjfedieljaaGreat.yV N di fn.results.toList) fn.results C k=some r -> U.defers=[] /\ ∃ v,(results fn U.tmps).run P w' = .ok v w' /\ ∃ Cc aC outs D,k outs D=some r/\Ending.returned v=Ending.returned Cc/\kH ⟨w,af,λ_=>none,T,λ_ _=>rfl⟩ w w'/\(∀ b k,aC b=some k -> (w.heap.size <= b \/ af b≠none)/\b<w'.heap.size/\k≠[])/\s9 w' w.heap.size aC nm D Cc/\uh w w' aC ρ nm 0 D.len C outs:=by
  intro sv;obtain⟨outs,D,hko,fJ⟩:=akW (w0:=W) rfl (λr Y Z=>aV ⟨Y,Z⟩) (r9.T5 C 0 hE) sv;obtain⟨dQ,fZ,mB⟩:=Rl.yV _ di FV FU I;obtain⟨v,aC,Y,Z,h3,h4⟩:=fJ dQ fZ U w' mB nm;exact⟨I.defers,v,Y,v,aC,outs,D,hko,rfl,⟨I.below.os,I.below.tape,I.below.output,I.below.size,λk O=>I.below.block k O⟩,Z,h3,h4⟩
 split at O
 next E=>have E:=vD E;subst E;exact fin O
 next E=>have E:=vD E;subst E;exact fin O
 ·cases O
end
def uE:(l:aa (Bool×TC×Nat))->aa In->ah (uj l)
 |[],[]=>some ()
 | (true,t,g) :: r,.aD cs :: is=>match dec t g cs,uE r is with
  |some x,some xs=>some (x,xs)
  |_,_=>none
 | (false,t,g) :: r,.sl y :: is=>match (bif Nat.ble 1000000 g then (bif y.lP then none else y.gn t (g+2))else bif y.lP then y.gn t (g+2)else none),uE r is with
  |some x,some xs=>some (x,xs)
  |_,_=>none
 |_,_=>none
def OE:aa In->aa In->aa In->Prop
 |[],[],[]=>True
 |.aD E::C,.aD cs::r,.aD fW::r'=>(m9 cs fW/\E.map (λv=>(v.plain,v.aI))=fW.map (λv=>(v.plain,v.aI))/\∀x∈fW,x.lP=true)/\OE C r r'
 |.sl _::C,.sl y::r,.sl D::r'=>(Wk y D/\(y = .nil->D = .nil))/\OE C r r'
 |_,_,_=>False
def OF:∀ (ps:aa PK) (C:ni ps) (is:aa In) (x:uj (fF ps)),uE (fF ps) is=some x -> OE (qq ps C) is (ke (fF ps) x)
 |[],_,[],x,_=>trivial
 |[],_,_::_,x,h=>by simp[uE,fF]at h
 |.v b t::ps,C,is,x,h=>OF ps C.2 is x h
 |.p t g off::ps,C,[],x,h=>by simp[uE,fF]at h
 |.s t g::ps,C,[],x,h=>by simp[uE,fF]at h
 |.p t g off::ps,C,.sl _::_,x,h=>by simp[uE,fF]at h
 |.s t g::ps,C,.aD _::_,x,h=>by simp[uE,fF]at h
 | .p t g off :: ps,C,.aD cs :: is,x,h=>by
  have h:uE ((true,t,g)::fF ps) (.aD cs::is)=some x:=h;unfold uE at h;split at h
  next y ys D I=>injection h with h;subst h;exact⟨⟨nY t g cs y D,aj1 t g C.1 y,λz O=>SX t g y z O⟩,OF ps C.2 is ys I⟩
  ·cases h
 | .s t g :: ps,C,.sl y :: is,x,h=>by
  have h:uE ((false,t,g)::fF ps) (.sl y::is)=some x:=h;unfold uE at h;split at h
  ·rename_i z T D I;injection h with h;subst h;refine⟨?_,OF ps C.2 is T I⟩;cases hb:Nat.ble 1000000 g with
   | true=>
    cases E:y.lP with
    |true=>simp_all
    | false=>
     have:y = .nil:=by cases y<;>first|rfl|cases E
     subst this;exact⟨.same _,λ_=>rfl⟩
   | false=>
    cases E:y.lP with
    |false=>simp_all
    | true=>
     rw[hb,E]at D;exact⟨V.IE D,λe=>by subst e;cases E⟩
  ·cases h
def uh.typed{w w':World}{aC:bB}{ρ:Nat -> Loc}{nm:Nat -> Nat}:∀ (E:aa In) (i Y:Nat) (outs T:aa In),uh w w' aC ρ nm i Y E outs -> OE E outs T -> Jp w w' aC ρ nm i Y E T
 |[],i,Y,[],[],h,C=>trivial
 | .aD cs0 :: E,i,Y,.aD cs1 :: outs,.aD cs2 :: T,h,C=>by
  obtain⟨⟨b,off,cells,An,e,e',Z,h2,h3,h4,h5,h6,h7⟩,hr⟩:=h;obtain⟨⟨U,V5,hnn⟩,oP⟩:=C
  refine⟨⟨b,off,cells,An,e,e',Z,h2,h3,h4,by rw[<- U.1];exact h5,by rw[<- U.1];exact h6,λj x hx=>?_⟩,uh.typed E _ _ outs T hr oP⟩
  have hj:j<cs1.length:=by rw[U.1];exact(dW.1 hx).1
  obtain⟨u,hu,hc⟩:=h7 j _ (bL hj);have C:=U.2 j _ x (bL hj) hx;have OG:∀ I,cs0[j]?=some I -> I.plain=x.plain/\I.aI=x.aI:=by
   intro I h0;have e1:(cs0.map (λv=>(v.plain,v.aI)))[j]?=(cs2.map (λv=>(v.plain,v.aI)))[j]?:=by rw[V5]
   grind
  have hxn:=hnn x (iR hx);generalize cs1[j]=y at hc C;refine⟨u,hu,?_⟩;rcases hc with ⟨D,O⟩|⟨D,O,I,c3,c4⟩|⟨D,O,c6,⟨I,c3,c4⟩,c5⟩|⟨D,O⟩
  ·cases C with
   |same=>grind
   |nil t o=>cases D
   |q t o l=>cases D
   |gr=>cases D
  ·subst D O;have hf:x.aI=false:=by rw[<- (OG I c3).2];exact c4
   cases C with
   |same=>cases hxn
   |nil t o=>exact .inr (.inr ⟨hf,.fC _ _ _⟩)
  ·cases C with
   |same=>grind
   |nil t o=>cases c6
   |q t o l=>exact .inr (.inl ⟨rfl,O,c5⟩)
   |gr t o o' qn l Z h2=>simp[V.aI]at O;omega
  ·have hf:=C.Ub D;exact .inr (.inr ⟨hf,O.wk C⟩)
 | .sl y0 :: E,i,Y,.sl y1 :: outs,.sl y2 :: T,h,C=>by
  obtain⟨h,hr⟩:=h;obtain⟨⟨U,hn⟩,oP⟩:=C;exact⟨h.imp hn (λ⟨v,Z,h2⟩=>⟨v,Z,h2.wk U⟩),uh.typed E _ _ outs T hr oP⟩
 |[],_,_,_::_,_,h,_=>h.elim
 |[],_,_,[],_::_,_,h=>h.elim
 |.aD _::_,_,_,[],_,h,_=>h.elim
 |.sl _::_,_,_,[],_,h,_=>h.elim
 |.aD _::_,_,_,.sl _::_,_,h,_=>h.elim
 |.sl _::_,_,_,.aD _::_,_,h,_=>h.elim
 |.aD _::_,_,_,.aD _::_,[],_,h=>h.elim
 |.aD _::_,_,_,.aD _::_,.sl _::_,_,h=>h.elim
 |.sl _::_,_,_,.sl _::_,[],_,h=>h.elim
 |.sl _::_,_,_,.sl _::_,.aD _::_,_,h=>h.elim
def acX:∀ (l:aa (Bool×TC×Nat)) (ps:aa Pt) (x:jN l),ta l ps=some x -> (ps.map λp=>p.2.length)=((wZ l x).map λp=>p.2.length)
 |[],[],x,h=>rfl
 | [(b,t,g)],[(b',C)],x,h=>by
  unfold ta at h;cases hb:b==b' with
  |false=>rw[hb]at h;cases h
  | true=>
   rw[hb]at h;simp[wZ,(nY t g C x h).1]
 | (b,t,g) :: q :: r,(b',C) :: ps,x,h=>by
  unfold ta at h;cases hb:b==b' with
  |false=>simp_all
  | true=>
   rw[hb]at h;split at h
   next y ys D E=>injection h with h;subst h;simp only[wZ,List.map_cons];rw[acX _ ps ys E,(nY t g C y D).1]
   ·cases h
def anP{l:aa (Bool×TC×Nat)}{C:gU}{x:jN l}(h:n9 l C=some x):C.len=(fQ l x).len:=by
 have key:∀ ps,ta l ps=some x -> (ps.map λp=>p.2.length).sum=(fQ l x).len:=by
  intro ps h;rw[acX l ps x h];unfold fQ
  match hm:wZ l x with
  |[q]=>simp[gU.len]
  |[]=>rfl
  |_::_::_=>rfl
 cases C with
 |one p=>have:=key [p] h;simpa [gU.len]using this
 | fX ps=>
  simp only[n9]at h;cases hb:Nat.beq ps.length 1 with
  |true=>simp_all
  |false=>rw[hb]at h;exact key ps h
section
variable {P:Program} {w w':World} {w0:Wd} {B N:Nat} {af aC:bB} {ρ ρ':Nat->Loc} {σ:S} {a:Act} {X:Type} {d:Nat} {r:X} {o:Oper} {Φ:fo} {Λ:oW}
def Gt(l ro:aa (Bool×TC×Nat))(outs:aa In)(C:gU):ah (jN ro×uj l):=
 match n9 ro C,uE l outs with
 |some x,some y=>some (x,y)
 |_,_=>none
def OH{f:Nat}{fn:Func}{code:Code}{ps:aa PK}{ro:aa (Bool×TC×Nat)}{F:ni ps->ah (jN ro×uj (fF ps))}(I:P.funcs[f]?=some fn)(hb:fn.body=some code)(T:fn.ntmps=N)(U:(fn.name == "runtime.NumGoroutine")=false)(Y:Nat.ble ps.length N=true)(Z:Nat.ble N 20000=true)(fk:od ro=true)
  (eF:gL P Φ) (xy:sn P N Λ (occs code)) (hF:∀x,D4 P N Φ Λ code fn.results (qq ps x) (lV ps 0 x) (Gt (fF ps) ro)=F x):enters P f/\yJ P f ⟨ps,ro,F⟩:=by
 refine⟨⟨fn,I,U,by rw[hb];rfl⟩,λx y h nm w af ρ bJ hE qY D hv hQ=>?_⟩
 have h:F x=some y:=h;rw[<-hF x]at h;have hlen:∀ (ps:aa PK) (i:Nat) (x:ni ps),(lV ps i x).length=ps.length:=by
  intro ps
  induction ps with
  |nil=>intro i x;rfl
  | cons p ps E=>
   intro i x;cases p with
   |v=>exact bE (· + 1) (E _ _)
   |p=>exact bE (· + 1) (E _ _)
   |s=>exact bE (· + 1) (E _ _)
 have D:bJ.size=(lV ps 0 x).length:=by rw[hlen];exact D
 refine(fnM_core I hb T (cH Z) (by rw[hlen];exact cH Y) eF xy h nm w af ρ bJ hE qY D hv hQ).mono λe w' uf=>?_
 obtain⟨v,aC,outs,res,C,he,vh,hl,lU,Ul⟩:=uf;unfold Gt at C;split at C
 next y1 y2 O h2=>injection C with C;subst C;refine⟨v,aC,he,vh,hl,acU fk O lU,?_⟩;rw[<-anP O];exact uh.typed _ _ _ _ _ Ul (OF ps x outs y2 h2)
 ·cases C
end
set_option maxRecDepth 100000
def OI(σ:S)(C:Array ResultVar):ah Int:=
 match C.toList with
 | [.tmp t]=>(match σ.t t with
  | .aL r 0=>(match σ.m r with
   |some (.aD [.own [n],.v (.int .i64 z),.v (.int .i64 h)])=>bif Nat.beq n 20000&&z==0 then some h else none
   |_=>none)
  |_=>none)
 |_=>none
def acY(P:Program)(N:Nat)(Φ:fo)(Λ:oW)(code:Code)(C:Array ResultVar)(l:aa (T .u8)):ah Int:=
 ny P N Φ Λ code (Am [.sl (.sl .u8 0 false l)] [.mut 0 0]) λe σ=>match Cb e with
  |some 0=>OI σ C
  |some 1=>OI σ C
  |_=>none
section
variable {P:Program} {w w':World} {w0:Wd} {B N:Nat} {af aC:bB} {ρ ρ':Nat->Loc} {σ:S} {a:Act} {X:Type} {d:Nat} {r:X} {o:Oper} {Φ:fo} {Λ:oW}
def anQ{f:Nat}{fn:Func}{code:Code}{F:aa Int->ah Int}(hf:P.funcs[f]?=some fn)(hb:fn.body=some code)(hN:fn.ntmps=N)(D3:(fn.name == "runtime.NumGoroutine")=false)(hN1:Nat.ble 1 N=true)(Gs:Nat.ble N 20000=true)
  (eF:gL P Φ) (xy:sn P N Λ (occs code)) (hF:∀l,acY P N Φ Λ code fn.results l=F l):enters P f/\NR P f F:=by
 refine⟨⟨fn,hf,D3,by rw[hb];rfl⟩,λw l h v hh hv hQ=>?_⟩
 rw[<-hF l]at hh;unfold acY at hh;have hN1:=cH hN1;have Gs:=cH Gs;let W:Wd:=⟨w,λ_=>none,λr=>if 20000<=r/\r<60000 then some (.dP v)else none,hQ,λr E=>aX⟩
 refine calls_of_wp hf hb ?_;have hR:R W N (Am [.sl (.sl .u8 0 false l)] [.mut 0 0]) { tmps:=#[v]++Array.replicate (fn.ntmps-(#[v]:Array Value).size) undef,defers:=[] } w:=by
  refine⟨λ_=>none,λ_=>.dP v,.of (Below.refl w.heap.size w) (dg _),(λb k hb=>by cases hb),λn y O=>?_,λj=>?_,by simp[hN];omega,rfl,λr l E=>?_,λr E=>?_⟩
  ·have O:bK (λ_=>none) (nF 0) (some (.sl (.sl .u8 0 false l))) n=some y:=O;by_cases Z:n=nF 0
   ·subst Z;rw[bT]at O;injection O with O;subst O;exact .sl v _ rfl (hv.key rfl)
   ·rw[cz _ _ _ Z]at O;cases O
  ·cases j with
   | zero=>
    have e:(#[v]++Array.replicate (fn.ntmps-(#[v]:Array Value).size) undef).getD 0 undef=v:=by
     rw[jt,Array.getElem?_append_left (by simp)];rfl
    show RA w w.heap.size _ _ (.lf (.own [nF 0])) ((#[v]++Array.replicate (fn.ntmps-(#[v]:Array Value).size) undef).getD 0 undef);rw[e];exact⟨hv.oI rfl rfl,rfl⟩
   |succ j=>exact trivial
  ·have E:(if 20000<=r/\r<60000 then some (Loc.dP v)else none)=some l:=E;split at E
   ·injection E
   ·cases E
  ·show (if 20000<=r/\r<60000 then some (Loc.dP v)else none)=none;rw[aX]
 refine wp_mono (Gk (w0:=W) eF code _ _ hh xy _ w hR) λe a' w' I=>?_
 obtain⟨di,T,FV,FU,D⟩:=I;have fin:OI di fn.results=some h->a'.defers=[]/\∃ u,(results fn a'.tmps).run P w' = .ok u w'/\∃ b off cells t,Ending.returned u = .returned (.pointer (some ⟨b,off,none⟩))/\Below w.heap.size w w'/\w.heap.size<=b/\w'.heap[b]?=some (.cells cells t (0,0))/\cells[off]?=some v/\cells[off+1]?=some (.int .i64 0)/\cells[off+2]?=some (.int .i64 h):=by
  intro C;unfold OI at C;split at C
  ·rename_i t ht;split at C
   ·rename_i r E;split at C
    ·rename_i n z h' hm;cases hb:(Nat.beq n 20000&&z==0)with
     |false=>rw[hb]at C;cases C
     | true=>
      rw[hb,av]at C;injection C with C;subst C;rw[aH]at hb;have Z:=c8 hb.1;have hz:z=0:=by simpa using hb.2
      subst Z hz;have h1:=D.tmp t;rw[E]at h1;obtain⟨b,off,e1,e2⟩:=h1;have h2:=D.root r _ hm;generalize U:aU.aD _=x at h2;cases h2 with
      |sl=>cases U
      |mp=>cases U
      |gh=>cases U
      | aD b' Dh cells e cs us cv hl yF hs hc=>
       injection U with U;subst U;rw[cv]at e1;injection e1 with e3 e4;subst e3 e4;obtain⟨c0,Y⟩:=hc 0 _ rfl;obtain⟨c1,d1⟩:=hc 1 _ rfl;obtain⟨c2,d2⟩:=hc 2 _ rfl;have Y:=Y.2;have V6:=D.fix 20000 (.dP v) rfl;simp only[de,V6]at Y;injection Y with Y;rw[<-Y]at c0;rw[d1.2.iS]at c1;rw[d2.2.iS]at c2
       refine⟨D.defers,_,?_,b',Dh,cells,e,rfl,⟨D.below.os,D.below.tape,D.below.output,D.below.size,λk T=>D.below.block k T rfl⟩,?_,yF,c0,c1,c2⟩
       ·have lU:results fn a'.tmps=(do let vs <-fn.results.mapM (ug a'.tmps);pure (if h:vs.size=1 then vs[0]else .tuple vs)):=by
         unfold results;congr 1
        have nB:fn.results = #[.tmp t]:=by apply Array.ext';exact ht
        rw[lU,nB,Array.mapM_eq_mapM_toList];simp[ug,e2]
       ·have:=(D.dj b' _ hl).1;exact this.resolve_right (λh=>h rfl)
    ·cases C
   ·cases C
  ·cases C
 split at T
 next I=>have I:=vD I;subst I;exact fin T
 next I=>have I:=vD I;subst I;exact fin T
 ·cases T
end
def nV(i j:Nat):Nat:=20001+1000*i+j
def Gu(i j:Nat)(x:V):Lf:=match x with
 |.sl ..=>.own [nV i j]
 |x=>.v x
def AL(i:Nat):Nat->aa V->aa Lf
 |_,[]=>[]
 |j,x::xs=>Gu i j x::AL i (j+1) xs
def V7(args:aa Pt)(n:Nat):ah aU:=bif Nat.ble 20001 n&&Nat.blt n 60000 then (match args[(n-20001) / 1000]? with
 | some (_,xs)=>(match xs[(n-20001) % 1000]? with
  |some (.sl t g q l)=>some (.sl (.sl t g q l))
  |_=>none)
 |none=>none)else none
def acZ(args:aa Pt):S:=⟨λi=>match args[i]? with
 |some (false,[x])=>.lf (Gu i 0 x)
 |some (true,xs)=>.agg (AL i 0 xs)
 |_=>.undef,V7 args⟩
def OJ(σ:S)(C:Array ResultVar)(a j:Nat)(t:TC):ah (Nat×Nat):=match C.toList with
 | [.tmp s]=>(match σ.t s with
  |.view [n] D i k=>bif Nat.beq n (nV a j)&&Nat.beq D (aF t)then some (i,k)else none
  |_=>none)
 |_=>none
def ac0(P:Program)(N:Nat)(Φ:fo)(Λ:oW)(code:Code)(C:Array ResultVar)(a j:Nat)(t:TC)(args:aa Pt):ah (Nat×Nat):=
 ny P N Φ Λ code (acZ args) λe σ=>match Cb e with
  |some 0=>OJ σ C a j t
  |some 1=>OJ σ C a j t
  |_=>none
def V8(ai:aa (Bool×TC))(a j:Nat)(t:TC)(F:mH ai->ah (Nat×Nat)):DN:=⟨a,j,t,λargs=>match AK ai args with
 |some x=>F x
 |none=>none⟩
section
variable {P:Program} {w w':World} {w0:Wd} {B N:Nat} {af aC:bB} {ρ ρ':Nat->Loc} {σ:S} {a:Act} {X:Type} {d:Nat} {r:X} {o:Oper} {Φ:fo} {Λ:oW}
def ac1(i:Nat):∀ (xs:aa V) (C j:Nat),(AL i C xs)[j]?=(xs[j]?).map λx=>Gu i (C+j) x
 |[],C,j=>by simp[AL]
 |x::xs,C,0=>by simp[AL]
 | x :: xs,C,j+1=>by
  simp[AL,List.getElem?_cons_succ,ac1]
  grind
def ac2(i:Nat):∀ (xs:aa V) (C:Nat),(AL i C xs).length=xs.length
 |[],_=>rfl
 |x::xs,C=>by simp[AL,ac2 i xs (C+1)]
def ac3{i j:Nat}(h:j<1000):(nV i j-20001) / 1000=i/\(nV i j-20001) % 1000=j:=by
 unfold nV;omega
def Cd(bJ:Array Value)(n:Nat):Loc:=.dP ((xo bJ ((n-20001) / 1000) ((n-20001) % 1000)).getD undef)
def ac4{bJ:Array Value}{i j:Nat}{x:V}{u:Value}(D:j<1000)(E:xo bJ i j=some u)(I:x.aI=true)(C:RV w B (λ_=>none) [] x u):eE w B (λ_=>none) (Cd bJ) (Gu i j x) u:=by
 unfold Gu;split
 ·refine⟨C.oI rfl rfl,?_⟩;obtain⟨O,T⟩:=ac3 (i:=i) D;simp only[de,Cd,O,T,E];rfl
 ·exact⟨I,C⟩
def anR{f:Nat}{fn:Func}{code:Code}{ai:aa (Bool×TC)}{O T:Nat}{t:TC}{F:mH ai -> ah (Nat×Nat)}(hf:P.funcs[f]?=some fn)(hb:fn.body=some code)(hN:fn.ntmps=N)(D3:(fn.name == "runtime.NumGoroutine")=false)(Ki:Nat.ble ai.length N=true)(Gs:Nat.ble N 20000=true)(iI:(ai.all λp=>Nat.blt (aF p.2) 1000&&(p.1 || Nat.beq (aF p.2) 1))=true)(hjj:Nat.blt T 1000=true)(haa:Nat.blt O 30=true)
  (eF:gL P Φ) (xy:sn P N Λ (occs code)) (hF:∀x,ac0 P N Φ Λ code fn.results O T t (iy ai x)=F x):enters P f/\NS P f (V8 ai O T t F):=by
 refine⟨⟨fn,hf,D3,by rw[hb];rfl⟩,λargs p h w bJ n8 hQ=>?_⟩
 simp only[V8]at h;split at h
 ·rename_i x hx;obtain⟨k1,k2⟩:=V2 ai args x hx;have hlen:∀ (l:aa (Bool×TC)) (x:mH l),(iy l x).length=l.length:=by
   intro l
   induction l with
   |nil=>intro x;rfl
   |cons p l ih=>obtain⟨b,t⟩:=p;intro x;simp[iy,ih]
  have ng:bJ.size=ai.length:=by rw[n8.1,<- k1,hlen]
  have hle:bJ.size <= N:=by rw[ng];exact cH Ki
  have Gs:=cH Gs;have nB:∀ (l:aa (Bool×TC)) (x:mH l),(l.all λp=>Nat.blt (aF p.2) 1000&&(p.1 || Nat.beq (aF p.2) 1))=true -> ∀ (j:Nat) p,(iy l x)[j]?=some p -> (∀ y∈p.2,y.aI=true)/\p.2.length<1000/\(p.1=true \/ p.2.length=1):=by
   intro l
   induction l with
   |nil=>intro x _ j p U;simp[iy]at U
   | cons c l ih=>
    obtain⟨b,t⟩:=c;intro x hs j p U;rw[List.all_cons,aH]at hs;cases j with
    | zero=>
     simp[iy]at U;subst U
     refine⟨λy C=>?_,?_⟩
     ·obtain⟨i,hi⟩:=List.mem_iff_getElem?.1 C;exact sX t 0 x.1 (by omega) i y hi
     ·show (enc t 0 x.1).length<1000/\(b=true \/ (enc t 0 x.1).length=1);rw[mz];have h8:=hs.1;rw[aH,eZ]at h8;have h9:=cH h8.1;exact⟨h9,h8.2.imp id c8⟩
    |succ j=>exact ih x.2 hs.2 j p (by simpa [iy]using U)
  have qi:∀ (i:Nat) (p:Pt),(iy ai x)[i]?=some p -> ∃ u:Value,bJ[i]?=some u/\PV w w.heap.size (λ_=>none) (λ_=>[]) p u/\(∀ y∈p.2,y.aI=true)/\p.2.length<1000:=by
   intro i p U;obtain⟨q,hq,FK,wQ⟩:=k2 i p U;obtain⟨u,Y,vp⟩:=n8.2 i q hq;obtain⟨g1,g2,g3⟩:=nB ai x iI i p U;refine⟨u,Y,?_,g1,g2⟩;obtain⟨b,ys⟩:=p;obtain⟨b',xs⟩:=q;simp only at FK;subst FK;have hw:=vp.xe wQ;rcases g3 with g3|g3
   ·simp only at g3;subst g3;exact hw.pvS
   ·obtain⟨y,rfl⟩:=List.length_eq_one_iff.1 g3;cases b' with
    |true=>exact hw.pvS
    |false=>exact hw.pv
  have V9:∀ (i:Nat) (p:Pt),(iy ai x)[i]?=some p -> ∀ (j:Nat) y,p.2[j]?=some y -> ∃ u,xo bJ i j=some u/\RV w w.heap.size (λ_=>none) [] y u/\y.aI=true/\j<1000:=by
   intro i p U j y C;obtain⟨u,Y,⟨us,D,h2,h3⟩,h4,h5⟩:=qi i p U;obtain⟨v,E,I⟩:=h3 j y C;refine⟨v,?_,I,h4 y (iR C),by have:=(dW.1 C).1;omega⟩;unfold xo;rw[Y];obtain⟨b,ys⟩:=p;cases b with
   | true=>
    have D:u = .agg us:=D;subst D;exact E
   | false=>
    have D:us = #[u]:=D;subst D;have hj:j=0:=by
     have:=(jH.1 E).1
     simpa using this
    subst hj;have:u=v:=by simpa using E
    subst this;have lW:∀ us,u ≠ .agg us:=by
     rintro us rfl;cases I
    cases u<;>first|exact absurd rfl (lW _)|rfl
  let W:Wd:=⟨w,λ_=>none,λr=>if 20000 <= r/\r<60000 then some (Cd bJ r)else none,hQ,λr I=>aX⟩
  refine calls_of_wp hf hb ?_;rw[<- hF x]at h;unfold ac0 at h;have hR:R W N (acZ (iy ai x)) { tmps:=bJ++Array.replicate (fn.ntmps-bJ.size) undef,defers:=[] } w:=by
   refine⟨λ_=>none,Cd bJ,.of (Below.refl w.heap.size w) (dg _),(λb k hk=>by cases hk),(λn y C=>?_),λi=>?_,by simp[hN];omega,rfl,λr l I=>?_,λr I=>?_⟩
   ·have C:V7 (iy ai x) n=some y:=C;unfold V7 at C;cases hb:(Nat.ble 20001 n&&Nat.blt n 60000)with
    |false=>rw[hb]at C;cases C
    | true=>
     rw[hb,av]at C;split at C
     ·rename_i b xs U;split at C
      next t' g q l hl=>injection C with C;subst C;obtain⟨u,Y,I,vf,_⟩:=V9 _ _ U _ _ hl;refine .sl u _ ?_ (I.key vf);unfold Cd;simp[*]
      ·cases C
     ·cases C
   ·show RA w w.heap.size _ _ (match (iy ai x)[i]? with | some (false,[x])=>A.lf (Gu i 0 x) | some (true,xs)=>.agg (AL i 0 xs) | _=>.undef) _;have FB:∀ p:Pt,(iy ai x)[i]?=some p -> ∃ u:Value,bJ[i]?=some u/\(bJ++Array.replicate (fn.ntmps-bJ.size) undef).getD i undef=u:=by
     intro p U;obtain⟨u,Y,_⟩:=qi i p U;have hi:=(jH.1 Y).1;exact⟨u,Y,by rw[jt,Array.getElem?_append_left hi,Y];rfl⟩
    split
    ·rename_i x' n5;obtain⟨u,Y,e⟩:=FB _ n5;rw[e];obtain⟨v,E,I,vf,_⟩:=V9 i _ n5 0 x' rfl;have Jn:u=v:=by
      unfold xo at E;rw[Y]at E;obtain⟨u2,n6,⟨us,D,h2,h3⟩,_⟩:=qi i _ n5;rw[Y]at n6;injection n6 with n6;subst n6;have D:us = #[u]:=D;subst D;obtain⟨v3,hv3,hr3⟩:=h3 0 x' rfl;have:u=v3:=by simpa using hv3
      subst this;have lW:∀ us,u ≠ .agg us:=by
       rintro us rfl;cases hr3
      cases u<;>first|exact absurd rfl (lW _)|(simp only[show Nat.beq 0 0=true from rfl,av,jJ]at E;exact E)
     subst Jn;exact ac4 (by omega) E vf I
    ·rename_i xs n5;obtain⟨u,Y,e⟩:=FB _ n5;rw[e];obtain⟨u2,n6,⟨us,D,h2,h3⟩,_⟩:=qi i _ n5;rw[Y]at n6;injection n6 with n6;subst n6;have D:u = .agg us:=D
     refine⟨us,D,by rw[ac2];exact h2,λj y C=>?_⟩
     rw[ac1]at C;cases hz:xs[j]? with
     |none=>rw[hz]at C;cases C
     | some z=>
      rw[hz]at C;injection C with C;subst C;obtain⟨v,E,I,vf,hj⟩:=V9 i _ n5 j z hz;have OL:us[j]?=some v:=by
       unfold xo at E;rw[Y,D]at E;exact E
      refine⟨v,OL,?_⟩;rw[gy];exact ac4 hj E vf I
    ·trivial
   ·have I:(if 20000 <= r/\r<60000 then some (Cd bJ r)else none)=some l:=I;split at I
    ·injection I
    ·cases I
   ·show (if 20000 <= r/\r<60000 then some (Cd bJ r)else none)=none;rw[aX]
  refine wp_mono (Gk (w0:=W) eF code _ _ h xy _ w hR) λe a' w' he=>?_
  obtain⟨di,hk,FV,FU,dK⟩:=he;have fin:OJ di fn.results O T t=some p -> a'.defers=[] /\ ∃ u,(results fn a'.tmps).run P w' = .ok u w' /\ ∃ A n cap,xo bJ O T=some (.slice A n cap)/\p.1 <= p.2/\p.2 <= n/\Ending.returned u = .returned (sliced A p.1 p.2 cap (aF t))/\Below w.heap.size w w':=by
   intro sv;unfold OJ at sv;split at sv
   ·rename_i s hs;split at sv
    ·rename_i n sz i k E;cases iu:(Nat.beq n (nV O T)&&Nat.beq sz (aF t))with
     |false=>rw[iu]at sv;cases sv
     | true=>
      rw[iu,av]at sv;injection sv with sv;subst sv;rw[aH]at iu;have hn:=c8 iu.1;have anS:=c8 iu.2;subst hn anS;have D:=dK.tmp s;rw[E]at D;obtain⟨A,m,c,Z,e2,e3,e4⟩:=D;have hjj:=cH hjj;have lW:20000 <= nV O T:=by unfold nV;omega
      by_cases dA:nV O T<60000
      ·have V6:=dK.fix (nV O T) (Cd bJ (nV O T)) (aV ⟨lW,dA⟩);have Z:(match FU (nV O T)with | .dP v=>some v | _=>none)=some (Value.slice A m c):=Z;rw[V6]at Z;obtain⟨d1,d2⟩:=ac3 (i:=O) (j:=T) (by omega);have Z:some ((xo bJ ((nV O T-20001) / 1000) ((nV O T-20001) % 1000)).getD undef)=some (Value.slice A m c):=Z;rw[d1,d2]at Z;injection Z with Z
       refine⟨dK.defers,_,?_,A,m,c,?_,e2,e3,bE Ending.returned e4,⟨dK.below.os,dK.below.tape,dK.below.output,dK.below.size,λk hk=>dK.below.block k hk rfl⟩⟩
       ·have lU:results fn a'.tmps=(do let vs <- fn.results.mapM (ug a'.tmps);pure (if h:vs.size=1 then vs[0]else .tuple vs)):=by
         unfold results;congr 1
        have nB:fn.results = #[.tmp s]:=by apply Array.ext';exact hs
        rw[lU,nB];simp[ug]
       ·cases hl:xo bJ O T with
        |none=>rw[hl]at Z;cases Z
        |some u=>rw[hl]at Z;exact bE some Z
      ·exfalso;have:=cH haa;unfold nV at dA;omega
    ·cases sv
   ·cases sv
  split at hk
  next he=>have he:=vD he;subst he;exact fin hk
  next he=>have he:=vD he;subst he;exact fin hk
  ·cases hk
 ·cases h
end
def Wd.pin(d:Wd)(g:Nat)(l:ah Loc)(D:20000<=g):Wd:=⟨d.w,d.L,λr=>if r=g then l else d.F r,d.held,λr C=>by
 show (if r=g then l else d.F r)=none;rw[aX];exact d.low r C⟩
def D5(g:Nat):aa (Bool×aa Lf)->A
 |[(false,[x])]=>.lf (x.drop g)
 |[(true,cs)]=>.agg (cs.map (Lf.drop g))
 |[(false,_)]=>.undef
 |ps=>.fX (ps.map λp=>(p.1,p.2.map (Lf.drop g)))
def D6{X:Type}(P:Program)(g:Nat)(D:Array ResultVar)(C:S)(k:S->A->ah X):ah X:=
 vn P C D.toList λps=>match C.m g with
  |some (.gh ys)=>k ⟨λj=>((ys.map (A.drop g))[j]?).getD .undef,(C.drop g).m⟩ (D5 g ps)
  |_=>none
def ac5(g N:Nat)(σ:S)(xs:aa A):S:=⟨λj=>((xs.map (A.drop g))[j]?).getD .undef,bK (σ.drop g).m g (some (.gh ((List.range N).map λj=>(σ.t j).drop g)))⟩
def noB:oW:=λ_=>none
def Kk{X:Type}(P:Program)(M g:Nat)(Φ:fo)(code:Code)(C:Array ResultVar)(N:Nat)(σ:S)(xs:aa A)(k:S->A->ah X):ah X:=
 bif Nat.ble xs.length M then ny P M Φ noB code (ac5 g N σ xs) λe D=>match Cb e with
  |some 0=>D6 P g C D k
  |some 1=>D6 P g C D k
  |_=>none
 else none
def ac6(P:Program)(M g:Nat)(Φ:fo)(code:Code)(C:Array ResultVar):xq:=⟨λX N σ xs k=>Kk P M g Φ code C N σ xs k⟩
section
variable {P:Program} {w w':World} {w0:Wd} {B M N g:Nat} {af aC:bB} {ρ ρ':Nat->Loc} {σ:S} {a:Act} {X:Type} {d:Nat} {r:X} {o:Oper} {Φ:fo} {Λ:oW}
def Wa{C:ah Tmp}{gd:Bool}:cE λX k=>vw (X:=X) σ C gd k:=λX Y k g=>by
 unfold vw
 repeat' first|rfl|refine dB ?_ ?_|split
def anT{ops:Array Oper}{L i:Nat}:cE λX k=>JU (X:=X) P N Φ ops L i σ o k:=λX Y k g=>by
 unfold JU;split
 ·refine(U0 _ _ _ _).trans (bE _ (funext λv=>?_))
  exact dB (Au _ _ _ _) rfl
 ·exact Au _ _ _ _
 ·rfl
def Wb(D:gL P Φ){ops:Array Oper}:∀ (f L:Nat) (σ:S),cE λX k=>ur (X:=X) P N Φ ops f L σ k
 | 0,L,σ=>λX Y k g=>by
  unfold ur;split<;>rfl
 | f+1,L,σ=>λX Y k g=>by
  have st:∀E o gd,cE λX k=>dL (X:=X) P N Φ ops σ o λI=>vw I o.dst gd λC=>ur P N Φ ops f E C k:=λE o gd=>(abV D).comp λI=>Wa.comp λC=>Wb D f E C
  unfold ur
  repeat' first
   |rfl
   |exact st _ _ _ _ _ _ _
   |exact(anT.comp λI=>Wa.comp λC=>Wb D f _ C) X Y k g
   |split
def anU{t:TypeId}{x lo hi C:A}{X Y:Type}(k:ah X)(g:X->ah Y):(F9 P σ t x lo hi C k).bind g=F9 P σ t x lo hi C (k.bind g):=by
 unfold F9
 repeat' first
  |rfl
  |refine(At _ _ _ _ _).trans (bE _ (funext λy=>?_))
  |split
def anV(C:gL P Φ):cE λX k=>JQ (X:=X) P N Φ σ o k:=λX Y k g=>by
 unfold JQ
 repeat' first
  |exact abR C _ _ _ _
  |exact amh _ _ _ _
  |exact(anU _ _).trans (bE _ (dB rfl rfl))
  |split
def Wc(C:gL P Φ){ops:Array Oper}:∀ (rest:aa Oper) (j:Nat) (σ:S),cE λX k=>DU (X:=X) P N Φ ops j rest σ k
 |[],j,σ=>λ_ _ _ _=>rfl
 | o :: rest,j,σ=>λX Y k g=>by
  unfold DU;split
  ·exact((anV C).comp λD=>Wa.comp λE=>Wc C rest _ E) X Y k g
  ·exact(Au.comp λD=>Wc C rest _ D) X Y k g
  ·rfl
def ac7(E:gL P Φ):∀ (c:Code) (σ:S),F8 λX k=>ny (X:=X) P N Φ noB c σ k:=by
 intro c
 induction c with
 | region id ops draw=>
  intro σ X Y k g;cases draw with
  |true=>exact dB (Wb E _ _ _ _ _ _ _) rfl
  |false=>exact Wc E _ _ _ _ _ _ _
 | seq x y C D=>
  intro σ X Y k g
  refine(C σ _ _ _ _).trans (bE _ (funext λe=>funext λI=>?_))
  cases e with
  |normal=>exact D I _ _ _ _
  |_=>rfl
 | cond c x y C D=>
  intro σ X Y k g;simp only[ny];split
  ·exact dB (C σ _ _ _ _) (D σ _ _ _ _)
  ·rfl
 | block id c O=>
  intro σ X Y k g
  refine(O σ _ _ _ _).trans (bE _ (funext λe=>funext λI=>?_))
  cases e with
  | exit T=>
   simp only;split<;>rfl
  |_=>rfl
 |_=>intro σ X Y k g;rfl
def OM:∀ (l:aa ResultVar),cE λX k=>vn (X:=X) P σ l k
 |[]=>λ_ _ _ _=>rfl
 | .tmp t :: rest=>λX Y k g=>by
  simp only[vn];split
  ·exact OM rest _ _ _ _
  ·rfl
 | .cell c ty :: rest=>λX Y k g=>by
  simp only[vn]
  refine(abe _ _ _ _).trans (bE _ (funext λy=>?_))
  split
  ·exact OM rest _ _ _ _
  ·rfl
def ac8{C:Array ResultVar}:F8 λX k=>D6 (X:=X) P g C σ k:=λX Y k f=>by
 unfold D6
 refine(OM _ _ _ _ _).trans (bE _ (funext λps=>?_))
 split<;>rfl
def anW(C:gL P Φ){code:Code}{D:Array ResultVar}{xs:aa A}:F8 λX k=>Kk (X:=X) P M g Φ code D N σ xs k:=λX Y k f=>by
 unfold Kk
 refine dB ((ac7 C _ _ _ _ _ _).trans (bE _ (funext λe=>funext λE=>?_))) rfl
 split
 ·exact ac8 _ _ _ _
 ·exact ac8 _ _ _ _
 ·rfl
def anX{D:Array ResultVar}{E:S}{y:A}(h:D6 P g D σ (λσ y=>some (σ,y))=some (E,y)):∃ ys ps,σ.m g=some (.gh ys)/\vn P σ D.toList some=some ps/\⟨λj=>((ys.map (A.drop g))[j]?).getD .undef,(σ.drop g).m⟩=E/\D5 g ps=y:=by
 unfold D6 at h;obtain⟨ps,C,I⟩:=(OM _).nZ h;split at C
 next ys O=>injection C with C;injection C with T U;exact⟨ys,ps,O,I.at_ _,T,U⟩
 ·cases C
def List.ac9(xs:aa A)(g j:Nat):((xs.map (A.drop g))[j]?).getD .undef=A.drop g ((xs[j]?).getD .undef):=by
 rw[fz];cases xs[j]?<;>rfl
def RP.D5{ps:aa (Bool×aa Lf)}{C:aa Value}(I:∀ r,r≠g->ρ' r=ρ r)(hl:C.length=ps.length)(h:∀ (i:Nat) p v,ps[i]?=some p->C[i]?=some v->RP w B af ρ p v):
  RA w B af ρ' (D5 g ps) (if h:C.toArray.size=1 then C.toArray[0]else .tuple C.toArray):=by
 have fX:ps.length≠1->RA w B af ρ' (.fX (ps.map λp=>(p.1,p.2.map (Lf.drop g)))) (if h:C.toArray.size=1 then C.toArray[0]else .tuple C.toArray):=by
  intro T;rw[dif_neg (by simpa [hl]using T)]
  refine⟨C.toArray,rfl,by simpa using hl,λj p D=>?_⟩
  rw[fz]at D;cases E:ps[j]? with
  |none=>rw[E]at D;cases D
  | some q=>
   rw[E]at D;injection D with D;subst D;have O:j<C.length:=by rw[hl];exact(dW.1 E).1
   exact⟨C[j],by simp[O],(h j q C[j] E (bL O)).fY I⟩
 unfold Proofs.YthmgjjfedieljaaGreat.D5;split
 ·rename_i x
  match C,hl,h with
  | [v],_,h=>
   have:=h 0 _ v rfl rfl;obtain⟨u,U,Y⟩:=this.2 0 x rfl;have:v=u:=by simpa using U
   subst this;exact Y.fY I
 ·rename_i cs
  match C,hl,h with
  |[v],_,h=>exact RP.fY I (p:=(true,cs)) (h 0 _ v rfl rfl)
 ·trivial
 ·rename_i h1 Z h3
  refine fX λe=>?_
  obtain⟨⟨b,cs⟩,rfl⟩:=List.length_eq_one_iff.1 e;cases b with
  |true=>exact Z cs rfl
  |false=>exact h3 cs rfl
def anY{f:Nat}{fn:Func}{code:Code}(hf:P.funcs[f]?=some fn)(hb:fn.body=some code)(hN:fn.ntmps=M)(hM:M<=20000)(D3:(fn.name == "runtime.NumGoroutine")=false)(hg:20000<=g/\g<60000)(eF:gL P Φ):
  enters P f/\uo P f (ac6 P M g Φ code fn.results):=by
 refine⟨⟨fn,hf,D3,by rw[hb];rfl⟩,λN σ xs=>anW eF,λN σ xs τ0 y0 h w0 af ρ a w bJ hR iI hv=>?_⟩
 have h:Kk P M g Φ code fn.results N σ xs _=_:=h;unfold Kk at h;cases hl:Nat.ble xs.length M with
 |false=>rw[hl]at h;cases h
 | true=>
  rw[hl,av]at h;have Jb:=cH hl;obtain⟨e,τ,h1,h2⟩:=(ac7 eF _ _).nZ h;have h3:(e = .normal\/e = .ret)/\D6 P g fn.results τ (λσ y=>some (σ,y))=some (τ0,y0):=by
   split at h1
   next U=>exact⟨.inl (vD U),h1⟩
   next U=>exact⟨.inr (vD U),h1⟩
   ·cases h1
  obtain⟨hex,h3⟩:=h3;obtain⟨ys,ps,hy,qZ,rfl,rfl⟩:=anX h3;let us:=a.tmps.toList
  let W:Wd:=w0.pin g (some (.bJ us)) hg.1
  let Y:=bK ρ g (.bJ us)
  have cv:∀r,r≠g->Y r=ρ r:=λr hr=>cz _ _ _ hr
  have oK:∀ j,us.getD j undef=a.tmps.getD j undef:=λj=>by
   show a.tmps.toList.getD j undef=_;rw[cQ,Array.getElem?_toList,jt]
  have hle:bJ.size<=M:=by rw[iI];exact Jb
  have vu:Rl W M af Y (ac5 g N σ xs) { tmps:=bJ++Array.replicate (fn.ntmps-bJ.size) undef,defers:=[] } w:=by
   refine⟨⟨hR.below.os,hR.below.tape,hR.below.output,hR.below.size,hR.below.block⟩,hR.dj,λr x C=>?_,λj=>?_,by simp[hN];omega,rfl,λr l hr=>?_,λr hr=>?_⟩
   ·have C:bK (σ.drop g).m g (some (.gh ((List.range N).map λj=>(σ.t j).drop g))) r=some x:=C;by_cases D:r=g
    ·subst D;rw[bT]at C;injection C with C;subst C
     refine .gh us _ (bT _ _ _) λj x I=>?_
     rw[fz]at I;cases hr:(List.range N)[j]? with
     |none=>rw[hr]at I;cases I
     | some j'=>
      rw[hr]at I;injection I with I;obtain⟨dA,va⟩:=dW.1 hr;rw[qb]at va;subst va I;rw[oK];exact(hR.tmp j).fY cv
    ·rw[cz _ _ _ D]at C;have C:(bif Nat.beq r g then none else (σ.m r).map (aU.drop g))=some x:=C;cases hb:Nat.beq r g with
     |true=>rw[hb]at C;cases C
     | false=>
      rw[hb,ax]at C;cases hm:σ.m r with
      |none=>rw[hm]at C;cases C
      | some y=>
       rw[hm]at C;injection C with C;subst C;exact(hR.root r y hm).fY cv D
   ·show RA w w0.heap.size af Y (((xs.map (A.drop g))[j]?).getD .undef) _;rw[List.ac9];by_cases I:j<bJ.size
    ·have e1:(bJ++Array.replicate (fn.ntmps-bJ.size) undef).getD j undef=bJ.getD j undef:=by
      rw[jt,Array.getElem?_append_left I,jt]
     show RA w w0.heap.size af Y _ ((bJ++Array.replicate (fn.ntmps-bJ.size) undef).getD j undef);rw[e1];exact(hv j).fY cv
    ·rw[qL (by omega:xs.length<=j)];trivial
   ·have hr:(if r=g then some (Loc.bJ us)else w0.F r)=some l:=hr;by_cases D:r=g
    ·rw[aV D]at hr;injection hr with hr;rw[D,<-hr];exact bT _ _ _
    ·rw[aX D]at hr;rw[cv r D];exact hR.fix r l hr
   ·show (if r=g then some (Loc.bJ us)else w0.F r)=none;rw[aX];rcases hr with hr | hr
    ·exact w0.low r (by omega)
    ·exact hR.cT r (.inr hr)
  refine calls_of_wp hf hb ?_
  refine wp_mono (Gk (w0:=W) eF code _ (λe τ=>some (e,τ)) (h2 _ _) (λp hp b hb=>by cases hb) _ w ⟨af,Y,vu⟩) λe' O w' U=>?_
  obtain⟨di,oP,aC,ρ',E⟩:=U;injection oP with oP;injection oP with k1 k2;subst k1 k2;have Jy:ρ' g = .bJ us:=E.fix g _ (aV rfl);let fZ:=bK ρ' g ((w0.F g).getD (.aD 0 0))
  have F0:∀r,r≠g->fZ r=ρ' r:=λr hr=>cz _ _ _ hr
  obtain⟨Al,We,lR⟩:=Jo (w0:=W) (N:=M) _ _ qZ;injection We with We;subst We;obtain⟨Z,fJ,hlen,lS⟩:=lR aC ρ' O w' E;have anZ:(fn.results.mapM (ug O.tmps)).run P w' = .ok Z.toArray w':=by
   rw[Array.mapM_eq_mapM_toList];simp[fJ]
  have lU:results fn O.tmps=(do let Z <-fn.results.mapM (ug O.tmps);pure (if h:Z.size=1 then Z[0]else .tuple Z)):=by
   unfold results;congr 1
  have hRf:Rl w0 N aC fZ ⟨λj=>((ys.map (A.drop g))[j]?).getD .undef,(di.drop g).m⟩ a w':=by
   refine⟨⟨E.below.os,E.below.tape,E.below.output,E.below.size,E.below.block⟩,E.dj,λr x C=>?_,λj=>?_,hR.size,hR.defers,λr l hr=>?_,hR.cT⟩
   ·have C:(bif Nat.beq r g then none else (di.m r).map (aU.drop g))=some x:=C;cases hb:Nat.beq r g with
    |true=>rw[hb]at C;cases C
    | false=>
     have D:r≠g:=by rintro rfl;simp at hb
     rw[hb,ax]at C;cases hm:di.m r with
     |none=>rw[hm]at C;cases C
     | some y=>
      rw[hm]at C;injection C with C;subst C;exact(E.root r y hm).fY F0 D
   ·show RA w' w0.heap.size aC fZ (((ys.map (A.drop g))[j]?).getD .undef) _;rw[List.ac9];cases hyj:ys[j]? with
    |none=>trivial
    | some y=>
     have fk:=E.root g _ hy;generalize T:aU.gh ys=z at fk;cases fk with
     |aD=>cases T
     |sl=>cases T
     |mp=>cases T
     | gh Nb xs' Ap hx3=>
      injection T with T;subst T;rw[Jy]at Ap;injection Ap with Ap;subst Ap;have:=hx3 j y hyj;rw[oK]at this;exact this.fY F0
   ·by_cases D:r=g
    ·subst D;show bK ρ' r ((w0.F r).getD (.aD 0 0)) r=l;rw[bT,hr];rfl
    ·rw[F0 r D];exact E.fix r l ((aX D).trans hr)
  have fin:O.defers=[]/\∃ v,(results fn O.tmps).run P w' = .ok v w'/\∃ Cc aC ρ',Ending.returned v=Ending.returned Cc/\Rl w0 N aC ρ' ⟨λj=>((ys.map (A.drop g))[j]?).getD .undef,(di.drop g).m⟩ a w'/\RA w' w0.heap.size aC ρ' (D5 g Al) Cc:=
   ⟨E.defers,_,by rw[lU,gW,anZ,nQ,Sem.run_pure],_,aC,fZ,rfl,hRf,RP.D5 F0 hlen lS⟩
  rcases hex with rfl|rfl
  ·exact fin
  ·exact fin
end
def xB:Nat:=1000000000
def stays(n:Nat):Bool:=Nat.ble 20000 (n % xB)
def an0:60000<=xB:=cH rfl
def tC(n:Nat):Nat:=bif stays n then n else n+xB
def Ce(n:Nat):ah Nat:=bif stays n then some n else bif Nat.ble xB n && !stays (n-xB)then some (n-xB)else none
def nD:aa Nat->aa Nat
 |[]=>[]
 |[r]=>[tC r]
 |x::y::k=>x::nD (y::k)
def Lf.up:Lf->Lf
 |.v x=>.v x
 |.own k=>.own (nD k)
 |.dead=>.dead
def A.up:A->A
 |.undef=>.undef
 |.skip=>.skip
 |.lf x=>.lf x.up
 |.agg cs=>.agg (cs.map Lf.up)
 |.fX xs=>.fX (xs.map λp=>(p.1,p.2.map Lf.up))
 |.ptr k=>.ptr (nD k)
 |.aL r j=>.aL (tC r) j
 |.kG cs=>.kG cs
 |.qf f cs=>.qf f cs
 |.pk r n=>.pk (tC r) n
 |.view k s i j=>.view (nD k) s i j
 |.fn f cap=>.fn f (cap.map λp=>(tC p.1,p.2))
def aU.up:aU->aU
 |.aD cs=>.aD (cs.map Lf.up)
 |.sl y=>.sl y
 |.mp l=>.mp l
 |.gh xs=>.gh (xs.map A.up)
def S.up(σ:S):S:=⟨λk=>(σ.t k).up,λn=>match Ce n with
 |some r=>(σ.m r).map aU.up
 |none=>none⟩
def upI(c:xq):xq:=⟨λX N σ xs k=>c.run X N σ.up (xs.map A.up) λC y=>k C.up y.up⟩
section
variable {P:Program} {w w':World} {w0:Wd} {B N:Nat} {af aC:bB} {ρ ρ':Nat->Loc} {σ:S} {a:Act} {X:Type}
def an1(r:Nat):Ce (tC r)=some r:=by
 unfold Ce tC;cases h:stays r with
 |true=>simp_all
 | false=>
  have C:stays (r+xB)=false:=by
   unfold stays at h ⊢;simp_all
  have D:Nat.ble xB (r+xB)=true:=jI (Nat.le_add_left _ _);simp[*]
def an2{n r:Nat}(h:Ce n=some r):n=tC r:=by
 unfold Ce at h;cases D:stays n with
 | true=>
  rw[D]at h;injection h with h;subst h;simp[tC,D]
 | false=>
  rw[D,ax]at h;cases C:(Nat.ble xB n && !stays (n-xB))with
  |false=>simp_all
  | true=>
   rw[C]at h;have h:=Option.some.inj h;rw[aH]at C;have I:=cH C.1;have E:stays r=false:=by rw[<- h];simpa using C.2
   simp[tC,E,ax];omega
def o6(af:bB):bB:=λb=>(af b).map nD
def yW(ρ:Nat->Loc):Nat->Loc:=λn=>match Ce n with
 |some r=>ρ r
 |none=>ρ n
def D7(r:Nat):yW ρ (tC r)=ρ r:=by unfold yW;rw[an1]
def an3{k:aa Nat}(h:k≠[]):nD k≠[]:=by
 match k with
 |[r]=>simp[nD]
 |x::y::k=>simp[nD]
def Gv{x:Nat}{k:aa Nat}(h:k≠[]):nD (x :: k)=x :: nD k:=by
 match k with
 |[]=>exact absurd rfl h
 |y::k=>rfl
def ada(x y:Nat)(k:aa Nat):∃ C D,nD (x :: y :: k)=x :: C :: D:=by
 match k with
 |[]=>exact⟨_,_,rfl⟩
 |z::k=>exact⟨y,_,rfl⟩
def Wf:∀ (k:aa Nat) (ad:Addr),addrAt w af ρ k=some ad -> addrAt w (o6 af) (yW ρ) (nD k)=some ad
 |[],_,h=>by simp[addrAt]at h
 | [j,i,s,r],ad,h=>by
  simp only[addrAt]at h;simp only[nD,addrAt,D7];split at h
  ·rename_i b n c C;split at h
   next hl=>rw[aV (by simp[o6,hl,nD])];exact h
   ·cases h
  ·cases h
 | j :: i :: s :: x :: y :: q,ad,h=>by
  simp only[addrAt]at h;split at h
  ·rename_i b n c C;split at h
   ·rename_i hl;cases D:addrAt w af ρ (x :: y :: q)with
    |none=>simp_all
    | some I=>
     have E:=Wf (x::y::q) I D;have e:o6 af b=some (nD (x::y::q)):=by simp[o6,hl]
     rw[Gv (by simp),Gv (by simp),Gv (by simp)];rw[D]at C;obtain⟨T,U,O⟩:=ada x y q;rw[O]at E e ⊢;simp only[addrAt,E,C,e,if_true];exact h
   ·cases h
  ·cases h
def adb{k:aa Nat}{u:Value}(h:de w af ρ k=some u):de w (o6 af) (yW ρ) (nD k)=some u:=by
 match k with
 | [r]=>
  simp[nD,de,D7];exact h
 | x :: y :: k=>
  simp[de]at h;cases C:addrAt w af ρ _ with
  |none=>rw[C]at h;cases h
  | some ad=>
   have:=Wf _ _ C;obtain⟨E,I,D⟩:=ada x y k;rw[D]at this ⊢;simp[de,this];simp_all
def Wg{b:Nat}(h:af b=none):o6 af b=none:=by simp[o6,h]
def RV.up(D:∀ b k,af b=some k->k≠[]){k:aa Nat}{x:V}{v:Value}(h:RV w B af k x v):RV w B (o6 af) (nD k) x v:=
 h.map (Q:=λk C=>C=nD k) (dg _) (λb _ h=>⟨rfl,Wg h⟩) (λb k C _ hl e=>by
  subst e;exact⟨rfl,by simp[o6,hl],λj i s=>by rw[Gv (by simp),Gv (by simp),Gv (D b k hl)]⟩) (.inr rfl)
def eE.up(C:∀ b k,af b=some k->k≠[]){x:Lf}{u:Value}(h:eE w B af ρ x u):eE w B (o6 af) (yW ρ) x.up u:=by
 cases x with
 |v x=>exact⟨h.1,RV.up C h.2⟩
 |own k=>exact⟨h.1,adb h.2⟩
 |dead=>trivial
def fG.up(E:∀ b k,af b=some k -> k≠[]){cs:aa Lf}{us:Array Value}(h:fG w B af ρ cs us):fG w B (o6 af) (yW ρ) (cs.map Lf.up) us:=by
 refine⟨by rw[fN];exact h.1,λj x C=>?_⟩
 rw[fz]at C;cases D:cs[j]? with
 |none=>simp_all
 | some z=>
  rw[D]at C;injection C with C;subst C;obtain⟨u,I,O⟩:=h.2 j z D;exact⟨u,I,O.up E⟩
def RP.up(C:∀ b k,af b=some k->k≠[]){p:Bool×aa Lf}{u:Value}(h:RP w B af ρ p u):RP w B (o6 af) (yW ρ) (p.1,p.2.map Lf.up) u:=by
 obtain⟨b,cs⟩:=p;cases b with
 | true=>
  obtain⟨us,rfl,h⟩:=h;exact⟨us,rfl,fG.up C h⟩
 |false=>exact fG.up C h
def RA.up(I:∀ b k,af b=some k -> k≠[]){x:A}{u:Value}(h:RA w B af ρ x u):RA w B (o6 af) (yW ρ) x.up u:=by
 cases x with
 |undef=>trivial
 |skip=>exact h
 |lf x=>exact eE.up I h
 |agg cs=>exact RP.up I (p:=(true,cs)) h
 | fX xs=>
  obtain⟨us,rfl,D,E⟩:=h
  refine⟨us,rfl,by rw[fN];exact D,λj p C=>?_⟩
  rw[fz]at C;cases O:xs[j]? with
  |none=>simp_all
  | some z=>
   rw[O]at C;injection C with C;subst C;obtain⟨v,T,U⟩:=E j z O;exact⟨v,T,U.up I⟩
 | ptr k=>
  obtain⟨ad,rfl,h⟩:=h;exact⟨ad,rfl,Wf _ _ h⟩
 | aL r j=>
  obtain⟨b,off,D,E⟩:=h;exact⟨b,off,(D7 r).trans D,E⟩
 | kG cs=>
  obtain⟨b,off,Y,Z,g3,g4⟩:=h
  refine⟨b,off,Y,Z,Wg g3,λj x hx=>?_⟩
  obtain⟨f1,v,f2,f3⟩:=g4 j x hx;exact⟨f1,v,f2,RV.up I f3⟩
 | qf f cs=>
  obtain⟨pv,e0,h⟩:=h;refine⟨pv,e0,?_⟩;obtain⟨b,off,Y,Z,g3,g4⟩:=h
  refine⟨b,off,Y,Z,Wg g3,λj x hx=>?_⟩
  obtain⟨f1,v,f2,f3⟩:=g4 j x hx;exact⟨f1,v,f2,RV.up I f3⟩
 | pk r n=>
  obtain⟨b,D,E⟩:=h;exact⟨b,(D7 r).trans D,E⟩
 | view k s i j=>
  obtain⟨A,n,c,D,E⟩:=h;exact⟨A,n,c,adb D,E⟩
 | fn f cap=>
  obtain⟨vs,rfl,D,E⟩:=h
  refine⟨vs,rfl,by rw[fN];exact D,λj p C=>?_⟩
  rw[fz]at C;cases O:cap[j]? with
  |none=>simp_all
  | some z=>
   rw[O]at C;injection C with C;subst C;obtain⟨b,off,T,U⟩:=E j z O;exact⟨b,off,(D7 _).trans T,U⟩
def eV.up(U:∀ b k,af b=some k -> k≠[]){r:Nat}{x:aU}(h:eV w B af ρ r x):eV w B (o6 af) (yW ρ) (tC r) x.up:=by
 have T:=D7 (ρ:=ρ) r;have hl:∀{b},af b=some [r] -> o6 af b=some [tC r]:=λh=>by simp[o6,h,nD]
 cases h with
 | aD b off cells e cs us C I Y hs Z=>
  refine .aD b off cells e _ us (T.trans C) (hl I) Y (by rw[fN];exact hs) λj x D=>?_
  rw[fz]at D;cases E:cs[j]? with
  |none=>simp_all
  | some z=>
   rw[E]at D;injection D with D;subst D;exact⟨(Z j z E).1,(Z j z E).2.up U⟩
 |sl v y C I=>exact .sl v y (T.trans C) (RV.up U I)
 |mp b c es l C I Y he=>exact .mp b c es l (T.trans C) (hl I) Y he
 | gh us xs C D=>
  refine .gh us _ (T.trans C) λj x O=>?_
  rw[fz]at O;cases E:xs[j]? with
  |none=>simp_all
  | some z=>
   rw[E]at O;injection O with O;subst O;exact RA.up U (D j z E)
def Rl.up(h:Rl w0 N af ρ σ a w):Rl w0 N (o6 af) (yW ρ) σ.up a w:=by
 have T:=λb k D=>(h.dj b k D).2.2
 refine⟨h.below,λb k D=>?_,λn x C=>?_,λk=>RA.up T (h.tmp k),h.size,h.defers,λr l E=>?_,h.cT⟩
 ·unfold o6 at D;cases hl:af b with
  |none=>simp_all
  | some q=>
   rw[hl]at D;injection D with D;obtain⟨I,O,Y⟩:=h.dj b q hl;exact⟨I,O,by rw[<- D];exact an3 Y⟩
 ·have C:(match Ce n with | some r=>(σ.m r).map _ | none=>none)=some x:=C;cases U:Ce n with
  |none=>simp_all
  | some r=>
   rw[U]at C;have C:(σ.m r).map _=some x:=C;cases hm:σ.m r with
   |none=>simp_all
   | some y=>
    rw[hm]at C;injection C with C;subst C;rw[an2 U];exact(h.root r y hm).up T
 ·have Z:stays r=true:=by
   have I:20000 <= r:=Nat.le_of_not_lt λdA=>by rw[w0.low r dA]at E;cases E
   have O:r<60000:=Nat.lt_of_not_le λhle=>by rw[h.cT r (.inr hle)]at E;cases E
   unfold stays;rw[Nat.mod_eq_of_lt (Nat.lt_of_lt_of_le O an0)];exact jI I
  have hu:tC r=r:=by simp[tC,Z]
  have:=D7 (ρ:=ρ) r;rw[hu]at this;rw[this];exact h.fix r l E
def an4{f:Nat}{c:xq}(h:uo P f c):uo P f (upI c):=by
 refine⟨λN σ xs X Y k g=>h.1 N σ.up (xs.map A.up) X Y _ g,λN σ xs τ z I w0 af ρ a w bJ hR O T=>?_⟩
 obtain⟨U,y,C,Z⟩:=(h.1 N σ.up (xs.map A.up)).nZ I;injection C with C;injection C with h4 h5;subst h4 h5;have h3:=h.2 N σ.up (xs.map A.up) U y (Z _ _);have bQ:∀b k,af b=some k->k≠[]:=λb k D=>(hR.dj b k D).2.2
 refine(h3 w0 _ _ a w bJ hR.up (by rw[fN];exact O) λi=>?_).mono λe w' hp=>?_
 ·rw[fz];have:=T i;cases hx:xs[i]? with
  |none=>trivial
  | some x=>
   rw[hx]at this;exact RA.up bQ this
 ·obtain⟨v,aC,ρ',he,E,hy⟩:=hp;exact⟨v,_,_,he,E.up,RA.up (λb k D=>(E.dj b k D).2.2) hy⟩
end
def bC:Nat:=4611686018427387904
def Cf(c:Code)(id:Nat):Code:=match (occs c).lookup id with
 |some (.loop b)=>b
 |_=>.skip
def bG(fn:Func):Code:=fn.body.getD .skip
def oe(l:aa (Nat×tv)):fo:=λf=>l.lookup f
def D8(P:Program):aa (Nat×tv)->Prop
 |[]=>True
 |(f,c)::l=>(enters P f/\UI P f c)/\D8 P l
def xD{P:Program}:∀ (l:aa (Nat×tv)),D8 P l -> gL P (oe l)
 |[],_=>λf c h=>by cases h
 | (f',E) :: l,⟨I,D⟩=>λf c h=>by
  have C:List.lookup f _=some c:=h;rw[List.lookup_cons]at C;split at C
  ·simp_all
  ·exact xD l D f c C
def lG(l:aa (Nat×vA)):oW:=λid=>l.lookup id
def Wh(P:Program)(N:Nat)(code:Code):aa (Nat×vA)->Prop
 |[]=>True
 |(id,b)::l=>(∃c,(occs code).lookup id=some c/\DW P N (.block id c) b)/\Wh P N code l
def ids(l:aa (Nat×Code)):Bool:=(l.map (·.1)).all λi=>Nat.beq ((l.filter λp=>Nat.beq p.1 i).length) 1
def ade:∀ (l:aa (Nat×Code)) (p:Nat×Code),(∀ q∈l,q.1=p.1 -> q=p) -> p∈l -> l.lookup p.1=some p.2
 |[],p,_,h=>by cases h
 | q :: l,p,C,h=>by
  rw[List.lookup_cons];by_cases D:p.1=q.1
  ·simp_all
  ·have hb:(p.1==q.1)=false:=by simpa using D
   rw[hb];rcases ig.1 h with rfl|h
   ·simp_all
   ·exact ade l p (λq E=>C q (.tail _ E)) h
def an5{l:aa (Nat×Code)}(h:ids l=true){p q:Nat×Code}(D:p∈l)(E:q∈l)(I:q.1=p.1):q=p:=by
 have C:=cm.1 h p.1 (List.mem_map_of_mem D);have C:=c8 C;have O:p∈l.filter λr=>Nat.beq r.1 p.1:=List.mem_filter.2 ⟨D,by simp⟩
 have T:q∈l.filter λr=>Nat.beq r.1 p.1:=List.mem_filter.2 ⟨E,by simp[I]⟩
 obtain⟨z,U⟩:=List.length_eq_one_iff.1 C
 grind
def Wi{P:Program}{N:Nat}{code:Code}(hi:ids (occs code)=true):∀ (l:aa (Nat×vA)),Wh P N code l -> sn P N (lG l) (occs code)
 |[],_=>λp D b h=>by cases h
 | (id,b') :: l,⟨⟨c,T,U⟩,I⟩=>λp D b h=>by
  have C:List.lookup p.1 _=some b:=h;rw[List.lookup_cons]at C;split at C
  ·rename_i E;have E:p.1=id:=by simpa using E
   injection C with C;subst C;have:=ade _ p (λq O e=>an5 hi D O e) D;simp_all
  ·exact Wi hi l I p D b C
def uF{P:Program}{N:Nat}{l:aa (Nat×Code)}:sn P N (lG []) l:=λp C b h=>by cases h
def ci(P:Program)(fn:Func)(C:Nat)(l:aa (Nat×tv)):xq:=ac6 P fn.ntmps (59000+C) (oe l) (bG fn) fn.results
def Kl{P:Program}{f:Nat}{fn:Func}(C:Nat)(l:aa (Nat×tv))(D:P.funcs[f]?=some fn)(hl:D8 P l)(hb:fn.body=some (bG fn):=by kernel_rfl)(E:Nat.ble fn.ntmps 20000=true:=by kernel_rfl)(I:Nat.ble C 900=true:=by kernel_rfl)(O:(fn.name == "runtime.NumGoroutine")=false:=by kernel_rfl):enters P f/\uo P f (ci P fn C l):=
 anY D hb rfl (cH E) O ⟨by omega,by have:=cH I;omega⟩ (xD l hl)
def cj(P:Program)(fn:Func)(C:Nat)(l:aa (Nat×tv)):xq:=upI (ci P fn C l)
def ON{P:Program}{f:Nat}{fn:Func}{C:Nat}{l:aa (Nat×tv)}(h:enters P f/\uo P f (ci P fn C l)):enters P f/\uo P f (cj P fn C l):=⟨h.1,an4 h.2⟩
def OO{P:Program}{f:Nat}{fn:Func}{ai:aa (Bool×TC)}{ro:aa (Bool×TC×Nat)}{F:mH ai->ah (jN ro)}(N:Nat)(l:aa (Nat×tv))(b:aa (Nat×vA))(C:P.funcs[f]?=some fn)(hl:D8 P l)(D:sn P N (lG b) (occs (bG fn)))(E:∀x,tA P N (oe l) (lG b) (bG fn) fn.results (iy ai x) (n9 ro)=F x)(hb:fn.body=some (bG fn):=by kernel_rfl)(I:fn.ntmps=N:=by kernel_rfl)(O:(fn.name == "runtime.NumGoroutine")=false:=by kernel_rfl)(T:Nat.ble ai.length N=true:=by kernel_rfl)(U:od ro=true:=by kernel_rfl):enters P f/\jZ P f (jB ai ro F):=anN C hb I O T U (xD l hl) D E
def D9{P:Program}{f:Nat}{fn:Func}{t:TC}{g:Nat}{F:aa (T t)->ah (aa (T t))}(N:Nat)(l:aa (Nat×tv))(b:aa (Nat×vA))(C:P.funcs[f]?=some fn)(hl:D8 P l)(D:sn P N (lG b) (occs (bG fn)))(E:∀ x:aa (T t),tA P N (oe l) (lG b) (bG fn) fn.results [(false,[.sl t 0 false x])] (n9 [(false,.sl t,g)])=F x)
  (I:tA P N (oe l) (lG b) (bG fn) fn.results [(false,[.nil])] (n9 [(false,.sl t,g)])=some ([]:aa (T t)):=by kernel_rfl) (O:tA P N (oe l) (lG b) (bG fn) fn.results [(false,[.sl t 0 true []])] (n9 [(false,.sl t,g)])=some ([]:aa (T t)):=by kernel_rfl)
  (hb:fn.body=some (bG fn):=by kernel_rfl) (U:fn.ntmps=N:=by kernel_rfl) (Y:(fn.name == "runtime.NumGoroutine")=false:=by kernel_rfl) (Z:Nat.ble 1 N=true:=by kernel_rfl) (fk:od [(false,.sl t,g)]=true:=by kernel_rfl):enters P f/\jZ P f (jB [(false,.sl t)] [(false,.sl t,g)] λx=>bif lz x.1 then some ([]:aa (T t))else F x.1):=anO C hb U Y Z fk (xD l hl) D E I O
def adf{P:Program}{id:Nat}{body:Code}{C:bN}{D:aa (Nat×bN)}{F:C.St->ah (C.St⊕xx D)}{fuel:C.St->Nat}(N:Nat)(l:aa (Nat×tv))(b:aa (Nat×vA))(hl:D8 P l)(E:sn P N (lG b) (occs body))(I:∀x,Gr P N (oe l) (lG b) body C D x=F x):DW P N (.block id (.loop body)) (OC id C D F fuel):=anJ (xD l hl) E I
abbrev W6 (x:Int):Int:=IntKind.i64.wrap x
/-! Words for what printed functions say often. -/
def xI{α β:Type}(l:aa α)(i:Int)(k:α->ah β):ah β:=if h:0<=i/\i.toNat<l.length then (let e:=l[i.toNat]'h.2;k e)else none
def xC{α β:Type}(l:aa α)(i:Int)(k:ah β):ah β:=if h:0<=i/\i.toNat<l.length then k else none
def xM{α β:Type}(l:aa α)(i:Int)(k:α->ah β):ah β:=if h:i.toNat<l.length then (let e:=l[i.toNat]'h;k e)else none
def xL{α β:Type}(l:aa α)(i:Int)(k:α->ah β):ah β:=if h:0<=i/\i.toNat<l.length then (if h:i.toNat<l.length then (let e:=l[i.toNat]'h;k e)else none)else none
def xZ{α:Type}(l:aa α):Bool:=cB (([]:aa α).length+l.length)
def xA{α:Type}(l:aa α):aa α:=([]:aa α)++l
def bZ{S A C:Type}(L:S->ah (S⊕(A⊕Empty)))(s:S)(f:A->ah C):ah C:=(iter L bC s).bind (Sum.elim f (λz=>nomatch z))
def dI{S A B C:Type}(L:S->ah (S⊕(A⊕(B⊕Empty))))(s:S)(f:A->ah C)(g:B->ah C):ah C:=(iter L bC s).bind (Sum.elim f (Sum.elim g (λz=>nomatch z)))
def xG{S E:Type}(s:S):ah (S⊕E):=some (.inl s)
def aM{S A E:Type}(v:A):ah (S⊕(A⊕E)):=some (.inr (.inl v))
def bU{S A B E:Type}(v:B):ah (S⊕(A⊕(B⊕E))):=some (.inr (.inr (.inl v)))
abbrev tI:Tm:=.lf (.int .i64)
abbrev tB:Tm:=.lf (.bool)
structure KC (P:Program) where
 f:Nat
 c:tv
 ok:enters P f/\UI P f c
def KL{P:Program}(l:aa (KC P)):aa (Nat×tv):=l.map λk=>(k.f,k.c)
def xE{P:Program}:∀ l:aa (KC P),D8 P (KL l)
 |[]=>trivial
 |k::l=>⟨k.ok,xE l⟩
structure BK (P:Program) (N:Nat) (code:Code) where
 id:Nat
 b:vA
 ok:DW P N (.block id (.loop (Cf code id))) b
section
variable {P:Program} {f N:Nat} {fn:Func} {code:Code}
def BL(l:aa (BK P N code)):aa (Nat×vA):=l.map λk=>(k.id,k.b)
def BC(l:aa (BK P N code)):aa (ah Code):=l.map λk=>(occs code).lookup k.id
def BD(l:aa (BK P N code)):aa (ah Code):=l.map λk=>some (.loop (Cf code k.id))
def adg:∀ l:aa (BK P N code),BC l=BD l -> Wh P N code (BL l)
 |[],_=>trivial
 | k :: l,h=>by
  unfold BC BD at h;injection h with C D;exact⟨⟨_,C,k.ok⟩,adg l D⟩
def BT(l:aa (BK P N code))(C:BC l=BD l)(hi:ids (occs code)=true):sn P N (lG (BL l)) (occs code):=Wi hi _ (adg l C)
def lB(id:Nat)(C:bN)(D:aa (Nat×bN))(F:C.St->ah (C.St⊕xx D)):vA:=OC id C D F λ_=>bC
def lp{body:Code}{id:Nat}{C:bN}{D:aa (Nat×bN)}{F:C.St->ah (C.St⊕xx D)}(l:aa (KC P))(E:∀x,Gr P N (oe (KL l)) (lG []) body C D x=F x:=by intro x;kernel_rfl):DW P N (.block id (.loop body)) (lB id C D F):=adf N (KL l) [] (xE l) uF E
def lq{id:Nat}{C:bN}{D:aa (Nat×bN)}{F:C.St->ah (C.St⊕xx D)}(l:aa (KC P))(b:aa (BK P N code))(E:BC b=BD b:=by kernel_rfl)(hi:ids (occs code)=true:=by kernel_rfl)(I:∀x,Gr P N (oe (KL l)) (lG (BL b)) code C D x=F x:=by intro x;kernel_rfl):DW P N (.block id (.loop code)) (lB id C D F):=adf N (KL l) (BL b) (xE l) (BT b E hi) I
def kp{ai:aa (Bool×TC)}{ro:aa (Bool×TC×Nat)}{F:mH ai->ah (jN ro)}(N:Nat)(l:aa (KC P))(C:P.funcs[f]?=some fn)(D:∀x,tA P N (oe (KL l)) (lG []) (bG fn) fn.results (iy ai x) (n9 ro)=F x:=by intro x;kernel_rfl)(hb:fn.body=some (bG fn):=by kernel_rfl)(E:fn.ntmps=N:=by kernel_rfl)(I:(fn.name == "runtime.NumGoroutine")=false:=by kernel_rfl)(O:Nat.ble ai.length N=true:=by kernel_rfl)(T:od ro=true:=by kernel_rfl):enters P f/\jZ P f (jB ai ro F):=OO N (KL l) [] C (xE l) uF D hb E I O T
def kq{ai:aa (Bool×TC)}{ro:aa (Bool×TC×Nat)}{F:mH ai->ah (jN ro)}(N:Nat)(l:aa (KC P))(b:aa (BK P N (bG fn)))(C:P.funcs[f]?=some fn)(D:BC b=BD b:=by kernel_rfl)(hi:ids (occs (bG fn))=true:=by kernel_rfl)(E:∀x,tA P N (oe (KL l)) (lG (BL b)) (bG fn) fn.results (iy ai x) (n9 ro)=F x:=by intro x;kernel_rfl)(hb:fn.body=some (bG fn):=by kernel_rfl)(I:fn.ntmps=N:=by kernel_rfl)(O:(fn.name == "runtime.NumGoroutine")=false:=by kernel_rfl)(T:Nat.ble ai.length N=true:=by kernel_rfl)(U:od ro=true:=by kernel_rfl):enters P f/\jZ P f (jB ai ro F):=OO N (KL l) (BL b) C (xE l) (BT b D hi) E hb I O T U
def km{ps:aa PK}{ro:aa (Bool×TC×Nat)}{F:ni ps->ah (jN ro×uj (fF ps))}(N:Nat)(l:aa (KC P))(C:P.funcs[f]?=some fn)(D:∀x,D4 P N (oe (KL l)) (lG []) (bG fn) fn.results (qq ps x) (lV ps 0 x) (Gt (fF ps) ro)=F x:=by intro x;kernel_rfl)(hb:fn.body=some (bG fn):=by kernel_rfl)(E:fn.ntmps=N:=by kernel_rfl)(I:(fn.name == "runtime.NumGoroutine")=false:=by kernel_rfl)(O:Nat.ble ps.length N=true:=by kernel_rfl)(T:Nat.ble N 20000=true:=by kernel_rfl)(U:od ro=true:=by kernel_rfl):enters P f/\yJ P f ⟨ps,ro,F⟩:=OH C hb E I O T U (xD _ (xE l)) uF D
def kn{ps:aa PK}{ro:aa (Bool×TC×Nat)}{F:ni ps->ah (jN ro×uj (fF ps))}(N:Nat)(l:aa (KC P))(b:aa (BK P N (bG fn)))(C:P.funcs[f]?=some fn)(D:BC b=BD b:=by kernel_rfl)(hi:ids (occs (bG fn))=true:=by kernel_rfl)(E:∀x,D4 P N (oe (KL l)) (lG (BL b)) (bG fn) fn.results (qq ps x) (lV ps 0 x) (Gt (fF ps) ro)=F x:=by intro x;kernel_rfl)(hb:fn.body=some (bG fn):=by kernel_rfl)(I:fn.ntmps=N:=by kernel_rfl)(O:(fn.name == "runtime.NumGoroutine")=false:=by kernel_rfl)(T:Nat.ble ps.length N=true:=by kernel_rfl)(U:Nat.ble N 20000=true:=by kernel_rfl)(Y:od ro=true:=by kernel_rfl):enters P f/\yJ P f ⟨ps,ro,F⟩:=OH C hb I O T U Y (xD _ (xE l)) (BT b D hi) E
def bX(ai:aa (Bool×TC))(ro:aa (Bool×TC×Nat))(F:mH ai->ah (jN ro))(N:Nat)(l:aa (KC P))(C:P.funcs[f]?=some fn)(D:∀x,tA P N (oe (KL l)) (lG []) (bG fn) fn.results (iy ai x) (n9 ro)=F x:=by intro x;kernel_rfl)(hb:fn.body=some (bG fn):=by kernel_rfl)(E:fn.ntmps=N:=by kernel_rfl)(I:(fn.name == "runtime.NumGoroutine")=false:=by kernel_rfl)(O:Nat.ble ai.length N=true:=by kernel_rfl)(T:od ro=true:=by kernel_rfl):KC P:=⟨f,.p (jB ai ro F),OO N (KL l) [] C (xE l) uF D hb E I O T⟩
def dV(ai:aa (Bool×TC))(ro:aa (Bool×TC×Nat))(F:mH ai->ah (jN ro))(N:Nat)(l:aa (KC P))(b:aa (BK P N (bG fn)))(C:P.funcs[f]?=some fn)(D:BC b=BD b:=by kernel_rfl)(hi:ids (occs (bG fn))=true:=by kernel_rfl)(E:∀x,tA P N (oe (KL l)) (lG (BL b)) (bG fn) fn.results (iy ai x) (n9 ro)=F x:=by intro x;kernel_rfl)(hb:fn.body=some (bG fn):=by kernel_rfl)(I:fn.ntmps=N:=by kernel_rfl)(O:(fn.name == "runtime.NumGoroutine")=false:=by kernel_rfl)(T:Nat.ble ai.length N=true:=by kernel_rfl)(U:od ro=true:=by kernel_rfl):KC P:=⟨f,.p (jB ai ro F),OO N (KL l) (BL b) C (xE l) (BT b D hi) E hb I O T U⟩
def qx(ps:aa PK)(ro:aa (Bool×TC×Nat))(F:ni ps->ah (jN ro×uj (fF ps)))(N:Nat)(l:aa (KC P))(C:P.funcs[f]?=some fn)(D:∀x,D4 P N (oe (KL l)) (lG []) (bG fn) fn.results (qq ps x) (lV ps 0 x) (Gt (fF ps) ro)=F x:=by intro x;kernel_rfl)(hb:fn.body=some (bG fn):=by kernel_rfl)(E:fn.ntmps=N:=by kernel_rfl)(I:(fn.name == "runtime.NumGoroutine")=false:=by kernel_rfl)(O:Nat.ble ps.length N=true:=by kernel_rfl)(T:Nat.ble N 20000=true:=by kernel_rfl)(U:od ro=true:=by kernel_rfl):KC P:=⟨f,.m ⟨ps,ro,F⟩,OH C hb E I O T U (xD _ (xE l)) uF D⟩
def Gw(ps:aa PK)(ro:aa (Bool×TC×Nat))(F:ni ps->ah (jN ro×uj (fF ps)))(N:Nat)(l:aa (KC P))(b:aa (BK P N (bG fn)))(C:P.funcs[f]?=some fn)(D:BC b=BD b:=by kernel_rfl)(hi:ids (occs (bG fn))=true:=by kernel_rfl)(E:∀x,D4 P N (oe (KL l)) (lG (BL b)) (bG fn) fn.results (qq ps x) (lV ps 0 x) (Gt (fF ps) ro)=F x:=by intro x;kernel_rfl)(hb:fn.body=some (bG fn):=by kernel_rfl)(I:fn.ntmps=N:=by kernel_rfl)(O:(fn.name == "runtime.NumGoroutine")=false:=by kernel_rfl)(T:Nat.ble ps.length N=true:=by kernel_rfl)(U:Nat.ble N 20000=true:=by kernel_rfl)(Y:od ro=true:=by kernel_rfl):KC P:=⟨f,.m ⟨ps,ro,F⟩,OH C hb I O T U Y (xD _ (xE l)) (BT b D hi) E⟩
def xU0{A R:Type}(F:R)(_:A):R:=F
def cR{A Z R:Type}(F:A->R)(x:A×Z):R:=F x.1
def dH{A B Z R:Type}(F:A->B->R)(x:A×B×Z):R:=F x.1 x.2.1
def jC{A B C Z R:Type}(F:A->B->C->R)(x:A×B×C×Z):R:=F x.1 x.2.1 x.2.2.1
def Cg{A B C D Z R:Type}(F:A->B->C->D->R)(x:A×B×C×D×Z):R:=F x.1 x.2.1 x.2.2.1 x.2.2.2.1
def OP{A B C D E Z R:Type}(F:A->B->C->D->E->R)(x:A×B×C×D×E×Z):R:=F x.1 x.2.1 x.2.2.1 x.2.2.2.1 x.2.2.2.2.1
end
end Go.Proofs.YthmgjjfedieljaaGreat
