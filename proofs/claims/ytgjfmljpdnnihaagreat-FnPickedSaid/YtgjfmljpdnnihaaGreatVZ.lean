/-
  Running the program over pure contents, and that it follows (part Z). Nothing here is a claim.
-/
import Derived.Test.YtgjfmljpdnnihaaGreatV4
set_option linter.unusedSimpArgs false
namespace Go.Proofs.YtgjfmljpdnnihaaGreat
set_option linter.defProp false
open Go.RowKit
set_option linter.unusedVariables false
section
variable {P:Program} {w w':World} {w0:Wd} {B N:Nat} {ah aD:bE} {ρ ρ':Nat->Loc} {σ:S} {a:Act} {X:Type} {d:Nat} {r:X} {o:Oper} {Φ:ep} {Λ:mM}
def apa{E:aj Tmp}{g:Bool}{k:S -> aj X}(h:sD σ E g k=some r):∃ C,k C=some r /\ ∀ a w,R w0 N σ a w -> R w0 N C a w:=by
 unfold sD at h;cases g with
 |false=>grind
 | true=>
  rw[aq]at h;split at h
  ·rename_i d;split at h
   ·rename_i b hb;have key:∀ c:Bool,b=c -> ∀ a w,R w0 N σ a w -> R w0 N (σ.set d (.lf (.v (.bool c)))) a w:=by
     rintro c rfl a w ⟨ah,ρ,hR⟩
     refine⟨ah,ρ,hR.below,hR.cX,hR.root,λk=>?_,hR.size,hR.defers,hR.fix,hR.dj⟩
     show RA w w0.heap.size ah ρ (bV σ.t d (.lf (.v (.bool b))) k) _;by_cases D:k=d
     ·subst D;rw[cc,<- hb];exact hR.tmp k
     ·rw[cH _ _ _ D];exact hR.tmp k
    grind
   ·grind
  ·grind
def Nw(T:fL P Φ)(ops:Array Oper):∀ (rest:aa Oper) (j:Nat) (σ:S) (k:S -> aj X),BA P N Φ ops j rest σ k=some r -> ∃ Z,k Z=some r /\ ∀ a w,R w0 N σ a w -> ∀ Q,(∀ E w',R w0 N Z E w' -> Q Exit.normal E w') -> wpList P ops Q rest a w
 |[],j,σ,k,h=>⟨σ,h,λa w hR Q D=>D a w hR⟩
 | o :: rest,j,σ,k,h=>by
  unfold BA at h;split at h
  ·rename_i U;obtain⟨qa,h1,zB⟩:=an5 T h;obtain⟨σ2,h2,uQ⟩:=apa h1;obtain⟨I,L,O⟩:=Nw T ops rest (j+1) σ2 k h2
   refine⟨I,L,λa w hR Q D=>?_⟩
   obtain⟨ah,ρ,C⟩:=hR;simp only[wpList,D7 U C,if_true];exact .inl (zB a w _ Q ⟨ah,ρ,C⟩ λE w' sC=>O E w' (uQ E w' sC) Q D)
  ·rename_i U;unfold gY at h;split at h
   ·rename_i Y;obtain⟨I,L,O⟩:=Nw T ops rest _ σ k h
    refine⟨I,L,λa w hR Q D=>?_⟩
    obtain⟨ah,ρ,C⟩:=hR;simp[wpList,D7 U C,Y];exact O a w ⟨ah,ρ,C⟩ Q D
   ·rename_i d Y;cases hN:Nat.blt d N with
    |false=>simp_all
    | true=>
     rw[hN,aq]at h;obtain⟨I,L,O⟩:=Nw T ops rest (j+1) _ k h
     refine⟨I,L,λa w hR Q D=>?_⟩
     obtain⟨ah,ρ,C⟩:=hR;simp only[wpList,D7 U C,Y];exact O _ w ⟨ah,ρ,C.set rfl (by have:=cK hN;omega)⟩ Q D
  ·cases h
def D8(dQ:fL P Φ):∀ (c:Code) (σ:S) (k:Exit->S->aj X),lH P N Φ Λ c σ k=some r->pq P N Λ (occs c)->AW P w0 N c σ λe D=>k e D=some r:=by
 intro c
 induction c with
 |skip=>exact λσ k h _ a w hR=>wp_skip ⟨σ,h,hR⟩
 |label l=>exact λσ k h _ a w hR=>wp_label ⟨σ,h,hR⟩
 |ret=>exact λσ k h _ a w hR=>wp_ret ⟨σ,h,hR⟩
 |exit id=>exact λσ k h _ a w hR=>wp_exit ⟨σ,h,hR⟩
 | region id ops draw=>
  intro σ k h _ a w hR;cases draw with
  | true=>
   simp only[lH]at h;cases hm:P.follows .mixedOrders with
   |false=>rw[hm]at h;cases h
   | true=>
    rw[hm,aq]at h
    haveI:Inhabited Wd:=⟨w0⟩
    exact ao9 dQ hm h (λτ iU a w hR=>⟨τ,iU,hR⟩) hR
  | false=>
   simp only[lH]at h;obtain⟨D,h',hw⟩:=Nw (w0:=w0) dQ ops _ _ _ _ h;exact wp_region_list (hw a w hR _ λO w' C=>⟨D,h',C⟩)
 | seq x y T U=>
  intro σ k h I a w hR;simp only[lH]at h;have Y:=T σ _ h (λp E=>I p (List.mem_append_left _ E))
  refine wp_seq (wp_mono (Y a w hR) λe O w' Z=>?_)
  obtain⟨D,L,C⟩:=Z;cases e with
  |normal=>exact U D k L (λp E=>I p (List.mem_append_right _ E)) O w' C
  |_=>exact⟨D,L,C⟩
 | cond c x y T U=>
  intro σ k h I a w hR;simp only[lH]at h;split at h
  ·rename_i b hb;obtain⟨ah,ρ,C⟩:=hR;have hc:=C.aK c;rw[hb]at hc;have hcv:=hc.2.yF;cases b with
   |true=>exact wp_cond_true hcv (T σ k h (λp E=>I p (List.mem_append_left _ E)) a w ⟨ah,ρ,C⟩)
   |false=>exact wp_cond_false hcv (U σ k h (λp E=>I p (List.mem_append_right _ E)) a w ⟨ah,ρ,C⟩)
  ·cases h
 | block id c ih=>
  intro σ k h I a w hR;simp only[lH]at h;split at h
  next b hb=>exact I (id,c) (.head _) b hb X σ k r w0 h a w hR
  ·have Y:=ih σ _ h (λp E=>I p (.tail _ E))
   refine wp_block (wp_mono (Y a w hR) λe O w' Z=>?_)
   obtain⟨D,L,C⟩:=Z;cases e with
   | exit id'=>
    simp only[Exit.inBlock];by_cases hid:id'=id
    ·simp only[hid,if_true]at L ⊢;exact⟨D,L,C⟩
    ·simp only[hid,if_false]at L ⊢;exact⟨D,L,C⟩
   |_=>exact⟨D,L,C⟩
 |_=>exact λσ k h=>by simp[lH]at h
end
/-! What a loop carries. -/
inductive Lm where
 |int (k:IntKind)
 |bool
 |str
 |own (r:Nat)
 |aH (t:TC) (o:Nat)
def Lm.T:Lm->Type
 |.int _=>Int
 |.bool=>Bool
 |.str=>ByteArray
 |.own _=>af
 |.aH t _=>aa (Proofs.YtgjfmljpdnnihaaGreat.T t)
def Lm.mk:(m:Lm)->m.T->Lf
 |.int k,n=>.v (.int k n)
 |.bool,b=>.v (.bool b)
 |.str,s=>.v (.str s)
 |.own r,_=>.own [r]
 |.aH t o,l=>.v (.sl t o false l)
def Lm.rd:(m:Lm)->Lf->aj m.T
 |.int k,.v (.int C n)=>if C=k then some n else none
 |.bool,.v (.bool b)=>some b
 |.str,.v (.str s)=>some s
 |.own r,.own [D]=>bif Nat.beq D r then some ()else none
 |.aH t o,.v x=>bif Nat.blt o 2 then x.fh t o else none
 |_,_=>none
inductive Tm where
 |lf (m:Lm)
 |aG (r j:Nat)
 |fp (t:TC) (o:Nat)
 |fc (f:Nat) (t:TC)
 |ag (t:TC)
 |pk (r n:Nat)
def Tm.T:Tm->Type
 |.lf m=>m.T
 |.aG _ _=>af
 |.fp t _=>Proofs.YtgjfmljpdnnihaaGreat.T t
 |.fc _ t=>Proofs.YtgjfmljpdnnihaaGreat.T t
 |.ag t=>Proofs.YtgjfmljpdnnihaaGreat.T t
 |.pk _ _=>af
def Tm.mk:(m:Tm)->m.T->A
 |.lf m,x=>.lf (m.mk x)
 |.aG r j,_=>.aG r j
 |.fp t o,x=>.jd (enc t o x)
 |.fc f t,x=>.nA f (enc t 0 x)
 |.ag t,x=>.agg ((enc t 0 x).map .v)
 |.pk r n,_=>.pk r n
def Tm.rd:(m:Tm)->A->aj m.T
 |.lf m,.lf x=>m.rd x
 |.aG r j,.aG C D=>bif Nat.beq C r&&Nat.beq D j then some ()else none
 |.fp t o,.jd cs=>bif Nat.blt o 2 then dec t o cs else none
 |.fc f t,.nA f' cs=>bif Nat.beq f' f then dec t 0 cs else none
 | .ag t,.agg cs=>(match uV cs with
  |some E=>dec t 0 E
  |none=>none)
 |.pk r n,.pk C I=>bif Nat.beq C r&&Nat.beq I n then some ()else none
 |_,_=>none
def HJ:aa Lm->Type
 |[]=>af
 |m::C=>m.T×HJ C
def xg:(C:aa Lm)->HJ C->aa Lf
 |[],_=>[]
 |m::C,x=>m.mk x.1::xg C x.2
def Ny:(C:aa Lm)->aa Lf->aj (HJ C)
 |[],[]=>some ()
 | m :: C,x :: xs=>match m.rd x,Ny C xs with
  |some y,some ys=>some (y,ys)
  |_,_=>none
 |_,_=>none
inductive Rm where
 |sl (t:TC) (o:Nat)
 |st (t:TC)
 |aC (ms:List Lm)
 |mp
def Rm.T:Rm->Type
 |.sl t _=>aa (Proofs.YtgjfmljpdnnihaaGreat.T t)
 |.st t=>Proofs.YtgjfmljpdnnihaaGreat.T t
 |.aC C=>HJ C
 |.mp=>aa (Int×Bool)
def Rm.mk:(m:Rm)->m.T->aW
 |.sl t o,l=>.sl (.sl t o false l)
 |.st t,x=>.aC ((enc t 0 x).map .v)
 |.aC C,x=>.aC (xg C x)
 |.mp,l=>.mp l
def Rm.rd:(m:Rm)->aW->aj m.T
 |.sl t o,.sl y=>y.fh t o
 | .st t,.aC cs=>(match uV cs with
  |some C=>dec t 0 C
  |none=>none)
 |.aC D,.aC cs=>Ny D cs
 |.mp,.mp l=>some l
 |_,_=>none
def D9:aa (Nat×Tm)->Type
 |[]=>af
 |(_,m)::C=>m.T×D9 C
def xh:(C:aa (Nat×Tm))->D9 C->Nat->A
 |[],_,_=>.undef
 |(n,m)::C,x,k=>bif Nat.beq k n then m.mk x.1 else xh C x.2 k
def HK:(C:aa (Nat×Tm))->(Nat->A)->aj (D9 C)
 |[],_=>some ()
 | (n,m) :: C,t=>match m.rd (t n),HK C t with
  |some x,some xs=>some (x,xs)
  |_,_=>none
def xj:aa (Nat×Rm)->Type
 |[]=>af
 |(_,m)::C=>m.T×xj C
def xk:(C:aa (Nat×Rm))->xj C->Nat->aj aW
 |[],_,_=>none
 |(n,m)::C,x,k=>bif Nat.beq k n then some (m.mk x.1)else xk C x.2 k
def Ea:(C:aa (Nat×Rm))->(Nat->aj aW)->aj (xj C)
 |[],_=>some ()
 | (n,m) :: C,t=>match (t n).bind m.rd,Ea C t with
  |some x,some xs=>some (x,xs)
  |_,_=>none
structure ju where
 ts:List (Nat×Tm)
 rs:List (Nat×Rm)
def ju.St(C:ju):Type:=D9 C.ts×xj C.rs
def ju.mk'(C:ju)(x:C.St):S:=⟨xh C.ts x.1,xk C.rs x.2⟩
def ju.Nz(C:ju)(σ:S):aj C.St:=match HK C.ts σ.t,Ea C.rs σ.m with
 |some x,some y=>some (x,y)
 |_,_=>none
/-! Roots by other names. -/
abbrev Rn:=aa (Nat×Nat)
def Rn.inv(rs:Rn)(n:Nat):aj Nat:=(rs.find? λp=>Nat.beq p.2 n).map (·.1)
def Rn.add(rs:Rn)(r n:Nat):Rn:=bif rs.any (λp=>Nat.beq p.1 r&&Nat.beq p.2 n)then rs else (r,n)::rs
def Vt(n:Nat):aj Nat->Bool
 |some m=>Nat.beq m n
 |none=>false
def Rn.ok(rs:Rn):Bool:=rs.all λp=>(Nat.beq p.1 p.2 ||Nat.ble 60000 p.2)&&Vt p.2 (rs.lookup p.1)&&Vt p.1 (rs.inv p.2)
def Lf.eo(rs:Rn):Lf->Lf
 |.v x=>.v x
 | .own [r]=>(match rs.lookup r with
  |some n=>.own [n]
  |none=>.dead)
 |_=>.dead
def A.eo(rs:Rn):A->A
 |.lf x=>.lf (x.eo rs)
 | .aG r j=>(match rs.lookup r with
  |some n=>.aG n j
  |none=>.undef)
 |.jd cs=>.jd cs
 |.nA f cs=>.nA f cs
 |.agg cs=>.agg (cs.map (Lf.eo rs))
 |_=>.undef
def aW.eo(rs:Rn):aW->aW
 |.aC cs=>.aC (cs.map (Lf.eo rs))
 |.sl y=>.sl y
 |.mp l=>.mp l
 |.gh _=>.gh []
def S.eo(rs:Rn)(σ:S):S:=⟨λk=>(σ.t k).eo rs,λn=>match rs.inv n with
 |some r=>(σ.m r).map (aW.eo rs)
 |none=>none⟩
def rnL:Lm->Lf->Rn->Rn
 |.own n,.own [r],rs=>rs.add r n
 |_,_,rs=>rs
def Vu:aa Lm->aa Lf->Rn->Rn
 |m::C,x::xs,rs=>Vu C xs (rnL m x rs)
 |_,_,rs=>rs
def rnT:Tm->A->Rn->Rn
 |.lf m,.lf x,rs=>rnL m x rs
 |.aG n j,.aG r C,rs=>rs.add r n
 |_,_,rs=>rs
def acf(t:Nat->A):aa (Nat×Tm)->Rn->Rn
 |[],rs=>rs
 |(k,m)::C,rs=>acf t C (rnT m (t k) rs)
def acg(m:Nat->aj aW):aa (Nat×Rm)->Rn->Rn
 |[],rs=>rs
 | (n,x) :: xs,rs=>acg m xs (match x,rs.inv n with
  | .aC C,some r=>(match m r with
   |some (.aC cs)=>Vu C cs rs
   |_=>rs)
  | .aC C,none=>(match m n with
   |some (.aC cs)=>Vu C cs (rs.add n n)
   |_=>rs)
  |_,some _=>rs
  |_,none=>rs.add n n)
def ju.rn(C:ju)(σ:S):Rn:=acg σ.m C.rs (acf σ.t C.ts [])
def Vv(rs:aa (Nat×Rm))(p:Nat×Tm)(σ:S):S:=match p.2,σ.t p.1 with
 | .lf (.own n),.lf (.v .nil)=>(match rs.lookup n with
  |some (.sl t o)=>bif Nat.ble 60000 n then ⟨bV ((σ.drop n).root n (.sl (.sl t o false []))).t p.1 (.lf (.own [n])),((σ.drop n).root n (.sl (.sl t o false []))).m⟩else σ
  |_=>σ)
 |_,_=>σ
def NA(rs:aa (Nat×Rm)):aa (Nat×Tm)->S->S
 |[],σ=>σ
 |p::ps,σ=>NA rs ps (Vv rs p σ)
def Vw(n j r:Nat)(σ:S):S:=match σ.m r with
 | some (.aC cs)=>(match cs[j]? with
  |some (.v .nil)=>⟨σ.t,bV σ.m r (some (.aC (cs.set j (.own [n]))))⟩
  |_=>σ)
 |_=>σ
def Vx(rs:aa (Nat×Rm))(n j r:Nat)(σ:S):S:=match rs.lookup n with
 |some (.sl t o)=>bif Nat.ble 60000 n then Vw n j r ((σ.drop n).root n (.sl (.sl t o false [])))else σ
 |_=>σ
def BO(rs:aa (Nat×Rm))(r:Nat):Nat->aa Lm->aa Lf->S->S
 |j,.own n::C,.v .nil::cs,σ=>BO rs r (j+1) C cs (Vx rs n j r σ)
 |j,_::C,_::cs,σ=>BO rs r (j+1) C cs σ
 |_,_,_,σ=>σ
def NB(rs:aa (Nat×Rm)):aa (Nat×Rm)->S->S
 |[],σ=>σ
 | (r,.aC C) :: ps,σ=>NB rs ps (match σ.m r with
  |some (.aC cs)=>BO rs r 0 C cs σ
  |_=>σ)
 |_::ps,σ=>NB rs ps σ
def ju.rd1(C:ju)(σ:S):aj C.St:=bif (C.rn σ).ok then C.Nz (NB C.rs C.rs (σ.eo (C.rn σ)))else none
def ju.rd(C:ju)(σ:S):aj C.St:=match C.Nz σ with
 |some x=>some x
 |none=>C.rd1 (NA C.rs C.ts σ)
section
variable {P:Program} {w w':World} {w0:Wd} {B N:Nat} {ah aD:bE} {ρ ρ':Nat->Loc} {σ:S} {a:Act} {X:Type} {d:Nat} {r:X} {o:Oper} {Φ:ep} {Λ:mM}
def Lm.qf{m:Lm}{x:Lf}{y:m.T}(h:m.rd x=some y){u:Value}(C:dP w B ah ρ x u):dP w B ah ρ (m.mk y) u:=by
 unfold Lm.rd at h;split at h
 ·split at h
  next D=>subst D;injection h with h;subst h;exact C
  ·cases h
 ·injection h with h;subst h;exact C
 ·injection h with h;subst h;exact C
 ·rename_i E I;cases hb:Nat.beq I E with
  |false=>simp_all
  |true=>obtain rfl:=cC hb;exact C
 ·rename_i t o x;cases hb:Nat.blt o 2 with
  |false=>rw[hb]at h;cases h
  | true=>
   rw[hb]at h;have:=cK hb;exact⟨by simp[V.aH];omega,C.2.wk (V.F7 h)⟩
 ·cases h
def Tm.qf{m:Tm}{x:A}{y:m.T}(h:m.rd x=some y){u:Value}(I:RA w B ah ρ x u):RA w B ah ρ (m.mk y) u:=by
 cases m with
 | lf m=>
  cases x with
  |lf x=>exact Lm.qf h I
  |_=>cases h
 | aG r j=>
  cases x with
  | aG O j'=>
   have h:(bif Nat.beq O r&&Nat.beq j' j then some ()else none)=some y:=h;cases hb:(Nat.beq O r&&Nat.beq j' j)with
   |false=>simp_all
   | true=>
    rw[aO]at hb;obtain rfl:=cC hb.1;obtain rfl:=cC hb.2;exact I
  |_=>cases h
 | fp t o=>
  cases x with
  | jd cs=>
   have h:(bif Nat.blt o 2 then dec t o cs else none)=some y:=h;cases hb:Nat.blt o 2 with
   |false=>simp_all
   | true=>
    rw[hb,aq]at h;have ho:=cK hb;have D:=lU t o cs y h;obtain⟨b,off,U,Y,Z,h4⟩:=I
    refine⟨b,off,U,Y,Z,λj z C=>?_⟩
    have hj:j<cs.length:=by rw[D.1];exact(dO.1 C).1
    have E:=bQ hj;obtain⟨g1,v,g2,g3⟩:=h4 j _ E;exact⟨pV t o y (by omega) j z C,v,g2,g3.wk (D.2 j _ z E C)⟩
  |_=>cases h
 | fc f t=>
  cases x with
  | nA f' cs=>
   have h:(bif Nat.beq f' f then dec t 0 cs else none)=some y:=h;cases hb:Nat.beq f' f with
   |false=>simp_all
   | true=>
    rw[hb,aq]at h;obtain rfl:=cC hb;have D:=lU t 0 cs y h;obtain⟨pv,e0,b,off,U,Y,Z,h4⟩:=I
    refine⟨pv,e0,b,off,U,Y,Z,λj z C=>?_⟩
    have hj:j<cs.length:=by rw[D.1];exact(dO.1 C).1
    have E:=bQ hj;obtain⟨g1,v,g2,g3⟩:=h4 j _ E;exact⟨pV t 0 y (by omega) j z C,v,g2,g3.wk (D.2 j _ z E C)⟩
  |_=>cases h
 | ag t=>
  cases x with
  | agg cs=>
   have h:(match uV cs with|some L=>dec t 0 L|none=>none)=some y:=h;cases lZ:uV cs with
   |none=>simp_all
   | some L=>
    rw[lZ]at h;have h:dec t 0 L=some y:=h;have jq:=Ms _ _ lZ;have D:=lU t 0 L y h;obtain⟨us,U,Y,Z⟩:=I
    refine⟨us,U,?_,λj x hx=>?_⟩
    ·rw[Y,jq,eI,eI,D.1]
    ·rw[eH]at hx;cases C:(enc t 0 y)[j]? with
     |none=>simp_all
     | some z=>
      rw[C]at hx;injection hx with hx;subst hx;have hj:j<L.length:=by rw[D.1];exact(dO.1 C).1
      have E:=bQ hj;obtain⟨v,g1,g2⟩:=Z j (.v L[j]) (by rw[jq,eH,E];rfl);exact⟨v,g1,pV t 0 y (by omega) j z C,g2.2.wk (D.2 j _ z E C)⟩
  |_=>cases h
 | pk r n=>
  cases x with
  | pk O n'=>
   have h:(bif Nat.beq O r&&Nat.beq n' n then some ()else none)=some y:=h;cases hb:(Nat.beq O r&&Nat.beq n' n)with
   |false=>simp_all
   | true=>
    rw[aO]at hb;obtain rfl:=cC hb.1;obtain rfl:=cC hb.2;exact I
  |_=>cases h
def ach:∀ (C:aa Lm) (cs:aa Lf) (y:HJ C),Ny C cs=some y -> (xg C y).length=cs.length /\ ∀ (j:Nat) x,(xg C y)[j]?=some x -> ∃ z,cs[j]?=some z/\(∀ (w:World) (B:Nat) (ah:bE) (ρ:Nat -> Loc) (u:Value),dP w B ah ρ z u -> dP w B ah ρ x u)
 |[],[],y,h=>⟨rfl,λj x D=>by simp[xg]at D⟩
 | m :: C,c :: cs,y,h=>by
  unfold Ny at h;split at h
  ·rename_i U ys E I;injection h with h;subst h;obtain⟨L,O⟩:=ach C cs ys I
   refine⟨by simp[xg,L],λj x D=>?_⟩
   cases j with
   |zero=>simp[xg]at D;subst D;exact⟨c,rfl,λw B ah ρ u T=>Lm.qf E T⟩
   |succ j=>exact O j x (by simpa [xg]using D)
  ·cases h
def Rm.qf{m:Rm}{x:aW}{y:m.T}(h:m.rd x=some y){n:Nat}(C:dZ w B ah ρ n x):dZ w B ah ρ n (m.mk y):=by
 cases m with
 | sl t o=>
  cases C with
  |sl v y' D hr=>exact .sl v _ D (hr.wk (V.F7 h))
  |aC=>cases h
  |mp=>cases h
  |gh=>cases h
 | mp=>
  cases C with
  |gh=>cases h
  |sl=>cases h
  |aC=>cases h
  |mp b c es l D hl I he=>injection h with h;subst h;exact .mp b c es _ D hl I he
 | st t=>
  cases C with
  |sl=>cases h
  |mp=>cases h
  |gh=>cases h
  | aC b off cells e cs us D hl I L Y=>
   have h:(match uV cs with|some E=>dec t 0 E|none=>none)=some y:=h;cases Z:uV cs with
   |none=>simp_all
   | some E=>
    rw[Z]at h;have h:dec t 0 E=some y:=h;have jq:=Ms _ _ Z;have U:=lU t 0 E y h
    refine .aC b off cells e _ us D hl I (by rw[eI,<- U.1];rw[jq,eI]at L;exact L) λj x C=>?_
    rw[eH]at C;cases O:(enc t 0 y)[j]? with
    |none=>simp_all
    | some z=>
     rw[O]at C;injection C with C;subst C;have hj:j<E.length:=by rw[U.1];exact(dO.1 O).1
     have hv:=bQ hj;obtain⟨h1,h2⟩:=Y j (.v E[j]) (by rw[jq,eH,hv];rfl);exact⟨h1,pV t 0 y (by omega) j z O,h2.2.wk (U.2 j _ z hv O)⟩
 | aC ms=>
  cases C with
  |sl=>cases h
  |mp=>cases h
  |gh=>cases h
  | aC b off cells e cs us D hl I L Y=>
   obtain⟨k1,k2⟩:=ach ms cs y h
   refine .aC b off cells e _ us D hl I (by show off+(xg ms y).length <= _;rw[k1];exact L) λj x C=>?_
   grind
def Vy:∀ (C:aa (Nat×Tm)) (t:Nat -> A) (y:D9 C),HK C t=some y -> ∀ k,xh C y k = .undef \/ ∃ m z,(Tm.rd m (t k)=some z/\xh C y k=m.mk z)
 |[],t,y,h,k=>.inl rfl
 | (n,m) :: C,t,y,h,k=>by
  unfold HK at h;split at h
  ·rename_i x xs D E;injection h with h;subst h;by_cases I:k=n
   ·subst I;exact .inr ⟨m,x,D,by simp[xh]⟩
   ·have hb:Nat.beq k n=false:=by
     cases hb:Nat.beq k n with
     |false=>rfl
     |true=>simp_all
    simp only[xh,hb,au];exact Vy C t xs E k
  ·cases h
def Vz:∀ (C:aa (Nat×Rm)) (t:Nat -> aj aW) (y:xj C),Ea C t=some y -> ∀ k,xk C y k=none \/ ∃ m x z,t k=some x/\Rm.rd m x=some z/\xk C y k=some (m.mk z)
 |[],t,y,h,k=>.inl rfl
 | (n,m) :: C,t,y,h,k=>by
  unfold Ea at h;split at h
  ·rename_i x xs D E;injection h with h;subst h;by_cases I:k=n
   ·subst I;cases L:t k with
    |none=>simp_all
    |some z=>rw[L]at D;exact .inr ⟨m,z,x,rfl,D,by simp[xk]⟩
   ·have hb:Nat.beq k n=false:=by
     cases hb:Nat.beq k n with
     |false=>rfl
     |true=>simp_all
    simp only[xk,hb,au];exact Vz C t xs E k
  ·cases h
def ju.aci{C:ju}{x:C.St}(h:C.Nz σ=some x)(hR:R w0 N σ a w):R w0 N (C.mk' x) a w:=by
 unfold ju.Nz at h;split at h
 ·rename_i u v L O;injection h with h;subst h;obtain⟨ah,ρ,hR⟩:=hR
  refine⟨ah,ρ,hR.below,hR.cX,λn y D=>?_,λk=>?_,hR.size,hR.defers,hR.fix,hR.dj⟩
  ·have D:xk C.rs v n=some y:=D;rcases Vz C.rs σ.m v O n with e | ⟨m,x,z,E,I,T⟩
   ·simp_all
   ·rw[T]at D;injection D with D;subst D;exact Rm.qf I (hR.root n x E)
  ·show RA _ _ _ _ (xh C.ts u k) _;rcases Vy C.ts σ.t u L k with e | ⟨m,z,E,I⟩
   ·rw[e];trivial
   ·rw[I];exact Tm.qf E (hR.tmp k)
 ·cases h
def acj{n:Nat}{o:aj Nat}(h:Vt n o=true):o=some n:=by
 cases o with
 |none=>cases h
 |some m=>rw[cC h]
def ack{rs:Rn}{r n:Nat}(h:rs.lookup r=some n):(r,n)∈rs:=by
 induction rs with
 |nil=>cases h
 |cons p rs C =>grind
def acm{rs:Rn}{r n:Nat}(h:rs.inv n=some r):(r,n)∈rs:=by
 unfold Rn.inv at h;cases C:rs.find? _ with
 |none=>rw[C]at h;cases h
 | some p=>
  rw[C]at h;injection h with h;subst h;have D:=List.find?_some C;have E:=List.mem_of_find?_eq_some C;rw[<- cC D];exact E
def Rn.eX(rs:Rn)(ρ:Nat->Loc):Nat->Loc:=λn=>match rs.inv n with
 |some r=>ρ r
 |none=>ρ n
def Rn.NC{rs:Rn}(h:rs.ok=true){r n:Nat}(C:(r,n)∈rs):(r=n \/ 60000 <= n)/\rs.lookup r=some n/\rs.inv n=some r:=by
 have:=cu.1 h _ C;rw[aO,aO,eA]at this;refine⟨?_,acj this.1.2,acj this.2⟩;simp_all
def dP.eo{rs:Rn}(C:rs.ok=true){x:Lf}{u:Value}(h:dP w B ah ρ x u):dP w B (eE ah rs id) (rs.eX ρ) (x.eo rs) u:=by
 unfold Lf.eo;split
 ·exact⟨h.1,h.2.L5 h.1 λb=>yZ⟩
 ·rename_i r;split
  next n D=>have hi:=(Rn.NC C (ack D)).2.2;refine⟨h.1,?_⟩;have E:=h.2;simp[cW]at E ⊢;unfold Rn.eX;simp_all
  ·trivial
 ·trivial
def Rl.eo{rs:Rn}(L:rs.ok=true)(h:Rl w0 N ah ρ σ a w):Rl w0 N (eE ah rs id) (rs.eX ρ) (σ.eo rs) a w:=by
 have hl:∀ b r n,ah b=some [r] -> rs.lookup r=some n -> eE ah rs id b=some [n]:=by
  intro b r n E I;simp[eE,E,I]
 refine⟨h.below,λb k D=>?_,λn x C=>?_,λk=>?_,h.size,h.defers,λr l T=>?_,h.dj⟩
 ·unfold eE at D;split at D
  ·cases D
  ·rename_i k0 MO;split at D
   ·cases D
   ·rename_i r T;cases hn:rs.lookup r with
    |none=>grind
    | some n=>
     rw[hn]at D;injection D with D;subst D;obtain⟨E,I,_⟩:=h.cX b k0 MO;simp_all
 ·have C:(match rs.inv n with | some r=>(σ.m r).map (aW.eo rs) | none=>none)=some x:=C;cases hi:rs.inv n with
  |none=>grind
  | some r=>
   rw[hi]at C;have C:(σ.m r).map (aW.eo rs)=some x:=C;have tD:=(Rn.NC L (acm hi)).2.1;have cN:rs.eX ρ n=ρ r:=by unfold Rn.eX;rw[hi]
   cases hm:σ.m r with
   |none=>grind
   | some y=>
    rw[hm]at C;injection C with C;subst C;cases h.root r y hm with
    | aC b off cells e cs us E I hh hs hc=>
     refine .aC b off cells e _ us (cN.trans E) (hl b r n I tD) hh (by rw[eI];exact hs) λj x C=>?_
     rw[eH]at C;cases O:cs[j]? with
     |none=>grind
     | some z=>
      rw[O]at C;injection C with C;subst C;exact⟨(hc j z O).1,(hc j z O).2.eo L⟩
    | sl v y E I=>
     exact .sl v y (cN.trans E) (RV.eE (p:=[]) (nm:=id) I tD)
    |mp b c es l E I hh he=>exact .mp b c es l (cN.trans E) (hl b r n I tD) hh he
    |gh us xs E C=>exact .gh us _ (cN.trans E) λj x hj=>by simp at hj
 ·show RA _ _ _ _ ((σ.t k).eo rs) _;have D:=h.tmp k;generalize σ.t k=x at D;unfold A.eo;split
  ·exact D.eo L
  ·rename_i r j;split
   next n hn=>have hi:=(Rn.NC L (ack hn)).2.2;obtain⟨b,off,E,I⟩:=D;exact⟨b,off,by unfold Rn.eX;rw[hi];exact E,I⟩
   ·trivial
  ·obtain⟨b,off,U,Y,Z,g4⟩:=D
   refine⟨b,off,U,Y,yZ Z,λj x C=>?_⟩
   obtain⟨f1,v,f2,f3⟩:=g4 j x C;exact⟨f1,v,f2,f3.L5 f1 λb=>yZ⟩
  ·obtain⟨pv,e0,b,off,U,Y,Z,g4⟩:=D
   refine⟨pv,e0,b,off,U,Y,yZ Z,λj x C=>?_⟩
   obtain⟨f1,v,f2,f3⟩:=g4 j x C;exact⟨f1,v,f2,f3.L5 f1 λb=>yZ⟩
  ·obtain⟨us,U,Y,Z⟩:=D
   refine⟨us,U,by rw[eI];exact Y,λj x C=>?_⟩
   rw[eH]at C;rename_i cs;cases O:cs[j]? with
   |none=>grind
   | some z=>
    rw[O]at C;injection C with C;subst C;obtain⟨v,f1,f2⟩:=Z j z O;exact⟨v,f1,f2.eo L⟩
  ·trivial
 ·show rs.eX ρ r=l;unfold Rn.eX;split
  ·rename_i r0 hi;rcases(Rn.NC L (acm hi)).1 with e | e
   ·rw[e];exact h.fix r l T
   ·rw[h.dj r (.inr e)]at T;cases T
  ·exact h.fix r l T
def apb{rs:aa (Nat×Rm)}{p:Nat×Tm}(hR:R w0 N σ a w):R w0 N (Vv rs p σ) a w:=by
 unfold Vv;split
 ·rename_i n U L;split
  ·rename_i t o hl;cases hb:Nat.ble 60000 n with
   |false=>exact hR
   | true=>
    have O:=cK hb;obtain⟨ah,ρ,hR⟩:=hR;have D:=hR.tmp p.1;rw[L]at D;have T:a.tmps.getD p.1 undef = .slice none 0 0:=by
     have E:=D.2;generalize a.tmps.getD p.1 undef=u at E;cases E;rfl
    have C:=hR.new (d:=n) (x:=.sl (.sl t o false [])) (.dJ (.slice none 0 0)) (.sl _ _ (cc _ _ _) (.eD _ _ _)) (hR.dj n (.inr O))
    refine⟨ah,_,C.below,C.cX,C.root,λk=>?_,C.size,C.defers,C.fix,C.dj⟩
    show RA _ _ _ _ (bV ((σ.drop n).root n (.sl (.sl t o false []))).t p.1 (.lf (.own [n])) k) _;by_cases I:k=p.1
    ·subst I;rw[cc,T];exact⟨rfl,by simp[cW,cc]⟩
    ·rw[cH _ _ _ I];exact C.tmp k
  ·exact hR
 ·exact hR
def apc{n j r:Nat}{y:V}(hR:Rl w0 N ah ρ σ a w)(T:ρ n = .dJ (.slice none 0 0)):Rl w0 N ah ρ (Vw n j r σ) a w:=by
 unfold Vw;split
 ·rename_i cs U;split
  ·rename_i L
   refine⟨hR.below,hR.cX,λE x C=>?_,hR.tmp,hR.size,hR.defers,hR.fix,hR.dj⟩
   have C:bV σ.m r (some (.aC (cs.set j (.own [n])))) E=some x:=C;by_cases O:E=r
   ·subst O;rw[cc]at C;injection C with C;subst C;cases hR.root E _ U with
    | aC b off cells e cs us Y I Z hs hc=>
     refine .aC b off cells e _ us Y I Z (by rw[ji];exact hs) λi z D=>?_
     rw[List.getElem?_set]at D;by_cases hi:j=i
     ·subst hi;have dU:j<cs.length:=(dO.1 L).1;rw[bH rfl,bH dU]at D;injection D with D;subst D;obtain⟨k1,k2⟩:=hc j _ L;refine⟨k1,?_⟩;have hu:us j = .slice none 0 0:=by
       have I:=k2.2;generalize us j=u at I;cases I;rfl
      rw[hu];exact⟨rfl,by simp only[cW,T]⟩
     ·grind
   ·rw[cH _ _ _ O]at C;exact hR.root E x C
  ·exact hR
 ·exact hR
def apd{rs:aa (Nat×Rm)}{n j r:Nat}(hR:R w0 N σ a w):R w0 N (Vx rs n j r σ) a w:=by
 unfold Vx;split
 ·rename_i t o hl;cases hb:Nat.ble 60000 n with
  |false=>exact hR
  | true=>
   have C:=cK hb;obtain⟨ah,ρ,hR⟩:=hR;exact⟨ah,_,apc (y:=.nil) (hR.new _ (.sl _ _ (cc _ _ _) (.eD _ _ _)) (hR.dj n (.inr C))) (cc _ _ _)⟩
 ·exact hR
def VA{rs:aa (Nat×Rm)}{r:Nat}:∀ (C:aa Lm) (cs:aa Lf) (j:Nat) (σ:S),R w0 N σ a w -> R w0 N (BO rs r j C cs σ) a w
 |[],cs,j,σ,h=>by unfold BO;exact h
 | m :: C,[],j,σ,h=>by
  unfold BO;simp_all
 | m :: C,c :: cs,j,σ,h=>by
  unfold BO;split
  next D E=>cases D;cases E;exact VA C cs _ _ (apd h)
  next D E=>cases D;cases E;exact VA C cs _ _ h
  ·exact h
def HL{rs:aa (Nat×Rm)}:∀ (ps:aa (Nat×Rm)) (σ:S),R w0 N σ a w -> R w0 N (NB rs ps σ) a w
 |[],σ,h=>h
 |(r,.sl t o)::ps,σ,h=>HL ps σ h
 |(r,.st t)::ps,σ,h=>HL ps σ h
 |(r,.mp)::ps,σ,h=>HL ps σ h
 | (r,.aC C) :: ps,σ,h=>by
  refine HL ps _ ?_;split
  ·exact VA C _ 0 σ h
  ·exact h
def acn{rs:aa (Nat×Rm)}:∀ (ps:aa (Nat×Tm)) (σ:S),R w0 N σ a w->R w0 N (NA rs ps σ) a w
 |[],σ,h=>h
 |p::ps,σ,h=>acn ps _ (apb h)
def ju.qf{C:ju}{x:C.St}(h:C.rd σ=some x)(hR:R w0 N σ a w):R w0 N (C.mk' x) a w:=by
 unfold ju.rd at h;split at h
 next y D=>injection h with h;subst h;exact ju.aci D hR
 ·have hR:=acn (rs:=C.rs) C.ts σ hR;revert h hR;generalize NA C.rs C.ts σ=E;intro h hR;unfold ju.rd1 at h;cases hb:(C.rn E).ok with
  |false=>simp_all
  | true=>
   rw[hb,aq]at h;obtain⟨ah,ρ,hR⟩:=hR;exact ju.aci h (HL C.rs _ ⟨_,_,hR.eo hb⟩)
end
def xl:aa V->aa Nat->aa Lf
 |[],_=>[]
 | x :: xs,ns=>bif x.plain then .v x :: xl xs ns else (match ns with
  |n::ns=>.own [n]::xl xs ns
  |[]=>.dead::xl xs [])
def BP:aa V->aa Nat->(Nat->aj aW)->Nat->aj aW
 |[],_,m,k=>m k
 | x :: xs,ns,m,k=>bif x.plain then BP xs ns m k else (match ns with
  |n::ns=>bif Nat.beq k n then some (.sl x)else BP xs ns m k
  |[]=>BP xs [] m k)
def kM(m:Nat->aj aW):aa Lf->aa Nat->aj (aa V)
 |[],[]=>some []
 | .v x :: cs,ns=>bif x.plain then (match kM m cs ns with
  |some C=>some (x::C)
  |none=>none)else none
 | .own [r] :: cs,n :: ns=>bif Nat.beq r n then (match m n with
  | some (.sl y)=>bif y.plain then none else (match kM m cs ns with
   |some C=>some (y::C)
   |none=>none)
  |_=>none)else none
 |_,_=>none
abbrev Gp:=Nat×TC×Nat×aa Nat
def HM:aa Gp->Type->Type
 |[],X=>X
 |g::gs,X=>T g.2.1×HM gs X
def ND:(gs:aa Gp)->(rs:aa (Nat×Rm))->HM gs (xj rs)->Nat->aj aW
 |[],rs,x,k=>xk rs x k
 |(n,t,o,ns)::gs,rs,x,k=>bif Nat.beq k n then some (.aC (xl (enc t o x.1) ns))else BP (enc t o x.1) ns (ND gs rs x.2) k
def NF:(gs:aa Gp)->(rs:aa (Nat×Rm))->(Nat->aj aW)->aj (HM gs (xj rs))
 |[],rs,m=>Ea rs m
 | (n,t,o,ns) :: gs,rs,m=>match m n with
  | some (.aC cs)=>(match kM m cs ns with
   | some C=>(match dec t o C,NF gs rs m with
    |some x,some y=>some (x,y)
    |_,_=>none)
   |none=>none)
  |_=>none
def Eb:aa V->aa Nat->aa Lm
 |[],_=>[]
 |.int k _::xs,ns=>.int k::Eb xs ns
 |.bool _::xs,ns=>.bool::Eb xs ns
 |.str _::xs,ns=>.str::Eb xs ns
 |_::xs,n::ns=>.own n::Eb xs ns
 |_::xs,[]=>.bool::Eb xs []
def VB:aa V->aa Nat->aa (Nat×Rm)
 |.sl t o _ _::xs,n::ns=>(n,.sl t o)::VB xs ns
 |_::xs,ns=>VB xs ns
 |[],_=>[]
def VC:aa Gp->aa (Nat×Rm)->aa (Nat×Rm)
 |[],rs=>rs
 |(n,t,o,ns)::gs,rs=>(n,.aC (Eb (ZH t o) ns))::(VB (ZH t o) ns++VC gs rs)
structure bG where
 ts:List (Nat×Tm)
 rs:List (Nat×Rm)
 gs:List Gp
def bG.St(C:bG):Type:=D9 C.ts×HM C.gs (xj C.rs)
def bG.mk'(C:bG)(x:C.St):S:=⟨xh C.ts x.1,ND C.gs C.rs x.2⟩
def bG.NG(C:bG)(σ:S):aj C.St:=match HK C.ts σ.t,NF C.gs C.rs σ.m with
 |some x,some y=>some (x,y)
 |_,_=>none
def bG.rd(C:bG)(σ:S):aj C.St:=match C.NG σ with
 |some x=>some x
 | none=>match ju.rd ⟨C.ts,VC C.gs C.rs⟩ σ with
  |some z=>C.NG (ju.mk' ⟨C.ts,VC C.gs C.rs⟩ z)
  |none=>none
section
variable {P:Program} {w w':World} {w0:Wd} {B N:Nat} {ah aD:bE} {ρ ρ':Nat->Loc} {σ:S} {a:Act} {m:Nat->aj aW}
def kZ.inv{x:V}{xs ys:aa V}(k:kZ (x :: xs) ys):∃ y C,ys=y :: C/\Wk x y/\kZ xs C:=by
 obtain⟨D,E⟩:=k;cases ys with
 |nil=>simp at D
 |cons y C=>exact⟨y,C,rfl,E 0 x y rfl rfl,by simpa using D,λj a b I hb=>E (j+1) a b (by simpa using I) (by simpa using hb)⟩
def Wk.aco{x y:V}(h:Wk x y)(C:x.plain=true):y=x:=by
 cases h<;>first|rfl|cases C
def Wk.acp{x y:V}(h:Wk x y)(C:x.plain=false):y.plain=false:=by
 cases h<;>first|exact C|rfl
def VD:∀ (cs:aa Lf) (ns:aa Nat) (C ys:aa V),kM m cs ns=some C -> kZ C ys -> (xl ys ns).length=cs.length /\ ∀ (j:Nat) z,(xl ys ns)[j]?=some z -> cs[j]?=some z
 | [],[],C,ys,h,E=>by
  simp only[kM,iD]at h;subst h;have:ys=[]:=List.eq_nil_of_length_eq_zero E.1.symm;subst this;exact⟨rfl,λj z I=>by simp[xl]at I⟩
 | .v x :: cs,ns,C,ys,h,E=>by
  unfold kM at h;cases D:x.plain with
  |false=>simp_all
  | true=>
   rw[D,aq]at h;split at h
   ·rename_i us L;injection h with h;subst h;obtain⟨y,O,rfl,T,U⟩:=E.inv;obtain rfl:=T.aco D;obtain⟨Y,Z⟩:=VD cs ns us O L U;simp only[xl,D,aq]
    refine⟨by simp[Y],λj z I=>?_⟩
    cases j with
    |zero=>simp_all
    |succ j=>simp_all
   ·cases h
 | .own [r] :: cs,n :: ns,C,ys,h,E=>by
  unfold kM at h;cases hb:Nat.beq r n with
  |false=>simp_all
  | true=>
   rw[hb,aq]at h;obtain rfl:=cC hb;split at h
   ·rename_i y hy;cases D:y.plain with
    |true=>simp_all
    | false=>
     rw[D,au]at h;split at h
     ·rename_i us L;injection h with h;subst h;obtain⟨y',O,rfl,T,U⟩:=E.inv;have hq:=T.acp D;obtain⟨Y,Z⟩:=VD cs ns us O L U;simp only[xl,hq,au]
      refine⟨by simp[Y],λj z I=>?_⟩
      cases j with
      |zero=>simp_all
      |succ j=>simp_all
     ·cases h
   ·cases h
 |[],_::_,C,ys,h,_=>by simp[kM]at h
 |.dead::_,_,C,ys,h,_=>by simp[kM]at h
 |.own []::_,_,C,ys,h,_=>by simp[kM]at h
 |.own (_::_::_)::_,_,C,ys,h,_=>by simp[kM]at h
 |.own [_]::_,[],C,ys,h,_=>by simp[kM]at h
def VE{f:Nat -> aj aW}{k:Nat}{x:aW}:∀ (cs:aa Lf) (ns:aa Nat) (D ys:aa V),kM m cs ns=some D -> kZ D ys -> BP ys ns f k=some x -> f k=some x \/ ∃ v y,m k=some (.sl v)/\x = .sl y/\Wk v y
 | [],[],D,ys,h,I,C=>by
  simp only[kM,iD]at h;subst h;have:ys=[]:=List.eq_nil_of_length_eq_zero I.1.symm;subst this;exact .inl C
 | .v Z :: cs,ns,D,ys,h,I,C=>by
  unfold kM at h;cases E:Z.plain with
  |false=>simp_all
  | true=>
   rw[E,aq]at h;split at h
   next us L=>injection h with h;subst h;obtain⟨y,O,rfl,T,U⟩:=I.inv;obtain rfl:=T.aco E;simp[BP,E]at C;exact VE cs ns us O L U C
   ·cases h
 | .own [r] :: cs,n :: ns,D,ys,h,I,C=>by
  unfold kM at h;cases hb:Nat.beq r n with
  |false=>simp_all
  | true=>
   rw[hb,aq]at h;obtain rfl:=cC hb;split at h
   ·rename_i y hy;cases E:y.plain with
    |true=>simp_all
    | false=>
     rw[E,au]at h;split at h
     ·rename_i us L;injection h with h;subst h;obtain⟨y',O,rfl,T,U⟩:=I.inv;have hq:=T.acp E;simp only[BP,hq,au]at C;cases Y:Nat.beq k r with
      | true=>
       rw[Y]at C;injection C with C;obtain rfl:=cC Y
       grind
      | false=>
       rw[Y]at C;exact VE cs ns us O L U C
     ·cases h
   ·cases h
 |[],_::_,D,ys,h,_,_=>by simp[kM]at h
 |.dead::_,_,D,ys,h,_,_=>by simp[kM]at h
 |.own []::_,_,D,ys,h,_,_=>by simp[kM]at h
 |.own (_::_::_)::_,_,D,ys,h,_,_=>by simp[kM]at h
 |.own [_]::_,[],D,ys,h,_,_=>by simp[kM]at h
def acq:∀ (gs:aa Gp) (rs:aa (Nat×Rm)) (y:HM gs (xj rs)),NF gs rs m=some y -> ∀ k x,ND gs rs y k=some x -> ∃ L,m k=some L /\ ∀ (w:World) (B:Nat) (ah:bE) (ρ:Nat -> Loc),dZ w B ah ρ k L -> dZ w B ah ρ k x
 | [],rs,y,h,k,x,C=>by
  have h:Ea rs m=some y:=h;have C:xk rs y k=some x:=C;rcases Vz rs m y h k with e|⟨m',L,z,E,I,e3⟩
  ·simp_all
  ·rw[e3]at C;injection C with C;subst C;exact⟨L,E,λw B ah ρ D=>Rm.qf I D⟩
 | (n,t,o,ns) :: gs,rs,y,h,k,x,C=>by
  unfold NF at h;split at h
  ·rename_i cs hm;split at h
   ·rename_i O Y;split at h
    ·rename_i x1 y1 h1 h2;injection h with h;subst h;have Z:=lU t o O x1 h1;simp only[ND]at C;cases T:Nat.beq k n with
     | true=>
      rw[T,aq]at C;injection C with C;subst C;obtain rfl:=cC T;obtain⟨E,I⟩:=VD cs ns O _ Y Z
      refine⟨_,hm,λw B ah ρ D=>?_⟩
      cases D with
      |aC b off cells e _ us U hl hh hs hc=>exact .aC b off cells e _ us U hl hh (by rw[E];exact hs) λj z hz=>hc j z (I j z hz)
     | false=>
      rw[T,au]at C;rcases VE cs ns O _ Y Z C with e|⟨v,y',E,rfl,I⟩
      ·exact acq gs rs y1 h2 k x e
      ·refine⟨_,E,λw B ah ρ D=>?_⟩
       cases D with
       |sl u _ U D=>exact .sl u _ U (D.wk I)
    ·cases h
   ·cases h
  ·cases h
def bG.acr{C:bG}{x:C.St}(h:C.NG σ=some x)(hR:R w0 N σ a w):R w0 N (C.mk' x) a w:=by
 unfold bG.NG at h;split at h
 ·rename_i u v I L;injection h with h;subst h;obtain⟨ah,ρ,hR⟩:=hR
  refine⟨ah,ρ,hR.below,hR.cX,λn y O=>?_,λk=>?_,hR.size,hR.defers,hR.fix,hR.dj⟩
  ·obtain⟨T,D,E⟩:=acq C.gs C.rs v L n y O;exact E _ _ _ _ (hR.root n T D)
  ·show RA _ _ _ _ (xh C.ts u k) _;rcases Vy C.ts σ.t u I k with e | ⟨m,z,D,E⟩
   ·rw[e];trivial
   ·rw[E];exact Tm.qf D (hR.tmp k)
 ·cases h
def bG.qf{C:bG}{x:C.St}(h:C.rd σ=some x)(hR:R w0 N σ a w):R w0 N (C.mk' x) a w:=by
 unfold bG.rd at h;split at h
 next y D=>injection h with h;subst h;exact bG.acr D hR
 ·split at h
  next z E=>exact bG.acr h (ju.qf E hR)
  ·cases h
end
def zE:Exit->aj Nat
 |.normal=>some 0
 |.ret=>some 1
 |.exit n=>some (n+2)
 |_=>none
def VF:Nat->Exit
 |0=>.normal
 |1=>.ret
 |n+2=>.exit n
def sI{e:Exit}{n:Nat}(h:zE e=some n):e=VF n:=by
 cases e<;>simp[zE]at h<;>subst h<;>rfl
def tW:aa (Nat×bG)->Type
 |[]=>Empty
 |(_,C)::r=>C.St⊕tW r
def NH:(l:aa (Nat×bG))->Nat->S->aj (tW l)
 |[],_,_=>none
 | (n,C) :: r,e,σ=>bif Nat.beq n e then (match C.rd σ with
  |some x=>some (.inl x)
  |none=>none)else (match NH r e σ with
  |some x=>some (.inr x)
  |none=>none)
def VG{X:Type}:(l:aa (Nat×bG))->tW l->(Exit->S->aj X)->aj X
 |[],z,_=>nomatch z
 | (n,C) :: r,z,k=>match z with
  |.inl x=>k (VF n) (C.mk' x)
  |.inr z=>VG r z k
def iter{α β:Type}(step:α->aj (α⊕β)):Nat->α->aj β
 |0,_=>none
 | n+1,x=>match step x with
  |some (.inl y)=>iter step n y
  |some (.inr z)=>some z
  |none=>none
def Ec(P:Program)(N:Nat)(Φ:ep)(Λ:mM)(body:Code)(C:bG)(D:aa (Nat×bG))(x:C.St):aj (C.St⊕tW D):=
 lH P N Φ Λ body (C.mk' x) λe σ=>match zE e with
  | some 0=>(match C.rd σ with
   |some x=>some (.inl x)
   |none=>none)
  | some n=>(match NH D n σ with
   |some x=>some (.inr x)
   |none=>none)
  |none=>none
def VH{X:Type}(id:Nat)(k:Exit->S->aj X)(e:Exit)(σ:S):aj X:=
 match e with
 |.exit C=>if C=id then k .normal σ else k (.exit C) σ
 |e=>k e σ
def NI(id:Nat)(C:bG)(D:aa (Nat×bG))(F:C.St->aj (C.St⊕tW D))(fuel:C.St->Nat):sF:=
 ⟨λX σ k=>match C.rd σ with
  | some x=>(match iter F (fuel x) x with
   |some z=>VG D z (VH id k)
   |none=>none)
  |none=>none⟩
def kN:aa (Bool×TC)->Type
 |[]=>af
 |(_,t)::r=>T t×kN r
def gq:(l:aa (Bool×TC))->kN l->aa Pt
 |[],_=>[]
 |(b,t)::r,x=>(b,enc t 0 x.1)::gq r x.2
def xm:(l:aa (Bool×TC))->aa Pt->aj (kN l)
 |[],[]=>some ()
 | (b,t) :: r,(C,D) :: ps=>bif b==C then (match dec t 0 D,xm r ps with
  |some x,some xs=>some (x,xs)
  |_,_=>none)else none
 |_,_=>none
def gP(ai:aa (Bool×TC))(ro:aa (Bool×TC×Nat))(F:kN ai->aj (iI ro)):iR:=
 ⟨λX args k=>match xm ai args with
  | some x=>(match F x with
   |some y=>k (eS ro y)
   |none=>none)
  |none=>none⟩
def VI:Pt->A
 |(false,[x])=>.lf (.v x)
 |(true,xs)=>.agg (xs.map .v)
 |(false,.bool true::c::cs)=>.jd (c::cs)
 |(false,.bool false::.int .i64 (.ofNat g)::c::cs)=>.nA g (c::cs)
 |_=>.undef
def acs(args:aa Pt):S:=⟨λk=>match args[k]? with
 |some p=>VI p
 |none=>.undef,λ_=>none⟩
def qg{X:Type}(P:Program)(N:Nat)(Φ:ep)(Λ:mM)(code:Code)(C:Array ResultVar)(args:aa Pt)(k:fZ->aj X):aj X:=
 lH P N Φ Λ code (acs args) λe σ=>match zE e with
  |some 0=>GK P σ C k
  |some 1=>GK P σ C k
  |_=>none
section
variable {P:Program} {w w':World} {w0:Wd} {B N:Nat} {ah aD:bE} {ρ ρ':Nat->Loc} {σ:S} {a:Act} {X:Type} {d:Nat} {r:X} {o:Oper} {Φ:ep} {Λ:mM}
def acu:∀ (l:aa (Nat×bG)) (e:Nat) (z:tW l),NH l e σ=some z->∀ (X:Type) (k:Exit->S->aj X),∃ D,VG l z k=k (VF e) D/\∀ a w,R w0 N σ a w->R w0 N D a w
 |[],e,z,h=>by cases h
 | (n,E) :: l,e,z,h=>by
  intro X k;unfold NH at h;cases hb:Nat.beq n e with
  | true=>
   obtain rfl:=cC hb;rw[hb,aq]at h;split at h
   next x C=>injection h with h;subst h;exact⟨E.mk' x,rfl,λa w hR=>bG.qf C hR⟩
   ·cases h
  | false=>
   rw[hb,au]at h;split at h
   next x C=>injection h with h;subst h;exact acu l e x C X k
   ·cases h
def ape{id:Nat}{body:Code}{E:bG}{T:aa (Nat×bG)}{F:E.St -> aj (E.St⊕tW T)}{fuel:E.St -> Nat}(dQ:fL P Φ)(tX:pq P N Λ (occs body))(hF:∀ x,Ec P N Φ Λ body E T x=F x):BE P N (.block id (.loop body)) (NI id E T F fuel):=by
 intro X σ k r w0 h a w hR;simp only[NI]at h;split at h
 ·rename_i x I;split at h
  ·rename_i z hz;refine wp_block ?_;have key:∀ (n:Nat) (x:E.St),iter F n x=some z -> ∀ (a:Act) (w:World),R w0 N (E.mk' x) a w -> ∀ (b:Frame) (L:aa Item) (cs:aa Frame),
     ∃e O w',Exit.inBlock id (λe O w'=>∃c8,k e c8=some r/\R w0 N c8 O w') e O w'/\Arrives P (lone (b.at a (.code body::.inLoop body::L)) cs w) b L cs e O w':=by
    intro n
    induction n with
    |zero=>intro x I;simp[iter]at I
    | succ n ih=>
     intro x I a w hR b L cs;simp only[iter]at I;have jY:∃ y,Ec P N Φ Λ body E T x=some y/\(match y with | .inl y=>iter F n y=some z | .inr z'=>z'=z):=by
      rw[hF];split at I
      ·grind
      ·grind
      ·cases I
     obtain⟨y,hy,U⟩:=jY;unfold Ec at hy;have hwp:=D8 (w0:=w0) dQ body _ _ hy tX a w hR;obtain⟨e,Z,w1,⟨qa,D,sC⟩,Y⟩:=hwp b (.inLoop body::L) cs;split at D
     ·rename_i C;have C:=sI C;subst C;split at D
      next x1 TZ=>injection D with D;subst D;obtain⟨e2,a2,w2,Be,apf⟩:=ih x1 U Z w1 (bG.qf TZ sC) b L cs;exact⟨e2,a2,w2,Be,.of_steps (Steps.trans Y (.one step_inLoop)) apf⟩
      ·cases D
     ·rename_i n' cL C;have C:=sI C;split at D
      ·rename_i z1 VJ;injection D with D;subst D;have U:z1=z:=U;subst U;obtain⟨σ2,nD,lD⟩:=acu (w0:=w0) (N:=N) T n' z1 VJ X (VH id k);rw[nD]at h;rw[<- C]at h;refine⟨e,Z,w1,?_,?_⟩
       ·cases e with
        | exit id'=>
         simp only[VH]at h;simp only[Exit.inBlock];split at h
         ·grind
         ·grind
        |_=>exact⟨σ2,h,lD Z w1 sC⟩
       ·refine .pass (x:=.inLoop body) rfl (λ_ _=>.inl ?_) Y
        intro e';rw[e']at C
        match n',cL,C with
        |0,cL,_=>exact cL rfl
        |1,_,C=>cases C
        |n+2,_,C=>cases C
      ·cases D
     ·cases D
   intro b L cs;obtain⟨e,O,w',hq,Y⟩:=key (fuel x) x hz a w (bG.qf I hR) b L cs;exact⟨e,O,w',hq,.of_steps (.one step_loop) Y⟩
  ·cases h
 ·cases h
def PV.tK{key:Nat->aa Nat}{b:Bool}{xs ys:aa V}{u:Value}(h:PV w B ah key (b,xs) u)(k:kZ xs ys):PV w B ah key (b,ys) u:=by
 obtain⟨us,E,I,L⟩:=h
 refine⟨us,E,I.trans k.1,λj y C=>?_⟩
 have D:j<xs.length:=by rw[k.1];exact(dO.1 C).1
 obtain⟨v,O,T⟩:=L j _ (bQ D);exact⟨v,O,T.wk (k.2 j _ y (bQ D) C)⟩
def yW.tK{cs C:aa V}{u:Value}(h:yW w cs u)(k:kZ cs C):yW w C u:=by
 obtain⟨b,off,I,hb,L⟩:=h
 refine⟨b,off,I,hb,λj y D=>?_⟩
 have E:j<cs.length:=by rw[k.1];exact(dO.1 D).1
 obtain⟨v,O,T⟩:=L j _ (bQ E);exact⟨v,O,T.wk (k.2 j _ y (bQ E) D)⟩
def PA.tK{b:Bool}{xs ys:aa V}{u:Value}(h:PA w (b,xs) u)(k:kZ xs ys):PA w (b,ys) u:=by
 cases h with
 |v _ _ h=>exact .v _ _ (h.tK k)
 | p c cs _ h=>
  obtain⟨y,E,rfl,C,D⟩:=k.inv;cases C;have h:=h.tK D;obtain⟨L,eT,rfl,_,_⟩:=D.inv;exact .p _ _ _ h
 | f g c cs u h=>
  obtain⟨y,E,rfl,C,D⟩:=k.inv;cases C;obtain⟨y,E,rfl,C,I⟩:=D.inv;cases C;have h:=h.tK I;obtain⟨L,eT,rfl,_,_⟩:=I.inv;exact .f _ _ _ _ h
def PA.ra{p:Pt}{u:Value}(h:PA w p u)(D:∀ y∈p.2,y.aH=true):RA w w.heap.size (λ_=>none) ρ (VI p) u:=by
 have T:∀ {cs:aa V} {u:Value},yW w cs u -> (∀ y∈cs,y.aH=true) -> RF w w.heap.size (λ_=>none) cs u:=by
  rintro cs u ⟨b,off,rfl,hb,E⟩ D
  refine⟨b,off,rfl,hb,rfl,λj x U=>⟨D x (gF U),E j x U⟩⟩
 cases h with
 | v _ _ h=>
  obtain⟨us,Y,Z,E⟩:=h;obtain⟨b,xs⟩:=p;cases b with
  | true=>
   refine⟨us,Y,by rw[eI];exact Z,λi y C=>?_⟩
   rw[eH]at C;cases I:xs[i]? with
   |none=>simp_all
   | some z=>
    rw[I]at C;injection C with C;subst C;obtain⟨v,L,O⟩:=E i z I;exact⟨v,L,D z (gF I),O⟩
  | false=>
   subst Y;have h1:=Z.symm;obtain⟨x,rfl⟩:=List.length_eq_one_iff.1 h1;obtain⟨v,L,O⟩:=E 0 x rfl;have:u=v:=by simpa using L
   subst this;exact⟨D x (by simp),O⟩
 |p c cs _ h=>exact T h λy C=>D y (.tail _ C)
 |f g c cs u h=>exact⟨u,rfl,T h λy C=>D y (.tail _ (.tail _ C))⟩
def VK:∀ (l:aa (Bool×TC)) (ps:aa Pt) (x:kN l),xm l ps=some x -> (gq l x).length=ps.length /\ ∀ (i:Nat) p,(gq l x)[i]?=some p -> ∃ q,ps[i]?=some q/\q.1=p.1/\kZ q.2 p.2
 |[],[],x,h=>⟨rfl,λi p C=>by simp[gq]at C⟩
 | (b,t) :: r,(D,E) :: ps,x,h=>by
  unfold xm at h;cases hb:b==D with
  |false=>simp_all
  | true=>
   rw[hb,aq]at h;have hb:b=D:=by simpa using hb
   subst hb;split at h
   ·rename_i y ys I L;injection h with h;subst h;obtain⟨O,T⟩:=VK r ps ys L
    refine⟨by simp[gq,O],λi p C=>?_⟩
    cases i with
    |zero=>simp[gq]at C;subst C;exact⟨(b,E),rfl,rfl,lU t 0 E y I⟩
    |succ i=>exact T i p (by simpa [gq]using C)
   ·cases h
 |[],_::_,x,h=>by simp[xm]at h
 |_::_,[],x,h=>by simp[xm]at h
def l9(l:aa (Bool×TC×Nat)):Bool:=l.all λp=>Nat.ble (full p.2.1) p.2.2
def acv(t:TC)(g:Nat)(x:T t)(h:full t <= g):(enc t g x).all V.loc=true:=by
 rw[cu];intro y D;have E:=yC t g x y D;have hl:=L4 t g x y D;cases y with
 | sl I C q l=>
  have L:C=g:=by simpa [V.gr]using E
  subst L;have hl:=cK hl;show yX I C=true
  match C,h with
  |0,h=>omega
  |1,h=>omega
  | n+2,h=>
   simp only[yX,eA];left;exact iM (by omega)
 |_=>rfl
def VL:∀ (l:aa (Bool×TC×Nat)) (ps:aa Pt) (x:iI l),l9 l=true -> p6 l ps=some x -> (tE l x).length=ps.length /\ ∀ (nm:Nat -> Nat) (off:Nat) (C:aa Value),jD w B ah nm off ps C -> jD w B ah nm off (tE l x) C
 |[],[],x,_,h=>⟨rfl,λnm off C D=>D⟩
 | [(b,t,g)],[(E,C)],x,L,h=>by
  unfold p6 at h;cases hb:b==E with
  |false=>rw[hb]at h;cases h
  | true=>
   rw[hb]at h;have h:dec t g C=some x:=h;have hb:b=E:=by simpa using hb
   subst hb;have T:full t <= g:=by simpa [l9]using L
   refine⟨rfl,λnm off us D=>?_⟩
   match us,D with
   |[u],⟨⟨_,I⟩,_⟩=>exact⟨⟨acv t g x T,I.tK (lU t g C x h)⟩,trivial⟩
 | (b,t,g) :: q :: r,(E,C) :: ps,x,L,h=>by
  unfold p6 at h;cases hb:b==E with
  |false=>grind
  | true=>
   rw[hb,aq]at h;have hb:b=E:=by simpa using hb
   subst hb;have O:full t <= g/\l9 (q :: r)=true:=by
    simp only[l9,List.all_cons,aO]at L ⊢;simp_all
   split at h
   ·rename_i y ys I U;injection h with h;subst h;obtain⟨Y,k2⟩:=VL (q :: r) ps ys O.2 U
    refine⟨by simp[tE,Y],λnm off us D=>?_⟩
    match us,D with
    | u :: us,⟨⟨_,Z⟩,yU⟩=>
     have hlen:=(lU t g C y I).1;refine⟨⟨acv t g y O.1,Z.tK (lU t g C y I)⟩,?_⟩;simp_all
   ·cases h
 |[],_::_,x,_,h=>by simp[p6]at h
 |[_],[],x,_,h=>by simp[p6]at h
 |[_],_::_::_,x,_,h=>by simp[p6]at h
 |_::_::_,[],x,_,h=>by simp[p6]at h
def acw{l:aa (Bool×TC×Nat)}{E:fZ}{x:iI l}(L:l9 l=true)(h:l5 l E=some x){nm:Nat -> Nat}{v:Value}(D:pZ w B ah nm E v):pZ w B ah nm (eS l x) v:=by
 cases E with
 | one p=>
  obtain⟨C,I⟩:=VL (w:=w) (B:=B) (ah:=ah) l [p] x L h;have D:jD w B ah nm 0 [p] [v]:=D;have:=I nm 0 [v] D;unfold eS
  match hm:tE l x,C,this with
  |[q],_,this=>exact this
  |[],C,_=>cases C
  |_::_::_,C,_=>simp at C
 | eV ps=>
  simp only[l5]at h;cases hb:Nat.beq ps.length 1 with
  |true=>simp_all
  | false=>
   rw[hb,au]at h;obtain⟨C,I⟩:=VL (w:=w) (B:=B) (ah:=ah) l ps x L h;obtain⟨O,e,D⟩:=D;have:=I nm 0 _ D;unfold eS
   match hm:tE l x,C,this with
   |[q],C,this=>simp_all
   |[],_,this=>exact⟨O,e,this⟩
   |_::_::_,_,this=>exact⟨O,e,this⟩
def acy:∀ (l:aa (Bool×TC)) (x:kN l),(gq l x).length=l.length
 |[],x=>rfl
 |(b,t)::l,x=>by simp[gq,acy l]
def acz:∀ (l:aa (Bool×TC)) (x:kN l) (j:Nat) (p:Pt),(gq l x)[j]?=some p->∀ y∈p.2,y.aH=true
 |[],x,j,p,C,_,_=>by simp[gq]at C
 | (b,t) :: l,x,0,p,C,y,D=>by
  simp[gq]at C;subst C;obtain⟨i,hi⟩:=List.mem_iff_getElem?.1 D;exact pV t 0 x.1 (by omega) i y hi
 |(b,t)::l,x,j+1,p,C,y,D=>acz l x.2 j p (by simpa [gq]using C) y D
def HN{f:Nat}{fn:Func}{code:Code}{tY:aa Pt}{ro:aa (Bool×TC×Nat)}{y:iI ro}(hf:P.funcs[f]?=some fn)(hb:fn.body=some code)(hN:fn.ntmps=N)(O:tY.length <= N)(fB:l9 ro=true)
  (dQ:fL P Φ) (tX:pq P N Λ (occs code)) (apg:∀(j:Nat) p,tY[j]?=some p -> ∀y∈p.2,y.aH=true) (I:qg P N Φ Λ code fn.results tY (l5 ro)=some y) (nm:Nat -> Nat) (w:World) (bS:Array Value) (T:o7 w tY bS) (U:Hd w (λ_=>none)):
  Calls P f bS w λe w'=>∃v aD,e = .returned v/\Below w.heap.size w w'/\(∀b k,aD b=some k -> w.heap.size <= b/\b<w'.heap.size/\k≠[])/\pZ w' w.heap.size aD nm (eS ro y) v:=by
 have O:bS.size <= N:=by rw[T.1];exact O
 refine calls_of_wp hf hb ?_;unfold qg at I;have hR:R (.of w U) N (acs tY) { tmps:=bS++Array.replicate (fn.ntmps-bS.size) undef,defers:=[] } w:=by
  refine⟨λ_=>none,λ_=>.aC 0 0,.of (Below.refl w.heap.size w) (dx _),(λb k D=>by cases D),(λn y I=>by cases I),λj=>?_,by simp[hN];omega,rfl,(λr l h=>by cases h),(λ_ _=>rfl)⟩
  show RA w w.heap.size _ _ (match tY[j]? with|some p=>VI p|none=>.undef) _;cases Y:tY[j]? with
  |none=>trivial
  | some p=>
   obtain⟨u,Z,vf⟩:=T.2 j p Y;have hj:=(iB.1 Z).1;have e:(bS++Array.replicate (fn.ntmps-bS.size) undef).getD j undef=u:=by rw[iq,Array.getElem?_append_left hj,Z];rfl
   rw[e];exact vf.ra (apg j p Y)
 refine wp_mono (D8 (w0:=.of w U) dQ code _ _ I tX _ w hR) λe L w' C=>?_
 obtain⟨c8,D,ah,ρ,E⟩:=C;have fin:GK P c8 fn.results (l5 ro)=some y -> L.defers=[] /\ ∃ v,(results fn L.tmps).run P w' = .ok v w' /\ ∃ zF aD,Ending.returned v=Ending.returned zF/\Below w.heap.size w w'/\(∀ b k,aD b=some k -> w.heap.size <= b/\b<w'.heap.size/\k≠[])/\pZ w' w.heap.size aD nm (eS ro y) zF:=by
  intro VM;obtain⟨res,jZ,eO⟩:=amt VM;obtain⟨v,aD,h1,h2,h3⟩:=eO ah ρ L w' E nm;exact⟨E.defers,v,h1,v,aD,rfl,⟨E.below.os,E.below.tape,E.below.output,E.below.size,λk D=>E.below.block k D rfl⟩,λb k hb=>⟨(h2 b k hb).1.resolve_right (λh=>h rfl),(h2 b k hb).2⟩,acw fB jZ h3⟩
 split at D
 next C=>have C:=sI C;subst C;exact fin D
 next C=>have C:=sI C;subst C;exact fin D
 ·cases D
def aph{ai:aa (Bool×TC)}{args:aa Pt}{x:kN ai}{bS:Array Value}(E:xm ai args=some x)(C:o7 w args bS):o7 w (gq ai x) bS:=by
 obtain⟨I,L⟩:=VK ai args x E
 refine⟨C.1.trans I.symm,λj p O=>?_⟩
 obtain⟨q,T,D,U⟩:=L j p O;obtain⟨u,Y,Z⟩:=C.2 j q T;refine⟨u,Y,?_⟩;obtain⟨b,ys⟩:=p;obtain⟨b',xs⟩:=q;simp only at D;subst D;exact Z.tK U
def VN{f:Nat}{ai:aa (Bool×TC)}{ro:aa (Bool×TC×Nat)}{F:kN ai->aj (iI ro)}(h:∀ x y,F x=some y->∀ (nm:Nat->Nat) (w:World) (bS:Array Value),o7 w (gq ai x) bS->Hd w (λ_=>none)->
  Calls P f bS w λe w'=>∃v aD,e = .returned v/\Below w.heap.size w w'/\(∀b k,aD b=some k->w.heap.size<=b/\b<w'.heap.size/\k≠[])/\pZ w' w.heap.size aD nm (eS ro y) v):iu P f (gP ai ro F):=by
 refine⟨λargs X Y k g=>?_,λargs O C nm w bS D E=>?_⟩
 ·unfold gP;dsimp only;split
  ·split<;>rfl
  ·rfl
 ·simp only[gP]at C;split at C
  ·rename_i x I;split at C
   next y L=>injection C with C;subst C;exact h x y L nm w bS (aph I D) E
   ·cases C
  ·cases C
def api{f:Nat}{fn:Func}{code:Code}{ai:aa (Bool×TC)}{ro:aa (Bool×TC×Nat)}{F:kN ai->aj (iI ro)}(C:P.funcs[f]?=some fn)(hb:fn.body=some code)(D:fn.ntmps=N)(E:(fn.name == "runtime.NumGoroutine")=false)(I:Nat.ble ai.length N=true)(L:l9 ro=true)
  (O:fL P Φ) (T:pq P N Λ (occs code)) (U:∀x,qg P N Φ Λ code fn.results (gq ai x) (l5 ro)=F x):enters P f/\iu P f (gP ai ro F):=
 ⟨⟨fn,C,E,by rw[hb];rfl⟩,VN λx y Y nm w bS Z hQ=>HN C hb D (by rw[acy];exact cK I) L O T (acz ai x) ((U x).trans Y) nm w bS Z hQ⟩
def apj{f:Nat}{fn:Func}{code:Code}{t:TC}{g:Nat}{F:aa (T t)->aj (aa (T t))}(E:P.funcs[f]?=some fn)(hb:fn.body=some code)(L:fn.ntmps=N)(BQ:(fn.name == "runtime.NumGoroutine")=false)(VO:Nat.ble 1 N=true)(O:l9 [(false,.sl t,g)]=true)
  (U:fL P Φ) (Y:pq P N Λ (occs code)) (hF:∀x:aa (T t),qg P N Φ Λ code fn.results [(false,[.sl t 0 false x])] (l5 [(false,.sl t,g)])=F x)
  (h0:qg P N Φ Λ code fn.results [(false,[.nil])] (l5 [(false,.sl t,g)])=some ([]:aa (T t))) (h1:qg P N Φ Λ code fn.results [(false,[.sl t 0 true []])] (l5 [(false,.sl t,g)])=some ([]:aa (T t))):
  enters P f/\iu P f (gP [(false,.sl t)] [(false,.sl t,g)] λx=>bif jC x.1 then some ([]:aa (T t))else F x.1):=by
 refine⟨⟨fn,E,BQ,by rw[hb];rfl⟩,VN λx y D nm w bS I Z=>?_⟩
 obtain⟨l,_⟩:=x;have I:o7 w [(false,[.sl t 0 false l])] bS:=I;have hle:1<=N:=cK VO;have NJ:∀ (v:V),v.aH=true->∀ (j:Nat) p,([(false,[v])]:aa Pt)[j]?=some p->∀ y∈p.2,y.aH=true:=by
  intro v hv j p C y D;rcases j with _|j
  ·injection C with C;subst C;rw[kI.1 D];exact hv
  ·cases C
 obtain⟨u,hu,C⟩:=I.2 0 _ rfl;obtain⟨us,e,_,hv⟩:=C.pv;have e:us = #[u]:=e;subst e;obtain⟨v,g1,hr⟩:=hv 0 _ rfl;have g1:u=v:=by simpa using g1
 subst g1;have one:∀ v:V,RV w w.heap.size (λ_=>none) [] v u->o7 w [(false,[v])] bS:=λv hr=>⟨I.1,λj p C=>by
  rcases j with _|j
  ·injection C with C;subst C;exact⟨u,hu,.v _ _ ⟨#[u],rfl,rfl,λi x hx=>by
    rcases i with _|i
    ·injection hx with hx;subst hx;exact⟨u,rfl,hr⟩
    ·cases hx⟩⟩
  ·cases C⟩
 cases l with
 |cons a l=>exact HN (tY:=[(false,[.sl t 0 false (a::l)])]) E hb L hle O U Y (NJ _ rfl) ((hF _).trans D) nm w bS I Z
 | nil=>
  have D:some ([]:aa (T t))=some y:=D;injection D with D;subst D;cases hr with
  |eD=>exact HN (tY:=[(false,[.nil])]) E hb L hle O U Y (NJ _ rfl) h0 nm w bS (one _ (.nil _)) Z
  |fF _ _ _ A c ho=>exact HN (tY:=[(false,[.sl t 0 true []])]) E hb L hle O U Y (NJ _ rfl) h1 nm w bS (one _ (.fV _ _ _ _ _ ho)) Z
  |aH _ _ _ qn l b off cap us ho hl Mg hB lV hc qW=>exact HN (tY:=[(false,[.sl t 0 true []])]) E hb L hle O U Y (NJ _ rfl) h1 nm w bS (one _ (.fV _ _ _ _ _ ho)) Z
end
def HO(N:Nat)(σ:S)(t:Nat):S:=match σ.t t with
 | .view [q] s 0 j=>bif Nat.blt t N then (match σ.m q with
  |some (.sl (.sl C (o+2) D l))=>bif Nat.beq (full C) 0 then (((σ.drop q).drop t).root t (.sl (.sl C 2 false (l.take j)))).set t (.lf (.own [t]))else σ
  |_=>σ)else σ
 |_=>σ
def vo(N:Nat)(σ:S):aa ResultVar->S
 |[]=>σ
 |.tmp t::r=>vo N (HO N σ t) r
 |_::r=>vo N σ r
def BR{X:Type}(P:Program)(N:Nat)(Φ:ep)(Λ:mM)(code:Code)(C:Array ResultVar)(D:aa In)(args:aa Ar)(k:aa In->fZ->aj X):aj X:=
 lH P N Φ Λ code (wU D args) λe σ=>match zE e with
  |some 0=>GQ P (vo N σ C.toList) C D k
  |some 1=>GQ P (vo N σ C.toList) C D k
  |_=>none
section
variable {P:Program} {w w':World} {w0:Wd} {B N:Nat} {ah aD:bE} {ρ ρ':Nat->Loc} {σ:S} {a:Act} {X:Type} {d:Nat} {r:X} {o:Oper} {Φ:ep} {Λ:mM}
def Rl.HO{t:Nat}(h:Rl w0 N ah ρ σ a w):∃ aD ρ',Rl w0 N aD ρ' (Proofs.YtgjfmljpdnnihaaGreat.HO N σ t) a w:=by
 unfold Proofs.YtgjfmljpdnnihaaGreat.HO;split
 ·rename_i q s j ht;cases hN:Nat.blt t N with
  |false=>exact⟨ah,ρ,h⟩
  | true=>
   have hN:t<N:=by have:=cK hN;omega
   rw[aq];split
   ·rename_i E g qn l hm;cases U:Nat.beq (full E) 0 with
    |false=>exact⟨ah,ρ,h⟩
    | true=>
     have U:=cC U;rw[aq];have hv:=h.tmp t;rw[ht]at hv;obtain⟨A,n,c,Y,_,hj,hu⟩:=hv;have gf:sliced A 0 j c s = .slice A j c:=by cases A<;>simp[sliced,Addr.add]
     rw[gf]at hu;let D:bE:=λb=>match ah b with
      |some k=>bif cS q k then (bif Nat.beq k.length 1 then some [t]else none)else some k
      |none=>none
     have hrel:Rel q ah D:=⟨h.wJ,λb hb=>by simp[D,hb],λb k hb C=>by simp[D,hb,C]⟩
     have h1:=h.rel hrel (λb k C=>by
      simp only[D]at C;cases hl:ah b with
      |none=>rw[hl]at C;cases C
      | some k'=>
       rw[hl]at C;simp only at C;refine⟨⟨_,rfl⟩,?_⟩;cases hq:cS q k' with
       | true=>
        rw[hq,aq]at C;cases hlen:Nat.beq k'.length 1 with
        |true=>rw[hlen,aq]at C;injection C with C;rw[<- C];simp
        |false=>rw[hlen,au]at C;cases C
       | false=>
        rw[hq,au]at C;injection C with C;subst C;exact(h.cX b k' hl).2.2)
     have fB:=h.root q _ hm;generalize L:aW.sl (.sl E (g+2) qn l)=z at fB;cases fB with
     |aC=>cases L
     |mp=>cases L
     |gh=>cases L
     | sl v y cN O=>
      injection L with L;subst L;simp only[cW,cN]at Y;injection Y with Y;subst Y;have hn:n=l.length:=by cases O<;>rfl
      have apk:RV w w0.heap.size D [t] (.sl E 2 false (l.take j)) (.slice A j c):=by
       cases O with
       | eD=>
        have:j=0:=by simpa using hj
        subst this;exact .eD _ _ _
       |fF _ _ _ _ _ ho=>omega
       |fV _ _ _ _ _ ho=>omega
       |aH _ _ _ _ _ _ _ _ _ ho=>omega
       | own _ _ _ _ _ b cap cs us pX hh hs Ba r8 hc O=>
        have hl:(l.take j).length=j:=by rw[fU];omega
        have hle:∀i (hi:i<(l.take j).length),∃Z:i<l.length,(l.take j)[i]=l[i]:=λi hi=>⟨by omega,List.getElem_take⟩
        have:=RV.own (w:=w) (B:=w0.heap.size) (ah:=D) [t] E 0 false (l.take j) b c cs us (by simp[D,pX,cS]) hh hs (by omega) ⟨r8.1,λh=>by cases h⟩ (λi hi k x T=>by
         obtain⟨Z,e⟩:=hle i hi;rw[e,Dw E U 0]at T;exact hc i Z k x T) (λi hi k x T=>by
         obtain⟨Z,e⟩:=hle i hi;rw[e,Dw E U 0]at T;exact(O i Z k x T).tj (yB E g _ U x (gF T)))
        rw[hl]at this;exact this
      have hrm:Dt w w D D t:=⟨dx _,λ_ _ _=>rfl,λ_ _=>rfl,h1.wJ⟩
      have I:=h1.yK (d:=t) (ρ':=bV ρ t (.dJ (.slice A j c))) (x:=.sl (.sl E 2 false (l.take j))) (h.dj t (.inl hN)) ⟨rfl,rfl,rfl,dx _,λ_ _ _=>rfl⟩ hrm (λb k hb C=>by
       have:=(h1.cX b k C).2.1;omega) (λr O=>cH _ _ _ O) (.sl _ _ (cc _ _ _) apk)
      refine⟨_,_,I.below,I.cX,I.root,λk=>?_,I.size,I.defers,I.fix,I.dj⟩
      show RA w w0.heap.size D _ (bV _ t _ k) _;by_cases C:k=t
      ·subst C;rw[cc,hu];exact⟨rfl,by simp only[cW,cc]⟩
      ·rw[cH _ _ _ C];exact I.tmp k
   ·exact⟨ah,ρ,h⟩
 ·exact⟨ah,ρ,h⟩
def Rl.vo:∀ (l:aa ResultVar) (σ:S) (ah:bE) (ρ:Nat -> Loc),Rl w0 N ah ρ σ a w -> ∃ aD ρ',Rl w0 N aD ρ' (Proofs.YtgjfmljpdnnihaaGreat.vo N σ l) a w
 |[],_,ah,ρ,h=>⟨ah,ρ,h⟩
 | .tmp t :: r,_,_,_,h=>by
  obtain⟨C,D,E⟩:=h.HO;exact Rl.vo r _ C D E
 |.cell _ _::r,_,ah,ρ,h=>Rl.vo r _ ah ρ h
def fnM_core{f:Nat}{fn:Func}{code:Code}{C:aa In}{args:aa Ar}{k:aa In -> fZ -> aj X}(hf:P.funcs[f]?=some fn)(hb:fn.body=some code)(hN:fn.ntmps=N)(Ed:N <= 20000)(hlen:args.length <= N)
  (dQ:fL P Φ) (tX:pq P N Λ (occs code)) (h:BR P N Φ Λ code fn.results C args k=some r) (nm:Nat -> Nat) (w:World) (ah:bE) (ρ:Nat -> Loc) (bS:Array Value)
  (hE:o9 w w.heap.size ah ρ 0 C) (om:∀b k,ah b=some k -> b<w.heap.size/\k≠[]) (iA:bS.size=args.length) (hv:∀i,RA w w.heap.size ah ρ ((wU C args).t i) (bS.getD i undef)) (T:Hd w ah):
  Calls P f bS w λe w'=>∃v aD outs D,k outs D=some r/\e = .returned v/\je ⟨w,ah,λ_=>none,T,λ_ _=>rfl⟩ w w'/\(∀b k,aD b=some k -> (w.heap.size <= b \/ ah b≠none)/\b<w'.heap.size/\k≠[])/\pZ w' w.heap.size aD nm D v/\q8 w w' aD ρ nm 0 D.len C outs:=by
 let W:Wd:=⟨w,ah,λr=>if 20000 <= r/\r<60000 then some (ρ r)else none,T,λr hr=>bJ⟩
 refine calls_of_wp hf hb ?_;unfold BR at h;have hR:R W N (wU C args) { tmps:=bS++Array.replicate (fn.ntmps-bS.size) undef,defers:=[] } w:=by
  refine⟨ah,ρ,.of (Below.refl w.heap.size w) (dx _),λb k hb=>⟨.inr (by rw[show W.L b=ah b from rfl,hb];simp),om b k hb⟩,o9.roots C 0 _ hE (λr x hx=>by cases hx),λj=>?_,by simp[hN];omega,rfl,λr l hr=>?_,λr hr=>?_⟩
  ·by_cases hj:j<bS.size
   ·have e:(bS++Array.replicate (fn.ntmps-bS.size) undef).getD j undef=bS.getD j undef:=by
     rw[iq,Array.getElem?_append_left hj,iq]
    rw[e];exact hv j
   ·have e:(wU C args).t j = .undef:=by
     simp only[wU,List.getElem?_eq_none (by omega:args.length <= j)]
    rw[e];trivial
  ·grind
  ·grind
 refine wp_mono (D8 (w0:=W) dQ code _ _ h tX _ w hR) λe U w' E=>?_
 obtain⟨c8,O,DJ,DH,I⟩:=E;have fin:GQ P (Proofs.YtgjfmljpdnnihaaGreat.vo N c8 fn.results.toList) fn.results C k=some r -> U.defers=[] /\ ∃ v,(results fn U.tmps).run P w' = .ok v w' /\ ∃ zF aD outs D,k outs D=some r/\Ending.returned v=Ending.returned zF/\je ⟨w,ah,λ_=>none,T,λ_ _=>rfl⟩ w w'/\(∀ b k,aD b=some k -> (w.heap.size <= b \/ ah b≠none)/\b<w'.heap.size/\k≠[])/\pZ w' w.heap.size aD nm D zF/\q8 w w' aD ρ nm 0 D.len C outs:=by
  intro VM;obtain⟨outs,D,hko,eO⟩:=amv (w0:=W) rfl (λr Y Z=>bH ⟨Y,Z⟩) (o9.TQ C 0 hE) VM;obtain⟨dA,eY,lD⟩:=Rl.vo _ c8 DJ DH I;obtain⟨v,aD,Y,Z,h3,h4⟩:=eO dA eY U w' lD nm;exact⟨I.defers,v,Y,v,aD,outs,D,hko,rfl,⟨I.below.os,I.below.tape,I.below.output,I.below.size,λk O=>I.below.block k O⟩,Z,h3,h4⟩
 split at O
 next E=>have E:=sI E;subst E;exact fin O
 next E=>have E:=sI E;subst E;exact fin O
 ·cases O
end
def rE:(l:aa (Bool×TC×Nat))->aa In->aj (q9 l)
 |[],[]=>some ()
 | (true,t,g) :: r,.aC cs :: is=>match dec t g cs,rE r is with
  |some x,some xs=>some (x,xs)
  |_,_=>none
 | (false,t,g) :: r,.sl y :: is=>match (bif Nat.ble 1000000 g then (bif y.jW then none else y.fh t (g+2))else bif y.jW then y.fh t (g+2)else none),rE r is with
  |some x,some xs=>some (x,xs)
  |_,_=>none
 |_,_=>none
def NK:aa In->aa In->aa In->Prop
 |[],[],[]=>True
 |.aC I::C,.aC cs::r,.aC eT::D=>(kZ cs eT/\I.map (λv=>(v.plain,v.aH))=eT.map (λv=>(v.plain,v.aH))/\∀x∈eT,x.jW=true)/\NK C r D
 |.sl _::C,.sl y::r,.sl E::D=>(Wk y E/\(y = .nil->E = .nil))/\NK C r D
 |_,_,_=>False
def NL:∀ (ps:aa PK) (C:lE ps) (is:aa In) (x:q9 (eF ps)),rE (eF ps) is=some x -> NK (nJ ps C) is (iS (eF ps) x)
 |[],_,[],x,_=>trivial
 |[],_,_::_,x,h=>by simp[rE,eF]at h
 |.v b t::ps,C,is,x,h=>NL ps C.2 is x h
 |.p t g off::ps,C,[],x,h=>by simp[rE,eF]at h
 |.s t g::ps,C,[],x,h=>by simp[rE,eF]at h
 |.p t g off::ps,C,.sl _::_,x,h=>by simp[rE,eF]at h
 |.s t g::ps,C,.aC _::_,x,h=>by simp[rE,eF]at h
 | .p t g off :: ps,C,.aC cs :: is,x,h=>by
  have h:rE ((true,t,g)::eF ps) (.aC cs::is)=some x:=h;unfold rE at h;split at h
  next y ys D I=>injection h with h;subst h;exact⟨⟨lU t g cs y D,alz t g C.1 y,λz L=>SJ t g y z L⟩,NL ps C.2 is ys I⟩
  ·cases h
 | .s t g :: ps,C,.sl y :: is,x,h=>by
  have h:rE ((false,t,g)::eF ps) (.sl y::is)=some x:=h;unfold rE at h;split at h
  ·rename_i z O D I;injection h with h;subst h;refine⟨?_,NL ps C.2 is O I⟩;cases hb:Nat.ble 1000000 g with
   | true=>
    cases E:y.jW with
    |true=>simp_all
    | false=>
     have:y = .nil:=by cases y<;>first|rfl|cases E
     subst this;exact⟨.same _,λ_=>rfl⟩
   | false=>
    cases E:y.jW with
    |false=>simp_all
    | true=>
     rw[hb,E]at D;exact⟨V.F7 D,λe=>by subst e;cases E⟩
  ·cases h
def q8.typed{w w':World}{aD:bE}{ρ:Nat -> Loc}{nm:Nat -> Nat}:∀ (E:aa In) (i U:Nat) (outs O:aa In),q8 w w' aD ρ nm i U E outs -> NK E outs O -> GP w w' aD ρ nm i U E O
 |[],i,U,[],[],h,C=>trivial
 | .aC cs0 :: E,i,U,.aC cs1 :: outs,.aC cs2 :: O,h,C=>by
  obtain⟨⟨b,off,cells,wV,e,e',Y,Z,h3,h4,h5,h6,h7⟩,hr⟩:=h;obtain⟨⟨T,VP,hnn⟩,oZ⟩:=C
  refine⟨⟨b,off,cells,wV,e,e',Y,Z,h3,h4,by rw[<- T.1];exact h5,by rw[<- T.1];exact h6,λj x hx=>?_⟩,q8.typed E _ _ outs O hr oZ⟩
  have hj:j<cs1.length:=by rw[T.1];exact(dO.1 hx).1
  obtain⟨u,hu,hc⟩:=h7 j _ (bQ hj);have C:=T.2 j _ x (bQ hj) hx;have VQ:∀ I,cs0[j]?=some I -> I.plain=x.plain/\I.aH=x.aH:=by
   intro I h0;have e1:(cs0.map (λv=>(v.plain,v.aH)))[j]?=(cs2.map (λv=>(v.plain,v.aH)))[j]?:=by rw[VP]
   grind
  have hxn:=hnn x (gF hx);generalize cs1[j]=y at hc C;refine⟨u,hu,?_⟩;rcases hc with ⟨D,L⟩|⟨D,L,I,c3,c4⟩|⟨D,L,c6,⟨I,c3,c4⟩,c5⟩|⟨D,L⟩
  ·cases C with
   |same=>grind
   |nil t o=>cases D
   |q t o l=>cases D
   |gr=>cases D
  ·subst D L;have hf:x.aH=false:=by rw[<- (VQ I c3).2];exact c4
   cases C with
   |same=>cases hxn
   |nil t o=>exact .inr (.inr ⟨hf,.eD _ _ _⟩)
  ·cases C with
   |same=>grind
   |nil t o=>cases c6
   |q t o l=>exact .inr (.inl ⟨rfl,L,c5⟩)
   |gr t o o' qn l Y Z=>simp[V.aH]at L;omega
  ·have hf:=C.TW D;exact .inr (.inr ⟨hf,L.wk C⟩)
 | .sl y0 :: E,i,U,.sl y1 :: outs,.sl y2 :: O,h,C=>by
  obtain⟨h,hr⟩:=h;obtain⟨⟨T,hn⟩,oZ⟩:=C;exact⟨h.imp hn (λ⟨v,Y,Z⟩=>⟨v,Y,Z.wk T⟩),q8.typed E _ _ outs O hr oZ⟩
 |[],_,_,_::_,_,h,_=>h.elim
 |[],_,_,[],_::_,_,h=>h.elim
 |.aC _::_,_,_,[],_,h,_=>h.elim
 |.sl _::_,_,_,[],_,h,_=>h.elim
 |.aC _::_,_,_,.sl _::_,_,h,_=>h.elim
 |.sl _::_,_,_,.aC _::_,_,h,_=>h.elim
 |.aC _::_,_,_,.aC _::_,[],_,h=>h.elim
 |.aC _::_,_,_,.aC _::_,.sl _::_,_,h=>h.elim
 |.sl _::_,_,_,.sl _::_,[],_,h=>h.elim
 |.sl _::_,_,_,.sl _::_,.aC _::_,_,h=>h.elim
def acA:∀ (l:aa (Bool×TC×Nat)) (ps:aa Pt) (x:iI l),p6 l ps=some x -> (ps.map λp=>p.2.length)=((tE l x).map λp=>p.2.length)
 |[],[],x,h=>rfl
 | [(b,t,g)],[(C,D)],x,h=>by
  unfold p6 at h;cases hb:b==C with
  |false=>rw[hb]at h;cases h
  | true=>
   rw[hb]at h;simp[tE,(lU t g D x h).1]
 | (b,t,g) :: q :: r,(C,D) :: ps,x,h=>by
  unfold p6 at h;cases hb:b==C with
  |false=>simp_all
  | true=>
   rw[hb]at h;split at h
   next y ys E I=>injection h with h;subst h;simp only[tE,List.map_cons];rw[acA _ ps ys I,(lU t g D y E).1]
   ·cases h
def apl{l:aa (Bool×TC×Nat)}{C:fZ}{x:iI l}(h:l5 l C=some x):C.len=(eS l x).len:=by
 have key:∀ ps,p6 l ps=some x -> (ps.map λp=>p.2.length).sum=(eS l x).len:=by
  intro ps h;rw[acA l ps x h];unfold eS
  match hm:tE l x with
  |[q]=>simp[fZ.len]
  |[]=>rfl
  |_::_::_=>rfl
 cases C with
 |one p=>have:=key [p] h;simpa [fZ.len]using this
 | eV ps=>
  simp only[l5]at h;cases hb:Nat.beq ps.length 1 with
  |true=>simp_all
  |false=>rw[hb]at h;exact key ps h
section
variable {P:Program} {w w':World} {w0:Wd} {B N:Nat} {ah aD:bE} {ρ ρ':Nat->Loc} {σ:S} {a:Act} {X:Type} {d:Nat} {r:X} {o:Oper} {Φ:ep} {Λ:mM}
def Ee(l ro:aa (Bool×TC×Nat))(outs:aa In)(C:fZ):aj (iI ro×q9 l):=
 match l5 ro C,rE l outs with
 |some x,some y=>some (x,y)
 |_,_=>none
def NM{f:Nat}{fn:Func}{code:Code}{ps:aa PK}{ro:aa (Bool×TC×Nat)}{F:lE ps->aj (iI ro×q9 (eF ps))}(I:P.funcs[f]?=some fn)(hb:fn.body=some code)(O:fn.ntmps=N)(T:(fn.name == "runtime.NumGoroutine")=false)(U:Nat.ble ps.length N=true)(Y:Nat.ble N 20000=true)(Z:l9 ro=true)
  (dQ:fL P Φ) (tX:pq P N Λ (occs code)) (hF:∀x,BR P N Φ Λ code fn.results (nJ ps x) (ke ps 0 x) (Ee (eF ps) ro)=F x):enters P f/\va P f ⟨ps,ro,F⟩:=by
 refine⟨⟨fn,I,T,by rw[hb];rfl⟩,λx y h nm w ah ρ bS hE om D hv hQ=>?_⟩
 have h:F x=some y:=h;rw[<-hF x]at h;have hlen:∀ (ps:aa PK) (i:Nat) (x:lE ps),(ke ps i x).length=ps.length:=by
  intro ps
  induction ps with
  |nil=>intro i x;rfl
  | cons p ps E=>
   intro i x;cases p with
   |v=>exact bq (· + 1) (E _ _)
   |p=>exact bq (· + 1) (E _ _)
   |s=>exact bq (· + 1) (E _ _)
 have D:bS.size=(ke ps 0 x).length:=by rw[hlen];exact D
 refine(fnM_core I hb O (cK Y) (by rw[hlen];exact cK U) dQ tX h nm w ah ρ bS hE om D hv hQ).mono λe w' q5=>?_
 obtain⟨v,aD,outs,res,C,he,sr,hl,jZ,T7⟩:=q5;unfold Ee at C;split at C
 next y1 y2 L h2=>injection C with C;subst C;refine⟨v,aD,he,sr,hl,acw Z L jZ,?_⟩;rw[<-apl L];exact q8.typed _ _ _ _ _ T7 (NL ps x outs y2 h2)
 ·cases C
end
set_option maxRecDepth 100000
def NN(σ:S)(C:Array ResultVar):aj Int:=
 match C.toList with
 | [.tmp t]=>(match σ.t t with
  | .aG r 0=>(match σ.m r with
   |some (.aC [.own [n],.v (.int .i64 z),.v (.int .i64 h)])=>bif Nat.beq n 20000&&z==0 then some h else none
   |_=>none)
  |_=>none)
 |_=>none
def acB(P:Program)(N:Nat)(Φ:ep)(Λ:mM)(code:Code)(C:Array ResultVar)(l:aa (T .u8)):aj Int:=
 lH P N Φ Λ code (wU [.sl (.sl .u8 0 false l)] [.mut 0 0]) λe σ=>match zE e with
  |some 0=>NN σ C
  |some 1=>NN σ C
  |_=>none
section
variable {P:Program} {w w':World} {w0:Wd} {B N:Nat} {ah aD:bE} {ρ ρ':Nat->Loc} {σ:S} {a:Act} {X:Type} {d:Nat} {r:X} {o:Oper} {Φ:ep} {Λ:mM}
def apm{f:Nat}{fn:Func}{code:Code}{F:aa Int->aj Int}(hf:P.funcs[f]?=some fn)(hb:fn.body=some code)(hN:fn.ntmps=N)(BQ:(fn.name == "runtime.NumGoroutine")=false)(hN1:Nat.ble 1 N=true)(Ed:Nat.ble N 20000=true)
  (dQ:fL P Φ) (tX:pq P N Λ (occs code)) (hF:∀l,acB P N Φ Λ code fn.results l=F l):enters P f/\MW P f F:=by
 refine⟨⟨fn,hf,BQ,by rw[hb];rfl⟩,λw l h v hh hv hQ=>?_⟩
 rw[<-hF l]at hh;unfold acB at hh;have hN1:=cK hN1;have Ed:=cK Ed;let W:Wd:=⟨w,λ_=>none,λr=>if 20000<=r/\r<60000 then some (.dJ v)else none,hQ,λr E=>bJ⟩
 refine calls_of_wp hf hb ?_;have hR:R W N (wU [.sl (.sl .u8 0 false l)] [.mut 0 0]) { tmps:=#[v]++Array.replicate (fn.ntmps-(#[v]:Array Value).size) undef,defers:=[] } w:=by
  refine⟨λ_=>none,λ_=>.dJ v,.of (Below.refl w.heap.size w) (dx _),(λb k hb=>by cases hb),λn y L=>?_,λj=>?_,by simp[hN];omega,rfl,λr l E=>?_,λr E=>?_⟩
  ·have L:bV (λ_=>none) (nF 0) (some (.sl (.sl .u8 0 false l))) n=some y:=L;by_cases Y:n=nF 0
   ·subst Y;rw[cc]at L;injection L with L;subst L;exact .sl v _ rfl (hv.key rfl)
   ·rw[cH _ _ _ Y]at L;cases L
  ·cases j with
   | zero=>
    have e:(#[v]++Array.replicate (fn.ntmps-(#[v]:Array Value).size) undef).getD 0 undef=v:=by
     rw[iq,Array.getElem?_append_left (by simp)];rfl
    show RA w w.heap.size _ _ (.lf (.own [nF 0])) ((#[v]++Array.replicate (fn.ntmps-(#[v]:Array Value).size) undef).getD 0 undef);rw[e];exact⟨hv.mD rfl rfl,rfl⟩
   |succ j=>exact trivial
  ·have E:(if 20000<=r/\r<60000 then some (Loc.dJ v)else none)=some l:=E;split at E
   ·injection E
   ·cases E
  ·show (if 20000<=r/\r<60000 then some (Loc.dJ v)else none)=none;rw[bJ]
 refine wp_mono (D8 (w0:=W) dQ code _ _ hh tX _ w hR) λe Z w' I=>?_
 obtain⟨c8,O,DJ,DH,D⟩:=I;have fin:NN c8 fn.results=some h->Z.defers=[]/\∃ u,(results fn Z.tmps).run P w' = .ok u w'/\∃ b off cells t,Ending.returned u = .returned (.pointer (some ⟨b,off,none⟩))/\Below w.heap.size w w'/\w.heap.size<=b/\w'.heap[b]?=some (.cells cells t (0,0))/\cells[off]?=some v/\cells[off+1]?=some (.int .i64 0)/\cells[off+2]?=some (.int .i64 h):=by
  intro C;unfold NN at C;split at C
  ·rename_i t ht;split at C
   ·rename_i r E;split at C
    ·rename_i n z h' hm;cases hb:(Nat.beq n 20000&&z==0)with
     |false=>rw[hb]at C;cases C
     | true=>
      rw[hb,aq]at C;injection C with C;subst C;rw[aO]at hb;have Y:=cC hb.1;have hz:z=0:=by simpa using hb.2
      subst Y hz;have h1:=D.tmp t;rw[E]at h1;obtain⟨b,off,e1,e2⟩:=h1;have h2:=D.root r _ hm;generalize T:aW.aC _=x at h2;cases h2 with
      |sl=>cases T
      |mp=>cases T
      |gh=>cases T
      | aC b' A6 cells e cs us cN hl DD hs hc=>
       injection T with T;subst T;rw[cN]at e1;injection e1 with e3 e4;subst e3 e4;obtain⟨c0,U⟩:=hc 0 _ rfl;obtain⟨c1,d1⟩:=hc 1 _ rfl;obtain⟨c2,d2⟩:=hc 2 _ rfl;have U:=U.2;have VR:=D.fix 20000 (.dJ v) rfl;simp only[cW,VR]at U;injection U with U;rw[<-U]at c0;rw[d1.2.gJ]at c1;rw[d2.2.gJ]at c2
       refine⟨D.defers,_,?_,b',A6,cells,e,rfl,⟨D.below.os,D.below.tape,D.below.output,D.below.size,λk O=>D.below.block k O rfl⟩,?_,DD,c0,c1,c2⟩
       ·have jZ:results fn Z.tmps=(do let vs <-fn.results.mapM (q7 Z.tmps);pure (if h:vs.size=1 then vs[0]else .tuple vs)):=by
         unfold results;congr 1
        have qe:fn.results = #[.tmp t]:=by apply Array.ext';exact ht
        rw[jZ,qe,Array.mapM_eq_mapM_toList];simp[q7,e2]
       ·have:=(D.cX b' _ hl).1;exact this.resolve_right (λh=>h rfl)
    ·cases C
   ·cases C
  ·cases C
 split at O
 next I=>have I:=sI I;subst I;exact fin O
 next I=>have I:=sI I;subst I;exact fin O
 ·cases O
end
def nV(i j:Nat):Nat:=20001+1000*i+j
def Ef(i j:Nat)(x:V):Lf:=match x with
 |.sl ..=>.own [nV i j]
 |x=>.v x
def xo(i:Nat):Nat->aa V->aa Lf
 |_,[]=>[]
 |j,x::xs=>Ef i j x::xo i (j+1) xs
def VS(args:aa Pt)(n:Nat):aj aW:=bif Nat.ble 20001 n&&Nat.blt n 60000 then (match args[(n-20001) / 1000]? with
 | some (_,xs)=>(match xs[(n-20001) % 1000]? with
  |some (.sl t g q l)=>some (.sl (.sl t g q l))
  |_=>none)
 |none=>none)else none
def acC(args:aa Pt):S:=⟨λi=>match args[i]? with
 |some (false,[x])=>.lf (Ef i 0 x)
 |some (true,xs)=>.agg (xo i 0 xs)
 |_=>.undef,VS args⟩
def NO(σ:S)(C:Array ResultVar)(a j:Nat)(t:TC):aj (Nat×Nat):=match C.toList with
 | [.tmp s]=>(match σ.t s with
  |.view [n] D i k=>bif Nat.beq n (nV a j)&&Nat.beq D (aF t)then some (i,k)else none
  |_=>none)
 |_=>none
def acD(P:Program)(N:Nat)(Φ:ep)(Λ:mM)(code:Code)(C:Array ResultVar)(a j:Nat)(t:TC)(args:aa Pt):aj (Nat×Nat):=
 lH P N Φ Λ code (acC args) λe σ=>match zE e with
  |some 0=>NO σ C a j t
  |some 1=>NO σ C a j t
  |_=>none
def VT(ai:aa (Bool×TC))(a j:Nat)(t:TC)(F:kN ai->aj (Nat×Nat)):Bu:=⟨a,j,t,λargs=>match xm ai args with
 |some x=>F x
 |none=>none⟩
section
variable {P:Program} {w w':World} {w0:Wd} {B N:Nat} {ah aD:bE} {ρ ρ':Nat->Loc} {σ:S} {a:Act} {X:Type} {d:Nat} {r:X} {o:Oper} {Φ:ep} {Λ:mM}
def acE(i:Nat):∀ (xs:aa V) (C j:Nat),(xo i C xs)[j]?=(xs[j]?).map λx=>Ef i (C+j) x
 |[],C,j=>by simp[xo]
 |x::xs,C,0=>by simp[xo]
 | x :: xs,C,j+1=>by
  simp[xo,List.getElem?_cons_succ,acE]
  grind
def acF(i:Nat):∀ (xs:aa V) (C:Nat),(xo i C xs).length=xs.length
 |[],_=>rfl
 |x::xs,C=>by simp[xo,acF i xs (C+1)]
def acG{i j:Nat}(h:j<1000):(nV i j-20001) / 1000=i/\(nV i j-20001) % 1000=j:=by
 unfold nV;omega
def zG(bS:Array Value)(n:Nat):Loc:=.dJ ((tP bS ((n-20001) / 1000) ((n-20001) % 1000)).getD undef)
def acH{bS:Array Value}{i j:Nat}{x:V}{u:Value}(D:j<1000)(E:tP bS i j=some u)(I:x.aH=true)(C:RV w B (λ_=>none) [] x u):dP w B (λ_=>none) (zG bS) (Ef i j x) u:=by
 unfold Ef;split
 ·refine⟨C.mD rfl rfl,?_⟩;obtain⟨L,O⟩:=acG (i:=i) D;simp only[cW,zG,L,O,E];rfl
 ·exact⟨I,C⟩
def apn{f:Nat}{fn:Func}{code:Code}{ai:aa (Bool×TC)}{L O:Nat}{t:TC}{F:kN ai -> aj (Nat×Nat)}(hf:P.funcs[f]?=some fn)(hb:fn.body=some code)(hN:fn.ntmps=N)(BQ:(fn.name == "runtime.NumGoroutine")=false)(VO:Nat.ble ai.length N=true)(Ed:Nat.ble N 20000=true)(iA:(ai.all λp=>Nat.blt (aF p.2) 1000&&(p.1 || Nat.beq (aF p.2) 1))=true)(hjj:Nat.blt O 1000=true)(haa:Nat.blt L 30=true)
  (dQ:fL P Φ) (tX:pq P N Λ (occs code)) (hF:∀x,acD P N Φ Λ code fn.results L O t (gq ai x)=F x):enters P f/\MX P f (VT ai L O t F):=by
 refine⟨⟨fn,hf,BQ,by rw[hb];rfl⟩,λargs p h w bS o8 hQ=>?_⟩
 simp only[VT]at h;split at h
 ·rename_i x hx;obtain⟨k1,k2⟩:=VK ai args x hx;have hlen:∀ (l:aa (Bool×TC)) (x:kN l),(gq l x).length=l.length:=by
   intro l
   induction l with
   |nil=>intro x;rfl
   |cons p l ih=>obtain⟨b,t⟩:=p;intro x;simp[gq,ih]
  have lz:bS.size=ai.length:=by rw[o8.1,<- k1,hlen]
  have hle:bS.size <= N:=by rw[lz];exact cK VO
  have Ed:=cK Ed;have qe:∀ (l:aa (Bool×TC)) (x:kN l),(l.all λp=>Nat.blt (aF p.2) 1000&&(p.1 || Nat.beq (aF p.2) 1))=true -> ∀ (j:Nat) p,(gq l x)[j]?=some p -> (∀ y∈p.2,y.aH=true)/\p.2.length<1000/\(p.1=true \/ p.2.length=1):=by
   intro l
   induction l with
   |nil=>intro x _ j p T;simp[gq]at T
   | cons c l ih=>
    obtain⟨b,t⟩:=c;intro x hs j p T;rw[List.all_cons,aO]at hs;cases j with
    | zero=>
     simp[gq]at T;subst T
     refine⟨λy C=>?_,?_⟩
     ·obtain⟨i,hi⟩:=List.mem_iff_getElem?.1 C;exact pV t 0 x.1 (by omega) i y hi
     ·show (enc t 0 x.1).length<1000/\(b=true \/ (enc t 0 x.1).length=1);rw[kL];have h8:=hs.1;rw[aO,eA]at h8;have h9:=cK h8.1;exact⟨h9,h8.2.imp id cC⟩
    |succ j=>exact ih x.2 hs.2 j p (by simpa [gq]using T)
  have qS:∀ (i:Nat) (p:Pt),(gq ai x)[i]?=some p -> ∃ u:Value,bS[i]?=some u/\PV w w.heap.size (λ_=>none) (λ_=>[]) p u/\(∀ y∈p.2,y.aH=true)/\p.2.length<1000:=by
   intro i p T;obtain⟨q,hq,Dx,Be⟩:=k2 i p T;obtain⟨u,U,vf⟩:=o8.2 i q hq;obtain⟨g1,g2,g3⟩:=qe ai x iA i p T;refine⟨u,U,?_,g1,g2⟩;obtain⟨b,ys⟩:=p;obtain⟨b',xs⟩:=q;simp only at Dx;subst Dx;have hw:=vf.tK Be;rcases g3 with g3|g3
   ·simp only at g3;subst g3;exact hw.pvS
   ·obtain⟨y,rfl⟩:=List.length_eq_one_iff.1 g3;cases b' with
    |true=>exact hw.pvS
    |false=>exact hw.pv
  have VU:∀ (i:Nat) (p:Pt),(gq ai x)[i]?=some p -> ∀ (j:Nat) y,p.2[j]?=some y -> ∃ u,tP bS i j=some u/\RV w w.heap.size (λ_=>none) [] y u/\y.aH=true/\j<1000:=by
   intro i p T j y C;obtain⟨u,U,⟨us,D,h2,h3⟩,h4,h5⟩:=qS i p T;obtain⟨v,E,I⟩:=h3 j y C;refine⟨v,?_,I,h4 y (gF C),by have:=(dO.1 C).1;omega⟩;unfold tP;rw[U];obtain⟨b,ys⟩:=p;cases b with
   | true=>
    have D:u = .agg us:=D;subst D;exact E
   | false=>
    have D:us = #[u]:=D;subst D;have hj:j=0:=by
     have:=(iB.1 E).1
     simpa using this
    subst hj;have:u=v:=by simpa using E
    subst this;have BG:∀ us,u ≠ .agg us:=by
     rintro us rfl;cases I
    cases u<;>first|exact absurd rfl (BG _)|rfl
  let W:Wd:=⟨w,λ_=>none,λr=>if 20000 <= r/\r<60000 then some (zG bS r)else none,hQ,λr I=>bJ⟩
  refine calls_of_wp hf hb ?_;rw[<- hF x]at h;unfold acD at h;have hR:R W N (acC (gq ai x)) { tmps:=bS++Array.replicate (fn.ntmps-bS.size) undef,defers:=[] } w:=by
   refine⟨λ_=>none,zG bS,.of (Below.refl w.heap.size w) (dx _),(λb k hk=>by cases hk),(λn y C=>?_),λi=>?_,by simp[hN];omega,rfl,λr l I=>?_,λr I=>?_⟩
   ·have C:VS (gq ai x) n=some y:=C;unfold VS at C;cases hb:(Nat.ble 20001 n&&Nat.blt n 60000)with
    |false=>rw[hb]at C;cases C
    | true=>
     rw[hb,aq]at C;split at C
     ·rename_i b xs T;split at C
      next t' g q l hl=>injection C with C;subst C;obtain⟨u,U,I,sk,_⟩:=VU _ _ T _ _ hl;refine .sl u _ ?_ (I.key sk);unfold zG;simp[*]
      ·cases C
     ·cases C
   ·show RA w w.heap.size _ _ (match (gq ai x)[i]? with | some (false,[x])=>A.lf (Ef i 0 x) | some (true,xs)=>.agg (xo i 0 xs) | _=>.undef) _;have Dk:∀ p:Pt,(gq ai x)[i]?=some p -> ∃ u:Value,bS[i]?=some u/\(bS++Array.replicate (fn.ntmps-bS.size) undef).getD i undef=u:=by
     intro p T;obtain⟨u,U,_⟩:=qS i p T;have hi:=(iB.1 U).1;exact⟨u,U,by rw[iq,Array.getElem?_append_left hi,U];rfl⟩
    split
    ·rename_i x' lY;obtain⟨u,U,e⟩:=Dk _ lY;rw[e];obtain⟨v,E,I,sk,_⟩:=VU i _ lY 0 x' rfl;have GN:u=v:=by
      unfold tP at E;rw[U]at E;obtain⟨u2,qY,⟨us,D,h2,h3⟩,_⟩:=qS i _ lY;rw[U]at qY;injection qY with qY;subst qY;have D:us = #[u]:=D;subst D;obtain⟨v3,hv3,hr3⟩:=h3 0 x' rfl;have:u=v3:=by simpa using hv3
      subst this;have BG:∀ us,u ≠ .agg us:=by
       rintro us rfl;cases hr3
      cases u<;>first|exact absurd rfl (BG _)|(simp only[show Nat.beq 0 0=true from rfl,aq,iD]at E;exact E)
     subst GN;exact acH (by omega) E sk I
    ·rename_i xs lY;obtain⟨u,U,e⟩:=Dk _ lY;rw[e];obtain⟨u2,qY,⟨us,D,h2,h3⟩,_⟩:=qS i _ lY;rw[U]at qY;injection qY with qY;subst qY;have D:u = .agg us:=D
     refine⟨us,D,by rw[acF];exact h2,λj y C=>?_⟩
     rw[acE]at C;cases hz:xs[j]? with
     |none=>rw[hz]at C;cases C
     | some z=>
      rw[hz]at C;injection C with C;subst C;obtain⟨v,E,I,sk,hj⟩:=VU i _ lY j z hz;have huj:us[j]?=some v:=by
       unfold tP at E;rw[U,D]at E;exact E
      refine⟨v,huj,?_⟩;rw[eN];exact acH hj E sk I
    ·trivial
   ·have I:(if 20000 <= r/\r<60000 then some (zG bS r)else none)=some l:=I;split at I
    ·injection I
    ·cases I
   ·show (if 20000 <= r/\r<60000 then some (zG bS r)else none)=none;rw[bJ]
  refine wp_mono (D8 (w0:=W) dQ code _ _ h tX _ w hR) λe a' w' he=>?_
  obtain⟨c8,hk,DJ,DH,dV⟩:=he;have fin:NO c8 fn.results L O t=some p -> a'.defers=[] /\ ∃ u,(results fn a'.tmps).run P w' = .ok u w' /\ ∃ A n cap,tP bS L O=some (.slice A n cap)/\p.1 <= p.2/\p.2 <= n/\Ending.returned u = .returned (sliced A p.1 p.2 cap (aF t))/\Below w.heap.size w w':=by
   intro Z;unfold NO at Z;split at Z
   ·rename_i s hs;split at Z
    ·rename_i n sz i k E;cases gI:(Nat.beq n (nV L O)&&Nat.beq sz (aF t))with
     |false=>rw[gI]at Z;cases Z
     | true=>
      rw[gI,aq]at Z;injection Z with Z;subst Z;rw[aO]at gI;have hn:=cC gI.1;have apo:=cC gI.2;subst hn apo;have D:=dV.tmp s;rw[E]at D;obtain⟨A,m,c,Y,e2,e3,e4⟩:=D;have hjj:=cK hjj;have BG:20000 <= nV L O:=by unfold nV;omega
      by_cases dU:nV L O<60000
      ·have VR:=dV.fix (nV L O) (zG bS (nV L O)) (bH ⟨BG,dU⟩);have Y:(match DH (nV L O)with | .dJ v=>some v | _=>none)=some (Value.slice A m c):=Y;rw[VR]at Y;obtain⟨d1,d2⟩:=acG (i:=L) (j:=O) (by omega);have Y:some ((tP bS ((nV L O-20001) / 1000) ((nV L O-20001) % 1000)).getD undef)=some (Value.slice A m c):=Y;rw[d1,d2]at Y;injection Y with Y
       refine⟨dV.defers,_,?_,A,m,c,?_,e2,e3,bq Ending.returned e4,⟨dV.below.os,dV.below.tape,dV.below.output,dV.below.size,λk hk=>dV.below.block k hk rfl⟩⟩
       ·have jZ:results fn a'.tmps=(do let vs <- fn.results.mapM (q7 a'.tmps);pure (if h:vs.size=1 then vs[0]else .tuple vs)):=by
         unfold results;congr 1
        have qe:fn.results = #[.tmp s]:=by apply Array.ext';exact hs
        rw[jZ,qe];simp[q7]
       ·cases hl:tP bS L O with
        |none=>rw[hl]at Y;cases Y
        |some u=>rw[hl]at Y;exact bq some Y
      ·exfalso;have:=cK haa;unfold nV at dU;omega
    ·cases Z
   ·cases Z
  split at hk
  next he=>have he:=sI he;subst he;exact fin hk
  next he=>have he:=sI he;subst he;exact fin hk
  ·cases hk
 ·cases h
end
def Wd.pin(d:Wd)(g:Nat)(l:aj Loc)(D:20000<=g):Wd:=⟨d.w,d.L,λr=>if r=g then l else d.F r,d.held,λr C=>by
 show (if r=g then l else d.F r)=none;rw[bJ];exact d.low r C⟩
def BS(g:Nat):aa (Bool×aa Lf)->A
 |[(false,[x])]=>.lf (x.drop g)
 |[(true,cs)]=>.agg (cs.map (Lf.drop g))
 |[(false,_)]=>.undef
 |ps=>.eV (ps.map λp=>(p.1,p.2.map (Lf.drop g)))
def BU{X:Type}(P:Program)(g:Nat)(D:Array ResultVar)(C:S)(k:S->A->aj X):aj X:=
 sy P C D.toList λps=>match C.m g with
  |some (.gh ys)=>k ⟨λj=>((ys.map (A.drop g))[j]?).getD .undef,(C.drop g).m⟩ (BS g ps)
  |_=>none
def acI(g N:Nat)(σ:S)(xs:aa A):S:=⟨λj=>((xs.map (A.drop g))[j]?).getD .undef,bV (σ.drop g).m g (some (.gh ((List.range N).map λj=>(σ.t j).drop g)))⟩
def noB:mM:=λ_=>none
def HP{X:Type}(P:Program)(M g:Nat)(Φ:ep)(code:Code)(C:Array ResultVar)(N:Nat)(σ:S)(xs:aa A)(k:S->A->aj X):aj X:=
 bif Nat.ble xs.length M then lH P M Φ noB code (acI g N σ xs) λe D=>match zE e with
  |some 0=>BU P g C D k
  |some 1=>BU P g C D k
  |_=>none
 else none
def acJ(P:Program)(M g:Nat)(Φ:ep)(code:Code)(C:Array ResultVar):tQ:=⟨λX N σ xs k=>HP P M g Φ code C N σ xs k⟩
section
variable {P:Program} {w w':World} {w0:Wd} {B M N g:Nat} {ah aD:bE} {ρ ρ':Nat->Loc} {σ:S} {a:Act} {X:Type} {d:Nat} {r:X} {o:Oper} {Φ:ep} {Λ:mM}
def VV{C:aj Tmp}{D:Bool}:cI λX k=>sD (X:=X) σ C D k:=λX Y k g=>by
 unfold sD
 repeat' first|rfl|refine de ?_ ?_|split
def apq{ops:Array Oper}{L i:Nat}:cI λX k=>Hr (X:=X) P N Φ ops L i σ o k:=λX Y k g=>by
 unfold Hr;split
 ·refine(UJ _ _ _ _).trans (bq _ (funext λv=>?_))
  exact de (wZ _ _ _ _) rfl
 ·exact wZ _ _ _ _
 ·rfl
def VW(D:fL P Φ){ops:Array Oper}:∀ (f L:Nat) (σ:S),cI λX k=>ru (X:=X) P N Φ ops f L σ k
 | 0,L,σ=>λX Y k g=>by
  unfold ru;split<;>rfl
 | f+1,L,σ=>λX Y k g=>by
  have st:∀E o O,cI λX k=>dy (X:=X) P N Φ ops σ o λI=>sD I o.dst O λC=>ru P N Φ ops f E C k:=λE o O=>(abw D).comp λI=>VV.comp λC=>VW D f E C
  unfold ru
  repeat' first
   |rfl
   |exact st _ _ _ _ _ _ _
   |exact(apq.comp λI=>VV.comp λC=>VW D f _ C) X Y k g
   |split
def apr{t:TypeId}{x lo hi C:A}{X Y:Type}(k:aj X)(g:X->aj Y):(DY P σ t x lo hi C k).bind g=DY P σ t x lo hi C (k.bind g):=by
 unfold DY
 repeat' first
  |rfl
  |refine(wY _ _ _ _ _).trans (bq _ (funext λy=>?_))
  |split
def aps(C:fL P Φ):cI λX k=>Hl (X:=X) P N Φ σ o k:=λX Y k g=>by
 unfold Hl
 repeat' first
  |exact abt C _ _ _ _
  |exact anO _ _ _ _
  |exact(apr _ _).trans (bq _ (de rfl rfl))
  |split
def VX(C:fL P Φ){ops:Array Oper}:∀ (rest:aa Oper) (j:Nat) (σ:S),cI λX k=>BA (X:=X) P N Φ ops j rest σ k
 |[],j,σ=>λ_ _ _ _=>rfl
 | o :: rest,j,σ=>λX Y k g=>by
  unfold BA;split
  ·exact((aps C).comp λD=>VV.comp λE=>VX C rest _ E) X Y k g
  ·exact(wZ.comp λD=>VX C rest _ D) X Y k g
  ·rfl
def acK(E:fL P Φ):∀ (c:Code) (σ:S),DX λX k=>lH (X:=X) P N Φ noB c σ k:=by
 intro c
 induction c with
 | region id ops draw=>
  intro σ X Y k g;cases draw with
  |true=>exact de (VW E _ _ _ _ _ _ _) rfl
  |false=>exact VX E _ _ _ _ _ _ _
 | seq x y C D=>
  intro σ X Y k g
  refine(C σ _ _ _ _).trans (bq _ (funext λe=>funext λI=>?_))
  cases e with
  |normal=>exact D I _ _ _ _
  |_=>rfl
 | cond c x y C D=>
  intro σ X Y k g;simp only[lH];split
  ·exact de (C σ _ _ _ _) (D σ _ _ _ _)
  ·rfl
 | block id c L=>
  intro σ X Y k g
  refine(L σ _ _ _ _).trans (bq _ (funext λe=>funext λI=>?_))
  cases e with
  | exit O=>
   simp only;split<;>rfl
  |_=>rfl
 |_=>intro σ X Y k g;rfl
def NP:∀ (l:aa ResultVar),cI λX k=>sy (X:=X) P σ l k
 |[]=>λ_ _ _ _=>rfl
 | .tmp t :: rest=>λX Y k g=>by
  simp only[sy];split
  ·exact NP rest _ _ _ _
  ·rfl
 | .cell c ty :: rest=>λX Y k g=>by
  simp only[sy]
  refine(aaS _ _ _ _).trans (bq _ (funext λy=>?_))
  split
  ·exact NP rest _ _ _ _
  ·rfl
def acL{C:Array ResultVar}:DX λX k=>BU (X:=X) P g C σ k:=λX Y k f=>by
 unfold BU
 refine(NP _ _ _ _ _).trans (bq _ (funext λps=>?_))
 split<;>rfl
def apt(C:fL P Φ){code:Code}{D:Array ResultVar}{xs:aa A}:DX λX k=>HP (X:=X) P M g Φ code D N σ xs k:=λX Y k f=>by
 unfold HP
 refine de ((acK C _ _ _ _ _ _).trans (bq _ (funext λe=>funext λE=>?_))) rfl
 split
 ·exact acL _ _ _ _
 ·exact acL _ _ _ _
 ·rfl
def apu{D:Array ResultVar}{E:S}{y:A}(h:BU P g D σ (λσ y=>some (σ,y))=some (E,y)):∃ ys ps,σ.m g=some (.gh ys)/\sy P σ D.toList some=some ps/\⟨λj=>((ys.map (A.drop g))[j]?).getD .undef,(σ.drop g).m⟩=E/\BS g ps=y:=by
 unfold BU at h;obtain⟨ps,C,I⟩:=(NP _).lX h;split at C
 next ys L=>injection C with C;injection C with O T;exact⟨ys,ps,L,I.at_ _,O,T⟩
 ·cases C
def List.acM(xs:aa A)(g j:Nat):((xs.map (A.drop g))[j]?).getD .undef=A.drop g ((xs[j]?).getD .undef):=by
 rw[eH];cases xs[j]?<;>rfl
def RP.BS{ps:aa (Bool×aa Lf)}{C:aa Value}(I:∀ r,r≠g->ρ' r=ρ r)(hl:C.length=ps.length)(h:∀ (i:Nat) p v,ps[i]?=some p->C[i]?=some v->RP w B ah ρ p v):
  RA w B ah ρ' (BS g ps) (if h:C.toArray.size=1 then C.toArray[0]else .tuple C.toArray):=by
 have eV:ps.length≠1->RA w B ah ρ' (.eV (ps.map λp=>(p.1,p.2.map (Lf.drop g)))) (if h:C.toArray.size=1 then C.toArray[0]else .tuple C.toArray):=by
  intro O;rw[dif_neg (by simpa [hl]using O)]
  refine⟨C.toArray,rfl,by simpa using hl,λj p D=>?_⟩
  rw[eH]at D;cases E:ps[j]? with
  |none=>rw[E]at D;cases D
  | some q=>
   rw[E]at D;injection D with D;subst D;have L:j<C.length:=by rw[hl];exact(dO.1 E).1
   exact⟨C[j],by simp[L],(h j q C[j] E (bQ L)).eX I⟩
 unfold Proofs.YtgjfmljpdnnihaaGreat.BS;split
 ·rename_i x
  match C,hl,h with
  | [v],_,h=>
   have:=h 0 _ v rfl rfl;obtain⟨u,T,U⟩:=this.2 0 x rfl;have:v=u:=by simpa using T
   subst this;exact U.eX I
 ·rename_i cs
  match C,hl,h with
  |[v],_,h=>exact RP.eX I (p:=(true,cs)) (h 0 _ v rfl rfl)
 ·trivial
 ·rename_i h1 Y Z
  refine eV λe=>?_
  obtain⟨⟨b,cs⟩,rfl⟩:=List.length_eq_one_iff.1 e;cases b with
  |true=>exact Y cs rfl
  |false=>exact Z cs rfl
def apv{f:Nat}{fn:Func}{code:Code}(hf:P.funcs[f]?=some fn)(hb:fn.body=some code)(hN:fn.ntmps=M)(hM:M<=20000)(BQ:(fn.name == "runtime.NumGoroutine")=false)(hg:20000<=g/\g<60000)(dQ:fL P Φ):
  enters P f/\rm P f (acJ P M g Φ code fn.results):=by
 refine⟨⟨fn,hf,BQ,by rw[hb];rfl⟩,λN σ xs=>apt dQ,λN σ xs τ0 y0 h w0 ah ρ a w bS hR iA hv=>?_⟩
 have h:HP P M g Φ code fn.results N σ xs _=_:=h;unfold HP at h;cases hl:Nat.ble xs.length M with
 |false=>rw[hl]at h;cases h
 | true=>
  rw[hl,aq]at h;have Bg:=cK hl;obtain⟨e,τ,Z,h2⟩:=(acK dQ _ _).lX h;have h3:(e = .normal\/e = .ret)/\BU P g fn.results τ (λσ y=>some (σ,y))=some (τ0,y0):=by
   split at Z
   next T=>exact⟨.inl (sI T),Z⟩
   next T=>exact⟨.inr (sI T),Z⟩
   ·cases Z
  obtain⟨hex,h3⟩:=h3;obtain⟨ys,ps,hy,q6,rfl,rfl⟩:=apu h3;let us:=a.tmps.toList
  let W:Wd:=w0.pin g (some (.bS us)) hg.1
  let U:=bV ρ g (.bS us)
  have cN:∀r,r≠g->U r=ρ r:=λr hr=>cH _ _ _ hr
  have mE:∀ j,us.getD j undef=a.tmps.getD j undef:=λj=>by
   show a.tmps.toList.getD j undef=_;rw[ei,Array.getElem?_toList,iq]
  have hle:bS.size<=M:=by rw[iA];exact Bg
  have sC:Rl W M ah U (acI g N σ xs) { tmps:=bS++Array.replicate (fn.ntmps-bS.size) undef,defers:=[] } w:=by
   refine⟨⟨hR.below.os,hR.below.tape,hR.below.output,hR.below.size,hR.below.block⟩,hR.cX,λr x C=>?_,λj=>?_,by simp[hN];omega,rfl,λr l hr=>?_,λr hr=>?_⟩
   ·have C:bV (σ.drop g).m g (some (.gh ((List.range N).map λj=>(σ.t j).drop g))) r=some x:=C;by_cases D:r=g
    ·subst D;rw[cc]at C;injection C with C;subst C
     refine .gh us _ (cc _ _ _) λj x I=>?_
     rw[eH]at I;cases hr:(List.range N)[j]? with
     |none=>rw[hr]at I;cases I
     | some j'=>
      rw[hr]at I;injection I with I;obtain⟨dU,r7⟩:=dO.1 hr;rw[jA]at r7;subst r7 I;rw[mE];exact(hR.tmp j).eX cN
    ·rw[cH _ _ _ D]at C;have C:(bif Nat.beq r g then none else (σ.m r).map (aW.drop g))=some x:=C;cases hb:Nat.beq r g with
     |true=>rw[hb]at C;cases C
     | false=>
      rw[hb,au]at C;cases hm:σ.m r with
      |none=>rw[hm]at C;cases C
      | some y=>
       rw[hm]at C;injection C with C;subst C;exact(hR.root r y hm).eX cN D
   ·show RA w w0.heap.size ah U (((xs.map (A.drop g))[j]?).getD .undef) _;rw[List.acM];by_cases I:j<bS.size
    ·have e1:(bS++Array.replicate (fn.ntmps-bS.size) undef).getD j undef=bS.getD j undef:=by
      rw[iq,Array.getElem?_append_left I,iq]
     show RA w w0.heap.size ah U _ ((bS++Array.replicate (fn.ntmps-bS.size) undef).getD j undef);rw[e1];exact(hv j).eX cN
    ·rw[List.getElem?_eq_none (by omega:xs.length<=j)];trivial
   ·have hr:(if r=g then some (Loc.bS us)else w0.F r)=some l:=hr;by_cases D:r=g
    ·rw[bH D]at hr;injection hr with hr;rw[D,<-hr];exact cc _ _ _
    ·rw[bJ D]at hr;rw[cN r D];exact hR.fix r l hr
   ·show (if r=g then some (Loc.bS us)else w0.F r)=none;rw[bJ];rcases hr with hr | hr
    ·exact w0.low r (by omega)
    ·exact hR.dj r (.inr hr)
  refine calls_of_wp hf hb ?_
  refine wp_mono (D8 (w0:=W) dQ code _ (λe τ=>some (e,τ)) (h2 _ _) (λp hp b hb=>by cases hb) _ w ⟨ah,U,sC⟩) λe' L w' T=>?_
  obtain⟨c8,oZ,aD,ρ',E⟩:=T;injection oZ with oZ;injection oZ with k1 k2;subst k1 k2;have GY:ρ' g = .bS us:=E.fix g _ (bH rfl);let eY:=bV ρ' g ((w0.F g).getD (.aC 0 0))
  have DP:∀r,r≠g->eY r=ρ' r:=λr hr=>cH _ _ _ hr
  obtain⟨G0,VY,jX⟩:=GO (w0:=W) (N:=M) _ _ q6;injection VY with VY;subst VY;obtain⟨Y,eO,hlen,lZ⟩:=jX aD ρ' L w' E;have apw:(fn.results.mapM (q7 L.tmps)).run P w' = .ok Y.toArray w':=by
   rw[Array.mapM_eq_mapM_toList];simp[eO]
  have jZ:results fn L.tmps=(do let Y <-fn.results.mapM (q7 L.tmps);pure (if h:Y.size=1 then Y[0]else .tuple Y)):=by
   unfold results;congr 1
  have hRf:Rl w0 N aD eY ⟨λj=>((ys.map (A.drop g))[j]?).getD .undef,(c8.drop g).m⟩ a w':=by
   refine⟨⟨E.below.os,E.below.tape,E.below.output,E.below.size,E.below.block⟩,E.cX,λr x C=>?_,λj=>?_,hR.size,hR.defers,λr l hr=>?_,hR.dj⟩
   ·have C:(bif Nat.beq r g then none else (c8.m r).map (aW.drop g))=some x:=C;cases hb:Nat.beq r g with
    |true=>rw[hb]at C;cases C
    | false=>
     have D:r≠g:=by rintro rfl;simp at hb
     rw[hb,au]at C;cases hm:c8.m r with
     |none=>rw[hm]at C;cases C
     | some y=>
      rw[hm]at C;injection C with C;subst C;exact(E.root r y hm).eX DP D
   ·show RA w' w0.heap.size aD eY (((ys.map (A.drop g))[j]?).getD .undef) _;rw[List.acM];cases hyj:ys[j]? with
    |none=>trivial
    | some y=>
     have fB:=E.root g _ hy;generalize O:aW.gh ys=z at fB;cases fB with
     |aC=>cases O
     |sl=>cases O
     |mp=>cases O
     | gh Mj xs' wX hx3=>
      injection O with O;subst O;rw[GY]at wX;injection wX with wX;subst wX;have:=hx3 j y hyj;rw[mE]at this;exact this.eX DP
   ·by_cases D:r=g
    ·subst D;show bV ρ' r ((w0.F r).getD (.aC 0 0)) r=l;rw[cc,hr];rfl
    ·rw[DP r D];exact E.fix r l ((bJ D).trans hr)
  have fin:L.defers=[]/\∃ v,(results fn L.tmps).run P w' = .ok v w'/\∃ zF aD ρ',Ending.returned v=Ending.returned zF/\Rl w0 N aD ρ' ⟨λj=>((ys.map (A.drop g))[j]?).getD .undef,(c8.drop g).m⟩ a w'/\RA w' w0.heap.size aD ρ' (BS g G0) zF:=
   ⟨E.defers,_,by rw[jZ,gd,apw,mB,Sem.run_pure],_,aD,eY,rfl,hRf,RP.BS DP hlen lZ⟩
  rcases hex with rfl|rfl
  ·exact fin
  ·exact fin
end
def tZ:Nat:=1000000000
def stays(n:Nat):Bool:=Nat.ble 20000 (n % tZ)
def apx:60000<=tZ:=cK rfl
def qh(n:Nat):Nat:=bif stays n then n else n+tZ
def zH(n:Nat):aj Nat:=bif stays n then some n else bif Nat.ble tZ n && !stays (n-tZ)then some (n-tZ)else none
def lI:aa Nat->aa Nat
 |[]=>[]
 |[r]=>[qh r]
 |x::y::k=>x::lI (y::k)
def Lf.up:Lf->Lf
 |.v x=>.v x
 |.own k=>.own (lI k)
 |.dead=>.dead
def A.up:A->A
 |.undef=>.undef
 |.skip=>.skip
 |.lf x=>.lf x.up
 |.agg cs=>.agg (cs.map Lf.up)
 |.eV xs=>.eV (xs.map λp=>(p.1,p.2.map Lf.up))
 |.ptr k=>.ptr (lI k)
 |.aG r j=>.aG (qh r) j
 |.jd cs=>.jd cs
 |.nA f cs=>.nA f cs
 |.pk r n=>.pk (qh r) n
 |.view k s i j=>.view (lI k) s i j
 |.fn f cap=>.fn f (cap.map λp=>(qh p.1,p.2))
def aW.up:aW->aW
 |.aC cs=>.aC (cs.map Lf.up)
 |.sl y=>.sl y
 |.mp l=>.mp l
 |.gh xs=>.gh (xs.map A.up)
def S.up(σ:S):S:=⟨λk=>(σ.t k).up,λn=>match zH n with
 |some r=>(σ.m r).map aW.up
 |none=>none⟩
def upI(c:tQ):tQ:=⟨λX N σ xs k=>c.run X N σ.up (xs.map A.up) λC y=>k C.up y.up⟩
section
variable {P:Program} {w w':World} {w0:Wd} {B N:Nat} {ah aD:bE} {ρ ρ':Nat->Loc} {σ:S} {a:Act} {X:Type}
def apy(r:Nat):zH (qh r)=some r:=by
 unfold zH qh;cases h:stays r with
 |true=>simp_all
 | false=>
  have C:stays (r+tZ)=false:=by
   unfold stays at h ⊢;simp_all
  have D:Nat.ble tZ (r+tZ)=true:=iM (Nat.le_add_left _ _);simp[*]
def apz{n r:Nat}(h:zH n=some r):n=qh r:=by
 unfold zH at h;cases D:stays n with
 | true=>
  rw[D]at h;injection h with h;subst h;simp[qh,D]
 | false=>
  rw[D,au]at h;cases C:(Nat.ble tZ n && !stays (n-tZ))with
  |false=>simp_all
  | true=>
   rw[C]at h;have h:=Option.some.inj h;rw[aO]at C;have I:=cK C.1;have E:stays r=false:=by rw[<- h];simpa using C.2
   simp[qh,E,au];omega
def mP(ah:bE):bE:=λb=>(ah b).map lI
def vp(ρ:Nat->Loc):Nat->Loc:=λn=>match zH n with
 |some r=>ρ r
 |none=>ρ n
def BV(r:Nat):vp ρ (qh r)=ρ r:=by unfold vp;rw[apy]
def apA{k:aa Nat}(h:k≠[]):lI k≠[]:=by
 match k with
 |[r]=>simp[lI]
 |x::y::k=>simp[lI]
def Eg{x:Nat}{k:aa Nat}(h:k≠[]):lI (x :: k)=x :: lI k:=by
 match k with
 |[]=>exact absurd rfl h
 |y::k=>rfl
def acN(x y:Nat)(k:aa Nat):∃ C D,lI (x :: y :: k)=x :: C :: D:=by
 match k with
 |[]=>exact⟨_,_,rfl⟩
 |z::k=>exact⟨y,_,rfl⟩
def VZ:∀ (k:aa Nat) (ad:Addr),addrAt w ah ρ k=some ad -> addrAt w (mP ah) (vp ρ) (lI k)=some ad
 |[],_,h=>by simp[addrAt]at h
 | [j,i,s,r],ad,h=>by
  simp only[addrAt]at h;simp only[lI,addrAt,BV];split at h
  ·rename_i b n c C;split at h
   next hl=>rw[bH (by simp[mP,hl,lI])];exact h
   ·cases h
  ·cases h
 | j :: i :: s :: x :: y :: q,ad,h=>by
  simp only[addrAt]at h;split at h
  ·rename_i b n c C;split at h
   ·rename_i hl;cases D:addrAt w ah ρ (x :: y :: q)with
    |none=>simp_all
    | some I=>
     have E:=VZ (x::y::q) I D;have e:mP ah b=some (lI (x::y::q)):=by simp[mP,hl]
     rw[Eg (by simp),Eg (by simp),Eg (by simp)];rw[D]at C;obtain⟨O,T,L⟩:=acN x y q;rw[L]at E e ⊢;simp only[addrAt,E,C,e,if_true];exact h
   ·cases h
  ·cases h
def acO{k:aa Nat}{u:Value}(h:cW w ah ρ k=some u):cW w (mP ah) (vp ρ) (lI k)=some u:=by
 match k with
 | [r]=>
  simp[lI,cW,BV];exact h
 | x :: y :: k=>
  simp[cW]at h;cases C:addrAt w ah ρ _ with
  |none=>rw[C]at h;cases h
  | some ad=>
   have:=VZ _ _ C;obtain⟨E,I,D⟩:=acN x y k;rw[D]at this ⊢;simp[cW,this];simp_all
def V0{b:Nat}(h:ah b=none):mP ah b=none:=by simp[mP,h]
def RV.up(D:∀ b k,ah b=some k->k≠[]){k:aa Nat}{x:V}{v:Value}(h:RV w B ah k x v):RV w B (mP ah) (lI k) x v:=
 h.map (Q:=λk C=>C=lI k) (dx _) (λb _ h=>⟨rfl,V0 h⟩) (λb k C _ hl e=>by
  subst e;exact⟨rfl,by simp[mP,hl],λj i s=>by rw[Eg (by simp),Eg (by simp),Eg (D b k hl)]⟩) (.inr rfl)
def dP.up(C:∀ b k,ah b=some k->k≠[]){x:Lf}{u:Value}(h:dP w B ah ρ x u):dP w B (mP ah) (vp ρ) x.up u:=by
 cases x with
 |v x=>exact⟨h.1,RV.up C h.2⟩
 |own k=>exact⟨h.1,acO h.2⟩
 |dead=>trivial
def eJ.up(E:∀ b k,ah b=some k -> k≠[]){cs:aa Lf}{us:Array Value}(h:eJ w B ah ρ cs us):eJ w B (mP ah) (vp ρ) (cs.map Lf.up) us:=by
 refine⟨by rw[eI];exact h.1,λj x C=>?_⟩
 rw[eH]at C;cases D:cs[j]? with
 |none=>simp_all
 | some z=>
  rw[D]at C;injection C with C;subst C;obtain⟨u,I,L⟩:=h.2 j z D;exact⟨u,I,L.up E⟩
def RP.up(C:∀ b k,ah b=some k->k≠[]){p:Bool×aa Lf}{u:Value}(h:RP w B ah ρ p u):RP w B (mP ah) (vp ρ) (p.1,p.2.map Lf.up) u:=by
 obtain⟨b,cs⟩:=p;cases b with
 | true=>
  obtain⟨us,rfl,h⟩:=h;exact⟨us,rfl,eJ.up C h⟩
 |false=>exact eJ.up C h
def RA.up(I:∀ b k,ah b=some k -> k≠[]){x:A}{u:Value}(h:RA w B ah ρ x u):RA w B (mP ah) (vp ρ) x.up u:=by
 cases x with
 |undef=>trivial
 |skip=>exact h
 |lf x=>exact dP.up I h
 |agg cs=>exact RP.up I (p:=(true,cs)) h
 | eV xs=>
  obtain⟨us,rfl,D,E⟩:=h
  refine⟨us,rfl,by rw[eI];exact D,λj p C=>?_⟩
  rw[eH]at C;cases L:xs[j]? with
  |none=>simp_all
  | some z=>
   rw[L]at C;injection C with C;subst C;obtain⟨v,O,T⟩:=E j z L;exact⟨v,O,T.up I⟩
 | ptr k=>
  obtain⟨ad,rfl,h⟩:=h;exact⟨ad,rfl,VZ _ _ h⟩
 | aG r j=>
  obtain⟨b,off,D,E⟩:=h;exact⟨b,off,(BV r).trans D,E⟩
 | jd cs=>
  obtain⟨b,off,U,Y,Z,g4⟩:=h
  refine⟨b,off,U,Y,V0 Z,λj x hx=>?_⟩
  obtain⟨f1,v,f2,f3⟩:=g4 j x hx;exact⟨f1,v,f2,RV.up I f3⟩
 | nA f cs=>
  obtain⟨pv,e0,h⟩:=h;refine⟨pv,e0,?_⟩;obtain⟨b,off,U,Y,Z,g4⟩:=h
  refine⟨b,off,U,Y,V0 Z,λj x hx=>?_⟩
  obtain⟨f1,v,f2,f3⟩:=g4 j x hx;exact⟨f1,v,f2,RV.up I f3⟩
 | pk r n=>
  obtain⟨b,D,E⟩:=h;exact⟨b,(BV r).trans D,E⟩
 | view k s i j=>
  obtain⟨A,n,c,D,E⟩:=h;exact⟨A,n,c,acO D,E⟩
 | fn f cap=>
  obtain⟨vs,rfl,D,E⟩:=h
  refine⟨vs,rfl,by rw[eI];exact D,λj p C=>?_⟩
  rw[eH]at C;cases L:cap[j]? with
  |none=>simp_all
  | some z=>
   rw[L]at C;injection C with C;subst C;obtain⟨b,off,O,T⟩:=E j z L;exact⟨b,off,(BV _).trans O,T⟩
def dZ.up(T:∀ b k,ah b=some k -> k≠[]){r:Nat}{x:aW}(h:dZ w B ah ρ r x):dZ w B (mP ah) (vp ρ) (qh r) x.up:=by
 have O:=BV (ρ:=ρ) r;have hl:∀{b},ah b=some [r] -> mP ah b=some [qh r]:=λh=>by simp[mP,h,lI]
 cases h with
 | aC b off cells e cs us C I U Z Y=>
  refine .aC b off cells e _ us (O.trans C) (hl I) U (by rw[eI];exact Z) λj x D=>?_
  rw[eH]at D;cases E:cs[j]? with
  |none=>simp_all
  | some z=>
   rw[E]at D;injection D with D;subst D;exact⟨(Y j z E).1,(Y j z E).2.up T⟩
 |sl v y C I=>exact .sl v y (O.trans C) (RV.up T I)
 |mp b c es l C I U he=>exact .mp b c es l (O.trans C) (hl I) U he
 | gh us xs C D=>
  refine .gh us _ (O.trans C) λj x L=>?_
  rw[eH]at L;cases E:xs[j]? with
  |none=>simp_all
  | some z=>
   rw[E]at L;injection L with L;subst L;exact RA.up T (D j z E)
def Rl.up(h:Rl w0 N ah ρ σ a w):Rl w0 N (mP ah) (vp ρ) σ.up a w:=by
 have O:=λb k D=>(h.cX b k D).2.2
 refine⟨h.below,λb k D=>?_,λn x C=>?_,λk=>RA.up O (h.tmp k),h.size,h.defers,λr l E=>?_,h.dj⟩
 ·unfold mP at D;cases hl:ah b with
  |none=>simp_all
  | some q=>
   rw[hl]at D;injection D with D;obtain⟨I,L,U⟩:=h.cX b q hl;exact⟨I,L,by rw[<- D];exact apA U⟩
 ·have C:(match zH n with | some r=>(σ.m r).map _ | none=>none)=some x:=C;cases T:zH n with
  |none=>simp_all
  | some r=>
   rw[T]at C;have C:(σ.m r).map _=some x:=C;cases hm:σ.m r with
   |none=>simp_all
   | some y=>
    rw[hm]at C;injection C with C;subst C;rw[apz T];exact(h.root r y hm).up O
 ·have Y:stays r=true:=by
   have I:20000 <= r:=Nat.le_of_not_lt λZ=>by rw[w0.low r Z]at E;cases E
   have L:r<60000:=Nat.lt_of_not_le λhle=>by rw[h.dj r (.inr hle)]at E;cases E
   unfold stays;rw[Nat.mod_eq_of_lt (Nat.lt_of_lt_of_le L apx)];exact iM I
  have hu:qh r=r:=by simp[qh,Y]
  have:=BV (ρ:=ρ) r;rw[hu]at this;rw[this];exact h.fix r l E
def apB{f:Nat}{c:tQ}(h:rm P f c):rm P f (upI c):=by
 refine⟨λN σ xs X Y k g=>h.1 N σ.up (xs.map A.up) X Y _ g,λN σ xs τ z I w0 ah ρ a w bS hR L O=>?_⟩
 obtain⟨T,y,C,U⟩:=(h.1 N σ.up (xs.map A.up)).lX I;injection C with C;injection C with Z h5;subst Z h5;have h3:=h.2 N σ.up (xs.map A.up) T y (U _ _);have cL:∀b k,ah b=some k->k≠[]:=λb k D=>(hR.cX b k D).2.2
 refine(h3 w0 _ _ a w bS hR.up (by rw[eI];exact L) λi=>?_).mono λe w' hp=>?_
 ·rw[eH];have:=O i;cases hx:xs[i]? with
  |none=>trivial
  | some x=>
   rw[hx]at this;exact RA.up cL this
 ·obtain⟨v,aD,ρ',he,E,hy⟩:=hp;exact⟨v,_,_,he,E.up,RA.up (λb k D=>(E.cX b k D).2.2) hy⟩
end
def aP:Nat:=4611686018427387904
def rF(c:Code)(id:Nat):Code:=match (occs c).lookup id with
 |some (.loop b)=>b
 |_=>.skip
def bh(fn:Func):Code:=fn.body.getD .skip
def mb(l:aa (Nat×qc)):ep:=λf=>l.lookup f
def BW(P:Program):aa (Nat×qc)->Prop
 |[]=>True
 |(f,c)::l=>(enters P f/\Ut P f c)/\BW P l
def ua{P:Program}:∀ (l:aa (Nat×qc)),BW P l -> fL P (mb l)
 |[],_=>λf c h=>by cases h
 | (f',E) :: l,⟨I,D⟩=>λf c h=>by
  have C:List.lookup f _=some c:=h;rw[List.lookup_cons]at C;split at C
  ·simp_all
  ·exact ua l D f c C
def jI(l:aa (Nat×sF)):mM:=λid=>l.lookup id
def V1(P:Program)(N:Nat)(code:Code):aa (Nat×sF)->Prop
 |[]=>True
 |(id,b)::l=>(∃c,(occs code).lookup id=some c/\BE P N (.block id c) b)/\V1 P N code l
def ids(l:aa (Nat×Code)):Bool:=(l.map (·.1)).all λi=>Nat.beq ((l.filter λp=>Nat.beq p.1 i).length) 1
def acP:∀ (l:aa (Nat×Code)) (p:Nat×Code),(∀ q∈l,q.1=p.1 -> q=p) -> p∈l -> l.lookup p.1=some p.2
 |[],p,_,h=>by cases h
 | q :: l,p,C,h=>by
  rw[List.lookup_cons];by_cases D:p.1=q.1
  ·simp_all
  ·have hb:(p.1==q.1)=false:=by simpa using D
   rw[hb];rcases gn.1 h with rfl|h
   ·simp_all
   ·exact acP l p (λq E=>C q (.tail _ E)) h
def apC{l:aa (Nat×Code)}(h:ids l=true){p q:Nat×Code}(D:p∈l)(E:q∈l)(I:q.1=p.1):q=p:=by
 have C:=cu.1 h p.1 (List.mem_map_of_mem D);have C:=cC C;have L:p∈l.filter λr=>Nat.beq r.1 p.1:=List.mem_filter.2 ⟨D,by simp⟩
 have O:q∈l.filter λr=>Nat.beq r.1 p.1:=List.mem_filter.2 ⟨E,by simp[I]⟩
 obtain⟨z,T⟩:=List.length_eq_one_iff.1 C
 grind
def V2{P:Program}{N:Nat}{code:Code}(hi:ids (occs code)=true):∀ (l:aa (Nat×sF)),V1 P N code l -> pq P N (jI l) (occs code)
 |[],_=>λp D b h=>by cases h
 | (id,O) :: l,⟨⟨c,T,U⟩,I⟩=>λp D b h=>by
  have C:List.lookup p.1 _=some b:=h;rw[List.lookup_cons]at C;split at C
  ·rename_i E;have E:p.1=id:=by simpa using E
   injection C with C;subst C;have:=acP _ p (λq L e=>apC hi D L e) D;simp_all
  ·exact V2 hi l I p D b C
def rG{P:Program}{N:Nat}{l:aa (Nat×Code)}:pq P N (jI []) l:=λp C b h=>by cases h
def ci(P:Program)(fn:Func)(C:Nat)(l:aa (Nat×qc)):tQ:=acJ P fn.ntmps (59000+C) (mb l) (bh fn) fn.results
def HQ{P:Program}{f:Nat}{fn:Func}(C:Nat)(l:aa (Nat×qc))(D:P.funcs[f]?=some fn)(hl:BW P l)(hb:fn.body=some (bh fn):=by kernel_rfl)(E:Nat.ble fn.ntmps 20000=true:=by kernel_rfl)(I:Nat.ble C 900=true:=by kernel_rfl)(L:(fn.name == "runtime.NumGoroutine")=false:=by kernel_rfl):enters P f/\rm P f (ci P fn C l):=
 apv D hb rfl (cK E) L ⟨by omega,by have:=cK I;omega⟩ (ua l hl)
def cj(P:Program)(fn:Func)(C:Nat)(l:aa (Nat×qc)):tQ:=upI (ci P fn C l)
def NQ{P:Program}{f:Nat}{fn:Func}{C:Nat}{l:aa (Nat×qc)}(h:enters P f/\rm P f (ci P fn C l)):enters P f/\rm P f (cj P fn C l):=⟨h.1,apB h.2⟩
def NR{P:Program}{f:Nat}{fn:Func}{ai:aa (Bool×TC)}{ro:aa (Bool×TC×Nat)}{F:kN ai->aj (iI ro)}(N:Nat)(l:aa (Nat×qc))(b:aa (Nat×sF))(C:P.funcs[f]?=some fn)(hl:BW P l)(D:pq P N (jI b) (occs (bh fn)))(E:∀x,qg P N (mb l) (jI b) (bh fn) fn.results (gq ai x) (l5 ro)=F x)(hb:fn.body=some (bh fn):=by kernel_rfl)(I:fn.ntmps=N:=by kernel_rfl)(L:(fn.name == "runtime.NumGoroutine")=false:=by kernel_rfl)(O:Nat.ble ai.length N=true:=by kernel_rfl)(T:l9 ro=true:=by kernel_rfl):enters P f/\iu P f (gP ai ro F):=api C hb I L O T (ua l hl) D E
def BX{P:Program}{f:Nat}{fn:Func}{t:TC}{g:Nat}{F:aa (T t)->aj (aa (T t))}(N:Nat)(l:aa (Nat×qc))(b:aa (Nat×sF))(C:P.funcs[f]?=some fn)(hl:BW P l)(D:pq P N (jI b) (occs (bh fn)))(E:∀ x:aa (T t),qg P N (mb l) (jI b) (bh fn) fn.results [(false,[.sl t 0 false x])] (l5 [(false,.sl t,g)])=F x)
  (I:qg P N (mb l) (jI b) (bh fn) fn.results [(false,[.nil])] (l5 [(false,.sl t,g)])=some ([]:aa (T t)):=by kernel_rfl) (L:qg P N (mb l) (jI b) (bh fn) fn.results [(false,[.sl t 0 true []])] (l5 [(false,.sl t,g)])=some ([]:aa (T t)):=by kernel_rfl)
  (hb:fn.body=some (bh fn):=by kernel_rfl) (O:fn.ntmps=N:=by kernel_rfl) (U:(fn.name == "runtime.NumGoroutine")=false:=by kernel_rfl) (Y:Nat.ble 1 N=true:=by kernel_rfl) (Z:l9 [(false,.sl t,g)]=true:=by kernel_rfl):enters P f/\iu P f (gP [(false,.sl t)] [(false,.sl t,g)] λx=>bif jC x.1 then some ([]:aa (T t))else F x.1):=apj C hb O U Y Z (ua l hl) D E I L
def apD{α β:Type}(a:α)(f:α->β):β:=f a
def acQ{P:Program}{id:Nat}{body:Code}{C:bG}{D:aa (Nat×bG)}{F:C.St->aj (C.St⊕tW D)}{fuel:C.St->Nat}(N:Nat)(l:aa (Nat×qc))(b:aa (Nat×sF))(hl:BW P l)(E:pq P N (jI b) (occs body))(I:∀x,Ec P N (mb l) (jI b) body C D x=F x):BE P N (.block id (.loop body)) (NI id C D F fuel):=ape (ua l hl) E I
abbrev W6 (x:Int):Int:=IntKind.i64.wrap x
/-! Words for what printed functions say often. -/
def xI{α β:Type}(l:aa α)(i:Int)(k:α->aj β):aj β:=if h:0<=i/\i.toNat<l.length then (let e:=l[i.toNat]'h.2;k e)else none
def xC{α β:Type}(l:aa α)(i:Int)(k:aj β):aj β:=if h:0<=i/\i.toNat<l.length then k else none
def xM{α β:Type}(l:aa α)(i:Int)(k:α->aj β):aj β:=if h:i.toNat<l.length then (let e:=l[i.toNat]'h;k e)else none
def xL{α β:Type}(l:aa α)(i:Int)(k:α->aj β):aj β:=if h:0<=i/\i.toNat<l.length then (if h:i.toNat<l.length then (let e:=l[i.toNat]'h;k e)else none)else none
def xZ{α:Type}(l:aa α):Bool:=bD (([]:aa α).length+l.length)
def xA{α:Type}(l:aa α):aa α:=([]:aa α)++l
def br{S A C:Type}(L:S->aj (S⊕(A⊕Empty)))(s:S)(f:A->aj C):aj C:=(iter L aP s).bind (Sum.elim f (λz=>nomatch z))
def bP{S A B C:Type}(L:S->aj (S⊕(A⊕(B⊕Empty))))(s:S)(f:A->aj C)(g:B->aj C):aj C:=(iter L aP s).bind (Sum.elim f (Sum.elim g (λz=>nomatch z)))
def xG{S E:Type}(s:S):aj (S⊕E):=some (.inl s)
def az{S A E:Type}(v:A):aj (S⊕(A⊕E)):=some (.inr (.inl v))
def bf{S A B E:Type}(v:B):aj (S⊕(A⊕(B⊕E))):=some (.inr (.inr (.inl v)))
abbrev tI:Tm:=.lf (.int .i64)
abbrev tB:Tm:=.lf (.bool)
structure KC (P:Program) where
 f:Nat
 c:qc
 ok:enters P f/\Ut P f c
def KL{P:Program}(l:aa (KC P)):aa (Nat×qc):=l.map λk=>(k.f,k.c)
def uc{P:Program}:∀ l:aa (KC P),BW P (KL l)
 |[]=>trivial
 |k::l=>⟨k.ok,uc l⟩
structure BK (P:Program) (N:Nat) (code:Code) where
 id:Nat
 b:sF
 ok:BE P N (.block id (.loop (rF code id))) b
section
variable {P:Program} {f N:Nat} {fn:Func} {code:Code}
def BL(l:aa (BK P N code)):aa (Nat×sF):=l.map λk=>(k.id,k.b)
def BC(l:aa (BK P N code)):aa (aj Code):=l.map λk=>(occs code).lookup k.id
def BD(l:aa (BK P N code)):aa (aj Code):=l.map λk=>some (.loop (rF code k.id))
def acR:∀ l:aa (BK P N code),BC l=BD l -> V1 P N code (BL l)
 |[],_=>trivial
 | k :: l,h=>by
  unfold BC BD at h;injection h with C D;exact⟨⟨_,C,k.ok⟩,acR l D⟩
def BT(l:aa (BK P N code))(C:BC l=BD l)(hi:ids (occs code)=true):pq P N (jI (BL l)) (occs code):=V2 hi _ (acR l C)
def lB(id:Nat)(C:bG)(D:aa (Nat×bG))(F:C.St->aj (C.St⊕tW D)):sF:=NI id C D F λ_=>aP
def lp{body:Code}{id:Nat}{C:bG}{D:aa (Nat×bG)}{F:C.St->aj (C.St⊕tW D)}(l:aa (KC P))(E:∀x,Ec P N (mb (KL l)) (jI []) body C D x=F x:=by intro x;kernel_rfl):BE P N (.block id (.loop body)) (lB id C D F):=acQ N (KL l) [] (uc l) rG E
def lq{id:Nat}{C:bG}{D:aa (Nat×bG)}{F:C.St->aj (C.St⊕tW D)}(l:aa (KC P))(b:aa (BK P N code))(E:BC b=BD b:=by kernel_rfl)(hi:ids (occs code)=true:=by kernel_rfl)(I:∀x,Ec P N (mb (KL l)) (jI (BL b)) code C D x=F x:=by intro x;kernel_rfl):BE P N (.block id (.loop code)) (lB id C D F):=acQ N (KL l) (BL b) (uc l) (BT b E hi) I
def kp{ai:aa (Bool×TC)}{ro:aa (Bool×TC×Nat)}{F:kN ai->aj (iI ro)}(N:Nat)(l:aa (KC P))(C:P.funcs[f]?=some fn)(D:∀x,qg P N (mb (KL l)) (jI []) (bh fn) fn.results (gq ai x) (l5 ro)=F x:=by intro x;kernel_rfl)(hb:fn.body=some (bh fn):=by kernel_rfl)(E:fn.ntmps=N:=by kernel_rfl)(I:(fn.name == "runtime.NumGoroutine")=false:=by kernel_rfl)(L:Nat.ble ai.length N=true:=by kernel_rfl)(O:l9 ro=true:=by kernel_rfl):enters P f/\iu P f (gP ai ro F):=NR N (KL l) [] C (uc l) rG D hb E I L O
def kq{ai:aa (Bool×TC)}{ro:aa (Bool×TC×Nat)}{F:kN ai->aj (iI ro)}(N:Nat)(l:aa (KC P))(b:aa (BK P N (bh fn)))(C:P.funcs[f]?=some fn)(D:BC b=BD b:=by kernel_rfl)(hi:ids (occs (bh fn))=true:=by kernel_rfl)(E:∀x,qg P N (mb (KL l)) (jI (BL b)) (bh fn) fn.results (gq ai x) (l5 ro)=F x:=by intro x;kernel_rfl)(hb:fn.body=some (bh fn):=by kernel_rfl)(I:fn.ntmps=N:=by kernel_rfl)(L:(fn.name == "runtime.NumGoroutine")=false:=by kernel_rfl)(O:Nat.ble ai.length N=true:=by kernel_rfl)(T:l9 ro=true:=by kernel_rfl):enters P f/\iu P f (gP ai ro F):=NR N (KL l) (BL b) C (uc l) (BT b D hi) E hb I L O T
def km{ps:aa PK}{ro:aa (Bool×TC×Nat)}{F:lE ps->aj (iI ro×q9 (eF ps))}(N:Nat)(l:aa (KC P))(C:P.funcs[f]?=some fn)(D:∀x,BR P N (mb (KL l)) (jI []) (bh fn) fn.results (nJ ps x) (ke ps 0 x) (Ee (eF ps) ro)=F x:=by intro x;kernel_rfl)(hb:fn.body=some (bh fn):=by kernel_rfl)(E:fn.ntmps=N:=by kernel_rfl)(I:(fn.name == "runtime.NumGoroutine")=false:=by kernel_rfl)(L:Nat.ble ps.length N=true:=by kernel_rfl)(O:Nat.ble N 20000=true:=by kernel_rfl)(T:l9 ro=true:=by kernel_rfl):enters P f/\va P f ⟨ps,ro,F⟩:=NM C hb E I L O T (ua _ (uc l)) rG D
def kn{ps:aa PK}{ro:aa (Bool×TC×Nat)}{F:lE ps->aj (iI ro×q9 (eF ps))}(N:Nat)(l:aa (KC P))(b:aa (BK P N (bh fn)))(C:P.funcs[f]?=some fn)(D:BC b=BD b:=by kernel_rfl)(hi:ids (occs (bh fn))=true:=by kernel_rfl)(E:∀x,BR P N (mb (KL l)) (jI (BL b)) (bh fn) fn.results (nJ ps x) (ke ps 0 x) (Ee (eF ps) ro)=F x:=by intro x;kernel_rfl)(hb:fn.body=some (bh fn):=by kernel_rfl)(I:fn.ntmps=N:=by kernel_rfl)(L:(fn.name == "runtime.NumGoroutine")=false:=by kernel_rfl)(O:Nat.ble ps.length N=true:=by kernel_rfl)(T:Nat.ble N 20000=true:=by kernel_rfl)(U:l9 ro=true:=by kernel_rfl):enters P f/\va P f ⟨ps,ro,F⟩:=NM C hb I L O T U (ua _ (uc l)) (BT b D hi) E
def bx(ai:aa (Bool×TC))(ro:aa (Bool×TC×Nat))(F:kN ai->aj (iI ro))(N:Nat)(l:aa (KC P))(C:P.funcs[f]?=some fn)(D:∀x,qg P N (mb (KL l)) (jI []) (bh fn) fn.results (gq ai x) (l5 ro)=F x:=by intro x;kernel_rfl)(hb:fn.body=some (bh fn):=by kernel_rfl)(E:fn.ntmps=N:=by kernel_rfl)(I:(fn.name == "runtime.NumGoroutine")=false:=by kernel_rfl)(L:Nat.ble ai.length N=true:=by kernel_rfl)(O:l9 ro=true:=by kernel_rfl):KC P:=⟨f,.p (gP ai ro F),NR N (KL l) [] C (uc l) rG D hb E I L O⟩
def cg(ai:aa (Bool×TC))(ro:aa (Bool×TC×Nat))(F:kN ai->aj (iI ro))(N:Nat)(l:aa (KC P))(b:aa (BK P N (bh fn)))(C:P.funcs[f]?=some fn)(D:BC b=BD b:=by kernel_rfl)(hi:ids (occs (bh fn))=true:=by kernel_rfl)(E:∀x,qg P N (mb (KL l)) (jI (BL b)) (bh fn) fn.results (gq ai x) (l5 ro)=F x:=by intro x;kernel_rfl)(hb:fn.body=some (bh fn):=by kernel_rfl)(I:fn.ntmps=N:=by kernel_rfl)(L:(fn.name == "runtime.NumGoroutine")=false:=by kernel_rfl)(O:Nat.ble ai.length N=true:=by kernel_rfl)(T:l9 ro=true:=by kernel_rfl):KC P:=⟨f,.p (gP ai ro F),NR N (KL l) (BL b) C (uc l) (BT b D hi) E hb I L O T⟩
def jJ(ps:aa PK)(ro:aa (Bool×TC×Nat))(F:lE ps->aj (iI ro×q9 (eF ps)))(N:Nat)(l:aa (KC P))(C:P.funcs[f]?=some fn)(D:∀x,BR P N (mb (KL l)) (jI []) (bh fn) fn.results (nJ ps x) (ke ps 0 x) (Ee (eF ps) ro)=F x:=by intro x;kernel_rfl)(hb:fn.body=some (bh fn):=by kernel_rfl)(E:fn.ntmps=N:=by kernel_rfl)(I:(fn.name == "runtime.NumGoroutine")=false:=by kernel_rfl)(L:Nat.ble ps.length N=true:=by kernel_rfl)(O:Nat.ble N 20000=true:=by kernel_rfl)(T:l9 ro=true:=by kernel_rfl):KC P:=⟨f,.m ⟨ps,ro,F⟩,NM C hb E I L O T (ua _ (uc l)) rG D⟩
def ow(ps:aa PK)(ro:aa (Bool×TC×Nat))(F:lE ps->aj (iI ro×q9 (eF ps)))(N:Nat)(l:aa (KC P))(b:aa (BK P N (bh fn)))(C:P.funcs[f]?=some fn)(D:BC b=BD b:=by kernel_rfl)(hi:ids (occs (bh fn))=true:=by kernel_rfl)(E:∀x,BR P N (mb (KL l)) (jI (BL b)) (bh fn) fn.results (nJ ps x) (ke ps 0 x) (Ee (eF ps) ro)=F x:=by intro x;kernel_rfl)(hb:fn.body=some (bh fn):=by kernel_rfl)(I:fn.ntmps=N:=by kernel_rfl)(L:(fn.name == "runtime.NumGoroutine")=false:=by kernel_rfl)(O:Nat.ble ps.length N=true:=by kernel_rfl)(T:Nat.ble N 20000=true:=by kernel_rfl)(U:l9 ro=true:=by kernel_rfl):KC P:=⟨f,.m ⟨ps,ro,F⟩,NM C hb I L O T U (ua _ (uc l)) (BT b D hi) E⟩
def xU0{A R:Type}(F:R)(_:A):R:=F
def bL{A Z R:Type}(F:A->R)(x:A×Z):R:=F x.1
def bY{A B Z R:Type}(F:A->B->R)(x:A×B×Z):R:=F x.1 x.2.1
def fC{A B C Z R:Type}(F:A->B->C->R)(x:A×B×C×Z):R:=F x.1 x.2.1 x.2.2.1
def nO{A B C D Z R:Type}(F:A->B->C->D->R)(x:A×B×C×D×Z):R:=F x.1 x.2.1 x.2.2.1 x.2.2.2.1
def HR{A B C D E Z R:Type}(F:A->B->C->D->E->R)(x:A×B×C×D×E×Z):R:=F x.1 x.2.1 x.2.2.1 x.2.2.2.1 x.2.2.2.2.1
end
end Go.Proofs.YtgjfmljpdnnihaaGreat
