/-
  Running the program over pure contents, and that it follows (part Z). Nothing here is a claim.
-/
import Derived.Test.YtnilicojgkhpnaaGreatV4
set_option linter.unusedSimpArgs false
namespace Go.Proofs.YtnilicojgkhpnaaGreat
set_option linter.defProp false
open Go.RowKit
set_option linter.unusedVariables false
section
variable {P:Program} {w w':World} {w0:Wd} {B N:Nat} {aj aA:bG} {ρ ρ':Nat->Loc} {σ:S} {a:Act} {X:Type} {d:Nat} {r:X} {o:Oper} {Φ:ez} {Λ:nc}
def aqZ{L:ah Tmp}{g:Bool}{k:S -> ah X}(h:rY σ L g k=some r):∃ D,k D=some r /\ ∀ a w,R w0 N σ a w -> R w0 N D a w:=by
 unfold rY at h;cases g with
 |false=>grind
 | true=>
  rw[au]at h;split at h
  ·rename_i d;split at h
   ·rename_i b O;have key:∀ c:Bool,b=c -> ∀ a w,R w0 N σ a w -> R w0 N (σ.set d (.lf (.v (.bool c)))) a w:=by
     rintro c rfl a w ⟨aj,ρ,C⟩
     refine⟨aj,ρ,C.below,C.dg,C.root,λk=>?_,C.size,C.defers,C.fix,C.dz⟩
     show RA w w0.heap.size aj ρ (cc σ.t d (.lf (.v (.bool b))) k) _;by_cases E:k=d
     ·subst E;rw[cm,<- O];exact C.tmp k
     ·rw[cM _ _ _ E];exact C.tmp k
    grind
   ·grind
  ·grind
def Oy(Y:fL P Φ)(ops:Array Oper):∀ (rest:aa Oper) (j:Nat) (σ:S) (k:S -> ah X),BS P N Φ ops j rest σ k=some r -> ∃ cR,k cR=some r /\ ∀ a w,R w0 N σ a w -> ∀ Q,(∀ L w',R w0 N cR L w' -> Q Exit.normal L w') -> wpList P ops Q rest a w
 |[],j,σ,k,h=>⟨σ,h,λa w D Q E=>E a w D⟩
 | o :: rest,j,σ,k,h=>by
  unfold BS at h;split at h
  ·rename_i Z;obtain⟨pS,h1,vA⟩:=ap0 Y h;obtain⟨σ2,h2,uY⟩:=aqZ h1;obtain⟨O,T,U⟩:=Oy Y ops rest (j+1) σ2 k h2
   refine⟨O,T,λa w D Q E=>?_⟩
   obtain⟨aj,ρ,C⟩:=D;simp only[wpList,Ex Z C,if_true];exact .inl (vA a w _ Q ⟨aj,ρ,C⟩ λL w' vp=>U L w' (uY L w' vp) Q E)
  ·rename_i Z;unfold gZ at h;split at h
   ·rename_i hd;obtain⟨O,T,U⟩:=Oy Y ops rest _ σ k h
    refine⟨O,T,λa w D Q E=>?_⟩
    obtain⟨aj,ρ,C⟩:=D;simp[wpList,Ex Z C,hd];exact U a w ⟨aj,ρ,C⟩ Q E
   ·rename_i d hd;cases hN:Nat.blt d N with
    |false=>simp_all
    | true=>
     rw[hN,au]at h;obtain⟨O,T,U⟩:=Oy Y ops rest (j+1) _ k h
     refine⟨O,T,λa w D Q E=>?_⟩
     obtain⟨aj,ρ,C⟩:=D;simp only[wpList,Ex Z C,hd];exact U _ w ⟨aj,ρ,C.set rfl (by have:=cP hN;omega)⟩ Q E
  ·cases h
def Io(ei:fL P Φ):∀ (c:Code) (σ:S) (k:Exit->S->ah X),lI P N Φ Λ c σ k=some r->pV P N Λ (occs c)->AW P w0 N c σ λe E=>k e E=some r:=by
 intro c
 induction c with
 |skip=>exact λσ k h _ a w C=>wp_skip ⟨σ,h,C⟩
 |label l=>exact λσ k h _ a w C=>wp_label ⟨σ,h,C⟩
 |ret=>exact λσ k h _ a w C=>wp_ret ⟨σ,h,C⟩
 |exit id=>exact λσ k h _ a w C=>wp_exit ⟨σ,h,C⟩
 | region id ops draw=>
  intro σ k h _ a w C;cases draw with
  | true=>
   simp only[lI]at h;cases hm:P.follows .mixedOrders with
   |false=>rw[hm]at h;cases h
   | true=>
    rw[hm,au]at h
    haveI:Inhabited Wd:=⟨w0⟩
    exact aqY ei hm h (λτ iq a w C=>⟨τ,iq,C⟩) C
  | false=>
   simp only[lI]at h;obtain⟨E,h',hw⟩:=Oy (w0:=w0) ei ops _ _ _ _ h;exact wp_region_list (hw a w C _ λU w' D=>⟨E,h',D⟩)
 | seq x y Y Z=>
  intro σ k h O a w C;simp only[lI]at h;have h1:=Y σ _ h (λp L=>O p (List.mem_append_left _ L))
  refine wp_seq (wp_mono (h1 a w C) λe U w' he=>?_)
  obtain⟨E,T,D⟩:=he;cases e with
  |normal=>exact Z E k T (λp L=>O p (List.mem_append_right _ L)) U w' D
  |_=>exact⟨E,T,D⟩
 | cond c x y Y Z=>
  intro σ k h O a w C;simp only[lI]at h;split at h
  ·rename_i b hb;obtain⟨aj,ρ,D⟩:=C;have hc:=D.aK c;rw[hb]at hc;have hcv:=hc.2.yP;cases b with
   |true=>exact wp_cond_true hcv (Y σ k h (λp L=>O p (List.mem_append_left _ L)) a w ⟨aj,ρ,D⟩)
   |false=>exact wp_cond_false hcv (Z σ k h (λp L=>O p (List.mem_append_right _ L)) a w ⟨aj,ρ,D⟩)
  ·cases h
 | block id c ih=>
  intro σ k h O a w C;simp only[lI]at h;split at h
  next b hb=>exact O (id,c) (.head _) b hb X σ k r w0 h a w C
  ·have h1:=ih σ _ h (λp L=>O p (.tail _ L))
   refine wp_block (wp_mono (h1 a w C) λe U w' he=>?_)
   obtain⟨E,T,D⟩:=he;cases e with
   | exit id'=>
    simp only[Exit.inBlock];by_cases hid:id'=id
    ·simp only[hid,if_true]at T ⊢;exact⟨E,T,D⟩
    ·simp only[hid,if_false]at T ⊢;exact⟨E,T,D⟩
   |_=>exact⟨E,T,D⟩
 |_=>exact λσ k h=>by simp[lI]at h
end
/-! What a loop carries. -/
inductive Lm where
 |int (k:IntKind)
 |bool
 |str
 |own (r:Nat)
 |aF (t:TC) (o:Nat)
def Lm.T:Lm->Type
 |.int _=>Int
 |.bool=>Bool
 |.str=>ByteArray
 |.own _=>af
 |.aF t _=>aa (Proofs.YtnilicojgkhpnaaGreat.T t)
def Lm.mk:(m:Lm)->m.T->Lf
 |.int k,n=>.v (.int k n)
 |.bool,b=>.v (.bool b)
 |.str,s=>.v (.str s)
 |.own r,_=>.own [r]
 |.aF t o,l=>.v (.sl t o false l)
def Lm.rd:(m:Lm)->Lf->ah m.T
 |.int k,.v (.int C n)=>if C=k then some n else none
 |.bool,.v (.bool b)=>some b
 |.str,.v (.str s)=>some s
 |.own r,.own [D]=>bif Nat.beq D r then some ()else none
 |.aF t o,.v x=>bif Nat.blt o 2 then x.ff t o else none
 |_,_=>none
inductive Tm where
 |lf (m:Lm)
 |aJ (r j:Nat)
 |fp (t:TC) (o:Nat)
 |fc (f:Nat) (t:TC)
 |ag (t:TC)
 |pk (r n:Nat)
def Tm.T:Tm->Type
 |.lf m=>m.T
 |.aJ _ _=>af
 |.fp t _=>Proofs.YtnilicojgkhpnaaGreat.T t
 |.fc _ t=>Proofs.YtnilicojgkhpnaaGreat.T t
 |.ag t=>Proofs.YtnilicojgkhpnaaGreat.T t
 |.pk _ _=>af
def Tm.mk:(m:Tm)->m.T->A
 |.lf m,x=>.lf (m.mk x)
 |.aJ r j,_=>.aJ r j
 |.fp t o,x=>.iY (enc t o x)
 |.fc f t,x=>.mQ f (enc t 0 x)
 |.ag t,x=>.agg ((enc t 0 x).map .v)
 |.pk r n,_=>.pk r n
def Tm.rd:(m:Tm)->A->ah m.T
 |.lf m,.lf x=>m.rd x
 |.aJ r j,.aJ C D=>bif Nat.beq C r&&Nat.beq D j then some ()else none
 |.fp t o,.iY cs=>bif Nat.blt o 2 then dec t o cs else none
 |.fc f t,.mQ E cs=>bif Nat.beq E f then dec t 0 cs else none
 | .ag t,.agg cs=>(match vh cs with
  |some L=>dec t 0 L
  |none=>none)
 |.pk r n,.pk C O=>bif Nat.beq C r&&Nat.beq O n then some ()else none
 |_,_=>none
def Ip:aa Lm->Type
 |[]=>af
 |m::C=>m.T×Ip C
def xB:(C:aa Lm)->Ip C->aa Lf
 |[],_=>[]
 |m::C,x=>m.mk x.1::xB C x.2
def Oz:(C:aa Lm)->aa Lf->ah (Ip C)
 |[],[]=>some ()
 | m :: C,x :: xs=>match m.rd x,Oz C xs with
  |some y,some ys=>some (y,ys)
  |_,_=>none
 |_,_=>none
inductive Rm where
 |sl (t:TC) (o:Nat)
 |st (t:TC)
 |aC (ms:List Lm)
 |mp
def Rm.T:Rm->Type
 |.sl t _=>aa (Proofs.YtnilicojgkhpnaaGreat.T t)
 |.st t=>Proofs.YtnilicojgkhpnaaGreat.T t
 |.aC C=>Ip C
 |.mp=>aa (Int×Bool)
def Rm.mk:(m:Rm)->m.T->bg
 |.sl t o,l=>.sl (.sl t o false l)
 |.st t,x=>.aC ((enc t 0 x).map .v)
 |.aC C,x=>.aC (xB C x)
 |.mp,l=>.mp l
def Rm.rd:(m:Rm)->bg->ah m.T
 |.sl t o,.sl y=>y.ff t o
 | .st t,.aC cs=>(match vh cs with
  |some C=>dec t 0 C
  |none=>none)
 |.aC D,.aC cs=>Oz D cs
 |.mp,.mp l=>some l
 |_,_=>none
def Ey:aa (Nat×Tm)->Type
 |[]=>af
 |(_,m)::C=>m.T×Ey C
def xD:(C:aa (Nat×Tm))->Ey C->Nat->A
 |[],_,_=>.undef
 |(n,m)::C,x,k=>bif Nat.beq k n then m.mk x.1 else xD C x.2 k
def Iq:(C:aa (Nat×Tm))->(Nat->A)->ah (Ey C)
 |[],_=>some ()
 | (n,m) :: C,t=>match m.rd (t n),Iq C t with
  |some x,some xs=>some (x,xs)
  |_,_=>none
def xE:aa (Nat×Rm)->Type
 |[]=>af
 |(_,m)::C=>m.T×xE C
def xF:(C:aa (Nat×Rm))->xE C->Nat->ah bg
 |[],_,_=>none
 |(n,m)::C,x,k=>bif Nat.beq k n then some (m.mk x.1)else xF C x.2 k
def Ez:(C:aa (Nat×Rm))->(Nat->ah bg)->ah (xE C)
 |[],_=>some ()
 | (n,m) :: C,t=>match (t n).bind m.rd,Ez C t with
  |some x,some xs=>some (x,xs)
  |_,_=>none
structure jm where
 ts:List (Nat×Tm)
 rs:List (Nat×Rm)
def jm.St(C:jm):Type:=Ey C.ts×xE C.rs
def jm.mk'(C:jm)(x:C.St):S:=⟨xD C.ts x.1,xF C.rs x.2⟩
def jm.OA(C:jm)(σ:S):ah C.St:=match Iq C.ts σ.t,Ez C.rs σ.m with
 |some x,some y=>some (x,y)
 |_,_=>none
/-! Roots by other names. -/
abbrev Rn:=aa (Nat×Nat)
def Rn.inv(rs:Rn)(n:Nat):ah Nat:=(rs.find? λp=>Nat.beq p.2 n).map (·.1)
def Rn.add(rs:Rn)(r n:Nat):Rn:=bif rs.any (λp=>Nat.beq p.1 r&&Nat.beq p.2 n)then rs else (r,n)::rs
def WR(n:Nat):ah Nat->Bool
 |some m=>Nat.beq m n
 |none=>false
def Rn.ok(rs:Rn):Bool:=rs.all λp=>(Nat.beq p.1 p.2 ||Nat.ble 60000 p.2)&&WR p.2 (rs.lookup p.1)&&WR p.1 (rs.inv p.2)
def Lf.eg(rs:Rn):Lf->Lf
 |.v x=>.v x
 | .own [r]=>(match rs.lookup r with
  |some n=>.own [n]
  |none=>.dead)
 |_=>.dead
def A.eg(rs:Rn):A->A
 |.lf x=>.lf (x.eg rs)
 | .aJ r j=>(match rs.lookup r with
  |some n=>.aJ n j
  |none=>.undef)
 |.iY cs=>.iY cs
 |.mQ f cs=>.mQ f cs
 |.agg cs=>.agg (cs.map (Lf.eg rs))
 |_=>.undef
def bg.eg(rs:Rn):bg->bg
 |.aC cs=>.aC (cs.map (Lf.eg rs))
 |.sl y=>.sl y
 |.mp l=>.mp l
 |.gh _=>.gh []
def S.eg(rs:Rn)(σ:S):S:=⟨λk=>(σ.t k).eg rs,λn=>match rs.inv n with
 |some r=>(σ.m r).map (bg.eg rs)
 |none=>none⟩
def rnL:Lm->Lf->Rn->Rn
 |.own n,.own [r],rs=>rs.add r n
 |_,_,rs=>rs
def WS:aa Lm->aa Lf->Rn->Rn
 |m::C,x::xs,rs=>WS C xs (rnL m x rs)
 |_,_,rs=>rs
def rnT:Tm->A->Rn->Rn
 |.lf m,.lf x,rs=>rnL m x rs
 |.aJ n j,.aJ r C,rs=>rs.add r n
 |_,_,rs=>rs
def adP(t:Nat->A):aa (Nat×Tm)->Rn->Rn
 |[],rs=>rs
 |(k,m)::C,rs=>adP t C (rnT m (t k) rs)
def adQ(m:Nat->ah bg):aa (Nat×Rm)->Rn->Rn
 |[],rs=>rs
 | (n,x) :: xs,rs=>adQ m xs (match x,rs.inv n with
  | .aC C,some r=>(match m r with
   |some (.aC cs)=>WS C cs rs
   |_=>rs)
  | .aC C,none=>(match m n with
   |some (.aC cs)=>WS C cs (rs.add n n)
   |_=>rs)
  |_,some _=>rs
  |_,none=>rs.add n n)
def jm.rn(C:jm)(σ:S):Rn:=adQ σ.m C.rs (adP σ.t C.ts [])
def WT(rs:aa (Nat×Rm))(p:Nat×Tm)(σ:S):S:=match p.2,σ.t p.1 with
 | .lf (.own n),.lf (.v .nil)=>(match rs.lookup n with
  |some (.sl t o)=>bif Nat.ble 60000 n then ⟨cc ((σ.drop n).root n (.sl (.sl t o false []))).t p.1 (.lf (.own [n])),((σ.drop n).root n (.sl (.sl t o false []))).m⟩else σ
  |_=>σ)
 |_,_=>σ
def OB(rs:aa (Nat×Rm)):aa (Nat×Tm)->S->S
 |[],σ=>σ
 |p::ps,σ=>OB rs ps (WT rs p σ)
def WU(n j r:Nat)(σ:S):S:=match σ.m r with
 | some (.aC cs)=>(match cs[j]? with
  |some (.v .nil)=>⟨σ.t,cc σ.m r (some (.aC (cs.set j (.own [n]))))⟩
  |_=>σ)
 |_=>σ
def WV(rs:aa (Nat×Rm))(n j r:Nat)(σ:S):S:=match rs.lookup n with
 |some (.sl t o)=>bif Nat.ble 60000 n then WU n j r ((σ.drop n).root n (.sl (.sl t o false [])))else σ
 |_=>σ
def B5(rs:aa (Nat×Rm))(r:Nat):Nat->aa Lm->aa Lf->S->S
 |j,.own n::C,.v .nil::cs,σ=>B5 rs r (j+1) C cs (WV rs n j r σ)
 |j,_::C,_::cs,σ=>B5 rs r (j+1) C cs σ
 |_,_,_,σ=>σ
def OC(rs:aa (Nat×Rm)):aa (Nat×Rm)->S->S
 |[],σ=>σ
 | (r,.aC C) :: ps,σ=>OC rs ps (match σ.m r with
  |some (.aC cs)=>B5 rs r 0 C cs σ
  |_=>σ)
 |_::ps,σ=>OC rs ps σ
def jm.rd1(C:jm)(σ:S):ah C.St:=bif (C.rn σ).ok then C.OA (OC C.rs C.rs (σ.eg (C.rn σ)))else none
def jm.rd(C:jm)(σ:S):ah C.St:=match C.OA σ with
 |some x=>some x
 |none=>C.rd1 (OB C.rs C.ts σ)
section
variable {P:Program} {w w':World} {w0:Wd} {B N:Nat} {aj aA:bG} {ρ ρ':Nat->Loc} {σ:S} {a:Act} {X:Type} {d:Nat} {r:X} {o:Oper} {Φ:ez} {Λ:nc}
def Lm.pX{m:Lm}{x:Lf}{y:m.T}(h:m.rd x=some y){u:Value}(C:dU w B aj ρ x u):dU w B aj ρ (m.mk y) u:=by
 unfold Lm.rd at h;split at h
 ·split at h
  next E=>subst E;injection h with h;subst h;exact C
  ·cases h
 ·injection h with h;subst h;exact C
 ·injection h with h;subst h;exact C
 ·rename_i L O;cases D:Nat.beq O L with
  |false=>simp_all
  |true=>obtain rfl:=cE D;exact C
 ·rename_i t o x;cases D:Nat.blt o 2 with
  |false=>rw[D]at h;cases h
  | true=>
   rw[D]at h;have:=cP D;exact⟨by simp[V.aF];omega,C.2.wk (V.GH h)⟩
 ·cases h
def Tm.pX{m:Tm}{x:A}{y:m.T}(h:m.rd x=some y){u:Value}(O:RA w B aj ρ x u):RA w B aj ρ (m.mk y) u:=by
 cases m with
 | lf m=>
  cases x with
  |lf x=>exact Lm.pX h O
  |_=>cases h
 | aJ r j=>
  cases x with
  | aJ Y j'=>
   have h:(bif Nat.beq Y r&&Nat.beq j' j then some ()else none)=some y:=h;cases C:(Nat.beq Y r&&Nat.beq j' j)with
   |false=>simp_all
   | true=>
    rw[aN]at C;obtain rfl:=cE C.1;obtain rfl:=cE C.2;exact O
  |_=>cases h
 | fp t o=>
  cases x with
  | iY cs=>
   have h:(bif Nat.blt o 2 then dec t o cs else none)=some y:=h;cases C:Nat.blt o 2 with
   |false=>simp_all
   | true=>
    rw[C,au]at h;have ho:=cP C;have E:=lV t o cs y h;obtain⟨b,off,Z,h2,h3,h4⟩:=O
    refine⟨b,off,Z,h2,h3,λj z D=>?_⟩
    have hj:j<cs.length:=by rw[E.1];exact(dQ.1 D).1
    have L:=bZ hj;obtain⟨g1,v,g2,g3⟩:=h4 j _ L;exact⟨rH t o y (by omega) j z D,v,g2,g3.wk (E.2 j _ z L D)⟩
  |_=>cases h
 | fc f t=>
  cases x with
  | mQ f' cs=>
   have h:(bif Nat.beq f' f then dec t 0 cs else none)=some y:=h;cases C:Nat.beq f' f with
   |false=>simp_all
   | true=>
    rw[C,au]at h;obtain rfl:=cE C;have E:=lV t 0 cs y h;obtain⟨pv,e0,b,off,Z,h2,h3,h4⟩:=O
    refine⟨pv,e0,b,off,Z,h2,h3,λj z D=>?_⟩
    have hj:j<cs.length:=by rw[E.1];exact(dQ.1 D).1
    have L:=bZ hj;obtain⟨g1,v,g2,g3⟩:=h4 j _ L;exact⟨rH t 0 y (by omega) j z D,v,g2,g3.wk (E.2 j _ z L D)⟩
  |_=>cases h
 | ag t=>
  cases x with
  | agg cs=>
   have h:(match vh cs with|some U=>dec t 0 U|none=>none)=some y:=h;cases jM:vh cs with
   |none=>simp_all
   | some U=>
    rw[jM]at h;have h:dec t 0 U=some y:=h;have gp:=NC _ _ jM;have E:=lV t 0 U y h;obtain⟨us,Z,h2,h3⟩:=O
    refine⟨us,Z,?_,λj x hx=>?_⟩
    ·rw[h2,gp,eI,eI,E.1]
    ·rw[eH]at hx;cases D:(enc t 0 y)[j]? with
     |none=>simp_all
     | some z=>
      rw[D]at hx;injection hx with hx;subst hx;have hj:j<U.length:=by rw[E.1];exact(dQ.1 D).1
      have L:=bZ hj;obtain⟨v,g1,g2⟩:=h3 j (.v U[j]) (by rw[gp,eH,L];rfl);exact⟨v,g1,rH t 0 y (by omega) j z D,g2.2.wk (E.2 j _ z L D)⟩
  |_=>cases h
 | pk r n=>
  cases x with
  | pk Y n'=>
   have h:(bif Nat.beq Y r&&Nat.beq n' n then some ()else none)=some y:=h;cases C:(Nat.beq Y r&&Nat.beq n' n)with
   |false=>simp_all
   | true=>
    rw[aN]at C;obtain rfl:=cE C.1;obtain rfl:=cE C.2;exact O
  |_=>cases h
def adR:∀ (C:aa Lm) (cs:aa Lf) (y:Ip C),Oz C cs=some y -> (xB C y).length=cs.length /\ ∀ (j:Nat) x,(xB C y)[j]?=some x -> ∃ z,cs[j]?=some z/\(∀ (w:World) (B:Nat) (aj:bG) (ρ:Nat -> Loc) (u:Value),dU w B aj ρ z u -> dU w B aj ρ x u)
 |[],[],y,h=>⟨rfl,λj x D=>by simp[xB]at D⟩
 | m :: C,c :: cs,y,h=>by
  unfold Oz at h;split at h
  ·rename_i Y ys E L;injection h with h;subst h;obtain⟨O,T⟩:=adR C cs ys L
   refine⟨by simp[xB,O],λj x D=>?_⟩
   cases j with
   |zero=>simp[xB]at D;subst D;exact⟨c,rfl,λw B aj ρ u U=>Lm.pX E U⟩
   |succ j=>exact T j x (by simpa [xB]using D)
  ·cases h
def Rm.pX{m:Rm}{x:bg}{y:m.T}(h:m.rd x=some y){n:Nat}(C:dY w B aj ρ n x):dY w B aj ρ n (m.mk y):=by
 cases m with
 | sl t o=>
  cases C with
  |sl v y' D hr=>exact .sl v _ D (hr.wk (V.GH h))
  |aC=>cases h
  |mp=>cases h
  |gh=>cases h
 | mp=>
  cases C with
  |gh=>cases h
  |sl=>cases h
  |aC=>cases h
  |mp b c es l D L O he=>injection h with h;subst h;exact .mp b c es _ D L O he
 | st t=>
  cases C with
  |sl=>cases h
  |mp=>cases h
  |gh=>cases h
  | aC b off cells e cs us D L O U hc=>
   have h:(match vh cs with|some E=>dec t 0 E|none=>none)=some y:=h;cases jM:vh cs with
   |none=>simp_all
   | some E=>
    rw[jM]at h;have h:dec t 0 E=some y:=h;have gp:=NC _ _ jM;have Z:=lV t 0 E y h
    refine .aC b off cells e _ us D L O (by rw[eI,<- Z.1];rw[gp,eI]at U;exact U) λj x C=>?_
    rw[eH]at C;cases Y:(enc t 0 y)[j]? with
    |none=>simp_all
    | some z=>
     rw[Y]at C;injection C with C;subst C;have hj:j<E.length:=by rw[Z.1];exact(dQ.1 Y).1
     have hv:=bZ hj;obtain⟨h1,h2⟩:=hc j (.v E[j]) (by rw[gp,eH,hv];rfl);exact⟨h1,rH t 0 y (by omega) j z Y,h2.2.wk (Z.2 j _ z hv Y)⟩
 | aC ms=>
  cases C with
  |sl=>cases h
  |mp=>cases h
  |gh=>cases h
  | aC b off cells e cs us D L O U hc=>
   obtain⟨k1,k2⟩:=adR ms cs y h
   refine .aC b off cells e _ us D L O (by show off+(xB ms y).length <= _;rw[k1];exact U) λj x C=>?_
   grind
def WW:∀ (C:aa (Nat×Tm)) (t:Nat -> A) (y:Ey C),Iq C t=some y -> ∀ k,xD C y k = .undef \/ ∃ m z,(Tm.rd m (t k)=some z/\xD C y k=m.mk z)
 |[],t,y,h,k=>.inl rfl
 | (n,m) :: C,t,y,h,k=>by
  unfold Iq at h;split at h
  ·rename_i x xs E L;injection h with h;subst h;by_cases O:k=n
   ·subst O;exact .inr ⟨m,x,E,by simp[xD]⟩
   ·have D:Nat.beq k n=false:=by
     cases D:Nat.beq k n with
     |false=>rfl
     |true=>simp_all
    simp only[xD,D,aq];exact WW C t xs L k
  ·cases h
def WX:∀ (C:aa (Nat×Rm)) (t:Nat -> ah bg) (y:xE C),Ez C t=some y -> ∀ k,xF C y k=none \/ ∃ m x z,t k=some x/\Rm.rd m x=some z/\xF C y k=some (m.mk z)
 |[],t,y,h,k=>.inl rfl
 | (n,m) :: C,t,y,h,k=>by
  unfold Ez at h;split at h
  ·rename_i x xs D L;injection h with h;subst h;by_cases O:k=n
   ·subst O;cases T:t k with
    |none=>simp_all
    |some z=>rw[T]at D;exact .inr ⟨m,z,x,rfl,D,by simp[xF]⟩
   ·have E:Nat.beq k n=false:=by
     cases E:Nat.beq k n with
     |false=>rfl
     |true=>simp_all
    simp only[xF,E,aq];exact WX C t xs L k
  ·cases h
def jm.adS{D:jm}{x:D.St}(h:D.OA σ=some x)(C:R w0 N σ a w):R w0 N (D.mk' x) a w:=by
 unfold jm.OA at h;split at h
 ·rename_i u v T U;injection h with h;subst h;obtain⟨aj,ρ,C⟩:=C
  refine⟨aj,ρ,C.below,C.dg,λn y E=>?_,λk=>?_,C.size,C.defers,C.fix,C.dz⟩
  ·have E:xF D.rs v n=some y:=E;rcases WX D.rs σ.m v U n with e | ⟨m,x,z,L,O,Y⟩
   ·simp_all
   ·rw[Y]at E;injection E with E;subst E;exact Rm.pX O (C.root n x L)
  ·show RA _ _ _ _ (xD D.ts u k) _;rcases WW D.ts σ.t u T k with e | ⟨m,z,L,O⟩
   ·rw[e];trivial
   ·rw[O];exact Tm.pX L (C.tmp k)
 ·cases h
def adT{n:Nat}{o:ah Nat}(h:WR n o=true):o=some n:=by
 cases o with
 |none=>cases h
 |some m=>rw[cE h]
def adU{rs:Rn}{r n:Nat}(h:rs.lookup r=some n):(r,n)∈rs:=by
 induction rs with
 |nil=>cases h
 |cons p rs C =>grind
def adV{rs:Rn}{r n:Nat}(h:rs.inv n=some r):(r,n)∈rs:=by
 unfold Rn.inv at h;cases C:rs.find? _ with
 |none=>rw[C]at h;cases h
 | some p=>
  rw[C]at h;injection h with h;subst h;have D:=List.find?_some C;have E:=List.mem_of_find?_eq_some C;rw[<- cE D];exact E
def Rn.eT(rs:Rn)(ρ:Nat->Loc):Nat->Loc:=λn=>match rs.inv n with
 |some r=>ρ r
 |none=>ρ n
def Rn.OD{rs:Rn}(h:rs.ok=true){r n:Nat}(C:(r,n)∈rs):(r=n \/ 60000 <= n)/\rs.lookup r=some n/\rs.inv n=some r:=by
 have:=cw.1 h _ C;rw[aN,aN,eD]at this;refine⟨?_,adT this.1.2,adT this.2⟩;simp_all
def dU.eg{rs:Rn}(C:rs.ok=true){x:Lf}{u:Value}(h:dU w B aj ρ x u):dU w B (ey aj rs id) (rs.eT ρ) (x.eg rs) u:=by
 unfold Lf.eg;split
 ·exact⟨h.1,h.2.Nf h.1 λb=>zk⟩
 ·rename_i r;split
  next n D=>have hi:=(Rn.OD C (adU D)).2.2;refine⟨h.1,?_⟩;have E:=h.2;simp[c8]at E ⊢;unfold Rn.eT;simp_all
  ·trivial
 ·trivial
def Rl.eg{rs:Rn}(O:rs.ok=true)(h:Rl w0 N aj ρ σ a w):Rl w0 N (ey aj rs id) (rs.eT ρ) (σ.eg rs) a w:=by
 have hl:∀ b r n,aj b=some [r] -> rs.lookup r=some n -> ey aj rs id b=some [n]:=by
  intro b r n E L;simp[ey,E,L]
 refine⟨h.below,λb k D=>?_,λn x C=>?_,λk=>?_,h.size,h.defers,λr l U=>?_,h.dz⟩
 ·unfold ey at D;split at D
  ·cases D
  ·rename_i k0 NW;split at D
   ·cases D
   ·rename_i r U;cases hn:rs.lookup r with
    |none=>grind
    | some n=>
     rw[hn]at D;injection D with D;subst D;obtain⟨E,L,_⟩:=h.dg b k0 NW;simp_all
 ·have C:(match rs.inv n with | some r=>(σ.m r).map (bg.eg rs) | none=>none)=some x:=C;cases hi:rs.inv n with
  |none=>grind
  | some r=>
   rw[hi]at C;have C:(σ.m r).map (bg.eg rs)=some x:=C;have tf:=(Rn.OD O (adV hi)).2.1;have cB:rs.eT ρ n=ρ r:=by unfold Rn.eT;rw[hi]
   cases hm:σ.m r with
   |none=>grind
   | some y=>
    rw[hm]at C;injection C with C;subst C;cases h.root r y hm with
    | aC b off cells e cs us E L hh hs hc=>
     refine .aC b off cells e _ us (cB.trans E) (hl b r n L tf) hh (by rw[eI];exact hs) λj x C=>?_
     rw[eH]at C;cases T:cs[j]? with
     |none=>grind
     | some z=>
      rw[T]at C;injection C with C;subst C;exact⟨(hc j z T).1,(hc j z T).2.eg O⟩
    | sl v y E L=>
     exact .sl v y (cB.trans E) (RV.ey (p:=[]) (nm:=id) L tf)
    |mp b c es l E L hh he=>exact .mp b c es l (cB.trans E) (hl b r n L tf) hh he
    |gh us xs E C=>exact .gh us _ (cB.trans E) λj x hj=>by simp at hj
 ·show RA _ _ _ _ ((σ.t k).eg rs) _;have D:=h.tmp k;generalize σ.t k=x at D;unfold A.eg;split
  ·exact D.eg O
  ·rename_i r j;split
   next n hn=>have hi:=(Rn.OD O (adU hn)).2.2;obtain⟨b,off,E,L⟩:=D;exact⟨b,off,by unfold Rn.eT;rw[hi];exact E,L⟩
   ·trivial
  ·obtain⟨b,off,Y,Z,g3,g4⟩:=D
   refine⟨b,off,Y,Z,zk g3,λj x C=>?_⟩
   obtain⟨f1,v,f2,f3⟩:=g4 j x C;exact⟨f1,v,f2,f3.Nf f1 λb=>zk⟩
  ·obtain⟨pv,e0,b,off,Y,Z,g3,g4⟩:=D
   refine⟨pv,e0,b,off,Y,Z,zk g3,λj x C=>?_⟩
   obtain⟨f1,v,f2,f3⟩:=g4 j x C;exact⟨f1,v,f2,f3.Nf f1 λb=>zk⟩
  ·obtain⟨us,Y,Z,g3⟩:=D
   refine⟨us,Y,by rw[eI];exact Z,λj x C=>?_⟩
   rw[eH]at C;rename_i cs;cases T:cs[j]? with
   |none=>grind
   | some z=>
    rw[T]at C;injection C with C;subst C;obtain⟨v,f1,f2⟩:=g3 j z T;exact⟨v,f1,f2.eg O⟩
  ·trivial
 ·show rs.eT ρ r=l;unfold Rn.eT;split
  ·rename_i r0 hi;rcases(Rn.OD O (adV hi)).1 with e | e
   ·rw[e];exact h.fix r l U
   ·rw[h.dz r (.inr e)]at U;cases U
  ·exact h.fix r l U
def aq0{rs:aa (Nat×Rm)}{p:Nat×Tm}(C:R w0 N σ a w):R w0 N (WT rs p σ) a w:=by
 unfold WT;split
 ·rename_i n hp T;split
  ·rename_i t o hl;cases U:Nat.ble 60000 n with
   |false=>exact C
   | true=>
    have Y:=cP U;obtain⟨aj,ρ,C⟩:=C;have E:=C.tmp p.1;rw[T]at E;have Z:a.tmps.getD p.1 undef = .slice none 0 0:=by
     have L:=E.2;generalize a.tmps.getD p.1 undef=u at L;cases L;rfl
    have D:=C.new (d:=n) (x:=.sl (.sl t o false [])) (.dX (.slice none 0 0)) (.sl _ _ (cm _ _ _) (.ep _ _ _)) (C.dz n (.inr Y))
    refine⟨aj,_,D.below,D.dg,D.root,λk=>?_,D.size,D.defers,D.fix,D.dz⟩
    show RA _ _ _ _ (cc ((σ.drop n).root n (.sl (.sl t o false []))).t p.1 (.lf (.own [n])) k) _;by_cases O:k=p.1
    ·subst O;rw[cm,Z];exact⟨rfl,by simp[c8,cm]⟩
    ·rw[cM _ _ _ O];exact D.tmp k
  ·exact C
 ·exact C
def aq1{n j r:Nat}{y:V}(C:Rl w0 N aj ρ σ a w)(Y:ρ n = .dX (.slice none 0 0)):Rl w0 N aj ρ (WU n j r σ) a w:=by
 unfold WU;split
 ·rename_i cs Z;split
  ·rename_i T
   refine⟨C.below,C.dg,λL x D=>?_,C.tmp,C.size,C.defers,C.fix,C.dz⟩
   have D:cc σ.m r (some (.aC (cs.set j (.own [n])))) L=some x:=D;by_cases U:L=r
   ·subst U;rw[cm]at D;injection D with D;subst D;cases C.root L _ Z with
    | aC b off cells e cs us h1 O hh hs hc=>
     refine .aC b off cells e _ us h1 O hh (by rw[gz];exact hs) λi z E=>?_
     rw[List.getElem?_set]at E;by_cases hi:j=i
     ·subst hi;have dA:j<cs.length:=(dQ.1 T).1;rw[bM rfl,bM dA]at E;injection E with E;subst E;obtain⟨k1,k2⟩:=hc j _ T;refine⟨k1,?_⟩;have hu:us j = .slice none 0 0:=by
       have O:=k2.2;generalize us j=u at O;cases O;rfl
      rw[hu];exact⟨rfl,by simp only[c8,Y]⟩
     ·grind
   ·rw[cM _ _ _ U]at D;exact C.root L x D
  ·exact C
 ·exact C
def aq2{rs:aa (Nat×Rm)}{n j r:Nat}(C:R w0 N σ a w):R w0 N (WV rs n j r σ) a w:=by
 unfold WV;split
 ·rename_i t o L;cases D:Nat.ble 60000 n with
  |false=>exact C
  | true=>
   have E:=cP D;obtain⟨aj,ρ,C⟩:=C;exact⟨aj,_,aq1 (y:=.nil) (C.new _ (.sl _ _ (cm _ _ _) (.ep _ _ _)) (C.dz n (.inr E))) (cm _ _ _)⟩
 ·exact C
def WY{rs:aa (Nat×Rm)}{r:Nat}:∀ (C:aa Lm) (cs:aa Lf) (j:Nat) (σ:S),R w0 N σ a w -> R w0 N (B5 rs r j C cs σ) a w
 |[],cs,j,σ,h=>by unfold B5;exact h
 | m :: C,[],j,σ,h=>by
  unfold B5;simp_all
 | m :: C,c :: cs,j,σ,h=>by
  unfold B5;split
  next D E=>cases D;cases E;exact WY C cs _ _ (aq2 h)
  next D E=>cases D;cases E;exact WY C cs _ _ h
  ·exact h
def Ir{rs:aa (Nat×Rm)}:∀ (ps:aa (Nat×Rm)) (σ:S),R w0 N σ a w -> R w0 N (OC rs ps σ) a w
 |[],σ,h=>h
 |(r,.sl t o)::ps,σ,h=>Ir ps σ h
 |(r,.st t)::ps,σ,h=>Ir ps σ h
 |(r,.mp)::ps,σ,h=>Ir ps σ h
 | (r,.aC C) :: ps,σ,h=>by
  refine Ir ps _ ?_;split
  ·exact WY C _ 0 σ h
  ·exact h
def adW{rs:aa (Nat×Rm)}:∀ (ps:aa (Nat×Tm)) (σ:S),R w0 N σ a w->R w0 N (OB rs ps σ) a w
 |[],σ,h=>h
 |p::ps,σ,h=>adW ps _ (aq0 h)
def jm.pX{C:jm}{x:C.St}(h:C.rd σ=some x)(D:R w0 N σ a w):R w0 N (C.mk' x) a w:=by
 unfold jm.rd at h;split at h
 next y L=>injection h with h;subst h;exact jm.adS L D
 ·have D:=adW (rs:=C.rs) C.ts σ D;revert h D;generalize OB C.rs C.ts σ=O;intro h D;unfold jm.rd1 at h;cases E:(C.rn O).ok with
  |false=>simp_all
  | true=>
   rw[E,au]at h;obtain⟨aj,ρ,D⟩:=D;exact jm.adS h (Ir C.rs _ ⟨_,_,D.eg E⟩)
end
def xH:aa V->aa Nat->aa Lf
 |[],_=>[]
 | x :: xs,ns=>bif x.plain then .v x :: xH xs ns else (match ns with
  |n::ns=>.own [n]::xH xs ns
  |[]=>.dead::xH xs [])
def B6:aa V->aa Nat->(Nat->ah bg)->Nat->ah bg
 |[],_,m,k=>m k
 | x :: xs,ns,m,k=>bif x.plain then B6 xs ns m k else (match ns with
  |n::ns=>bif Nat.beq k n then some (.sl x)else B6 xs ns m k
  |[]=>B6 xs [] m k)
def kB(m:Nat->ah bg):aa Lf->aa Nat->ah (aa V)
 |[],[]=>some []
 | .v x :: cs,ns=>bif x.plain then (match kB m cs ns with
  |some C=>some (x::C)
  |none=>none)else none
 | .own [r] :: cs,n :: ns=>bif Nat.beq r n then (match m n with
  | some (.sl y)=>bif y.plain then none else (match kB m cs ns with
   |some C=>some (y::C)
   |none=>none)
  |_=>none)else none
 |_,_=>none
abbrev Gp:=Nat×TC×Nat×aa Nat
def Is:aa Gp->Type->Type
 |[],X=>X
 |g::gs,X=>T g.2.1×Is gs X
def OE:(gs:aa Gp)->(rs:aa (Nat×Rm))->Is gs (xE rs)->Nat->ah bg
 |[],rs,x,k=>xF rs x k
 |(n,t,o,ns)::gs,rs,x,k=>bif Nat.beq k n then some (.aC (xH (enc t o x.1) ns))else B6 (enc t o x.1) ns (OE gs rs x.2) k
def OF:(gs:aa Gp)->(rs:aa (Nat×Rm))->(Nat->ah bg)->ah (Is gs (xE rs))
 |[],rs,m=>Ez rs m
 | (n,t,o,ns) :: gs,rs,m=>match m n with
  | some (.aC cs)=>(match kB m cs ns with
   | some C=>(match dec t o C,OF gs rs m with
    |some x,some y=>some (x,y)
    |_,_=>none)
   |none=>none)
  |_=>none
def EA:aa V->aa Nat->aa Lm
 |[],_=>[]
 |.int k _::xs,ns=>.int k::EA xs ns
 |.bool _::xs,ns=>.bool::EA xs ns
 |.str _::xs,ns=>.str::EA xs ns
 |_::xs,n::ns=>.own n::EA xs ns
 |_::xs,[]=>.bool::EA xs []
def WZ:aa V->aa Nat->aa (Nat×Rm)
 |.sl t o _ _::xs,n::ns=>(n,.sl t o)::WZ xs ns
 |_::xs,ns=>WZ xs ns
 |[],_=>[]
def W0:aa Gp->aa (Nat×Rm)->aa (Nat×Rm)
 |[],rs=>rs
 |(n,t,o,ns)::gs,rs=>(n,.aC (EA (shp t o) ns))::(WZ (shp t o) ns++W0 gs rs)
structure bL where
 ts:List (Nat×Tm)
 rs:List (Nat×Rm)
 gs:List Gp
def bL.St(C:bL):Type:=Ey C.ts×Is C.gs (xE C.rs)
def bL.mk'(C:bL)(x:C.St):S:=⟨xD C.ts x.1,OE C.gs C.rs x.2⟩
def bL.OG(C:bL)(σ:S):ah C.St:=match Iq C.ts σ.t,OF C.gs C.rs σ.m with
 |some x,some y=>some (x,y)
 |_,_=>none
def bL.rd(C:bL)(σ:S):ah C.St:=match C.OG σ with
 |some x=>some x
 | none=>match jm.rd ⟨C.ts,W0 C.gs C.rs⟩ σ with
  |some z=>C.OG (jm.mk' ⟨C.ts,W0 C.gs C.rs⟩ z)
  |none=>none
section
variable {P:Program} {w w':World} {w0:Wd} {B N:Nat} {aj aA:bG} {ρ ρ':Nat->Loc} {σ:S} {a:Act} {m:Nat->ah bg}
def kO.inv{x:V}{xs ys:aa V}(k:kO (x :: xs) ys):∃ y C,ys=y :: C/\Wk x y/\kO xs C:=by
 obtain⟨D,E⟩:=k;cases ys with
 |nil=>simp at D
 |cons y C=>exact⟨y,C,rfl,E 0 x y rfl rfl,by simpa using D,λj a b L O=>E (j+1) a b (by simpa using L) (by simpa using O)⟩
def Wk.adX{x y:V}(h:Wk x y)(C:x.plain=true):y=x:=by
 cases h<;>first|rfl|cases C
def Wk.adY{x y:V}(h:Wk x y)(C:x.plain=false):y.plain=false:=by
 cases h<;>first|exact C|rfl
def W2:∀ (cs:aa Lf) (ns:aa Nat) (C ys:aa V),kB m cs ns=some C -> kO C ys -> (xH ys ns).length=cs.length /\ ∀ (j:Nat) z,(xH ys ns)[j]?=some z -> cs[j]?=some z
 | [],[],C,ys,h,E=>by
  simp only[kB,iw]at h;subst h;have:ys=[]:=List.eq_nil_of_length_eq_zero E.1.symm;subst this;exact⟨rfl,λj z L=>by simp[xH]at L⟩
 | .v x :: cs,ns,C,ys,h,E=>by
  unfold kB at h;cases D:x.plain with
  |false=>simp_all
  | true=>
   rw[D,au]at h;split at h
   ·rename_i us O;injection h with h;subst h;obtain⟨y,T,rfl,U,Y⟩:=E.inv;obtain rfl:=U.adX D;obtain⟨Z,e2⟩:=W2 cs ns us T O Y;simp only[xH,D,au]
    refine⟨by simp[Z],λj z L=>?_⟩
    cases j with
    |zero=>simp_all
    |succ j=>simp_all
   ·cases h
 | .own [r] :: cs,n :: ns,C,ys,h,E=>by
  unfold kB at h;cases hb:Nat.beq r n with
  |false=>simp_all
  | true=>
   rw[hb,au]at h;obtain rfl:=cE hb;split at h
   ·rename_i y hy;cases D:y.plain with
    |true=>simp_all
    | false=>
     rw[D,aq]at h;split at h
     ·rename_i us O;injection h with h;subst h;obtain⟨y',T,rfl,U,Y⟩:=E.inv;have hq:=U.adY D;obtain⟨Z,e2⟩:=W2 cs ns us T O Y;simp only[xH,hq,aq]
      refine⟨by simp[Z],λj z L=>?_⟩
      cases j with
      |zero=>simp_all
      |succ j=>simp_all
     ·cases h
   ·cases h
 |[],_::_,C,ys,h,_=>by simp[kB]at h
 |.dead::_,_,C,ys,h,_=>by simp[kB]at h
 |.own []::_,_,C,ys,h,_=>by simp[kB]at h
 |.own (_::_::_)::_,_,C,ys,h,_=>by simp[kB]at h
 |.own [_]::_,[],C,ys,h,_=>by simp[kB]at h
def W3{f:Nat -> ah bg}{k:Nat}{x:bg}:∀ (cs:aa Lf) (ns:aa Nat) (D ys:aa V),kB m cs ns=some D -> kO D ys -> B6 ys ns f k=some x -> f k=some x \/ ∃ v y,m k=some (.sl v)/\x = .sl y/\Wk v y
 | [],[],D,ys,h,L,C=>by
  simp only[kB,iw]at h;subst h;have:ys=[]:=List.eq_nil_of_length_eq_zero L.1.symm;subst this;exact .inl C
 | .v x' :: cs,ns,D,ys,h,L,C=>by
  unfold kB at h;cases E:x'.plain with
  |false=>simp_all
  | true=>
   rw[E,au]at h;split at h
   next us O=>injection h with h;subst h;obtain⟨y,T,rfl,U,Y⟩:=L.inv;obtain rfl:=U.adX E;simp[B6,E]at C;exact W3 cs ns us T O Y C
   ·cases h
 | .own [r] :: cs,n :: ns,D,ys,h,L,C=>by
  unfold kB at h;cases hb:Nat.beq r n with
  |false=>simp_all
  | true=>
   rw[hb,au]at h;obtain rfl:=cE hb;split at h
   ·rename_i y hy;cases E:y.plain with
    |true=>simp_all
    | false=>
     rw[E,aq]at h;split at h
     ·rename_i us O;injection h with h;subst h;obtain⟨y',T,rfl,U,Y⟩:=L.inv;have hq:=U.adY E;simp only[B6,hq,aq]at C;cases Z:Nat.beq k r with
      | true=>
       rw[Z]at C;injection C with C;obtain rfl:=cE Z
       grind
      | false=>
       rw[Z]at C;exact W3 cs ns us T O Y C
     ·cases h
   ·cases h
 |[],_::_,D,ys,h,_,_=>by simp[kB]at h
 |.dead::_,_,D,ys,h,_,_=>by simp[kB]at h
 |.own []::_,_,D,ys,h,_,_=>by simp[kB]at h
 |.own (_::_::_)::_,_,D,ys,h,_,_=>by simp[kB]at h
 |.own [_]::_,[],D,ys,h,_,_=>by simp[kB]at h
def adZ:∀ (gs:aa Gp) (rs:aa (Nat×Rm)) (y:Is gs (xE rs)),OF gs rs m=some y -> ∀ k x,OE gs rs y k=some x -> ∃ O,m k=some O /\ ∀ (w:World) (B:Nat) (aj:bG) (ρ:Nat -> Loc),dY w B aj ρ k O -> dY w B aj ρ k x
 | [],rs,y,h,k,x,C=>by
  have h:Ez rs m=some y:=h;have C:xF rs y k=some x:=C;rcases WX rs m y h k with e|⟨m',O,z,E,L,e3⟩
  ·simp_all
  ·rw[e3]at C;injection C with C;subst C;exact⟨O,E,λw B aj ρ D=>Rm.pX L D⟩
 | (n,t,o,ns) :: gs,rs,y,h,k,x,C=>by
  unfold OF at h;split at h
  ·rename_i cs hm;split at h
   ·rename_i T Z;split at h
    ·rename_i x1 y1 h1 h2;injection h with h;subst h;have hw:=lV t o T x1 h1;simp only[OE]at C;cases U:Nat.beq k n with
     | true=>
      rw[U,au]at C;injection C with C;subst C;obtain rfl:=cE U;obtain⟨E,L⟩:=W2 cs ns T _ Z hw
      refine⟨_,hm,λw B aj ρ D=>?_⟩
      cases D with
      |aC b off cells e _ us Y hl hh hs hc=>exact .aC b off cells e _ us Y hl hh (by rw[E];exact hs) λj z hz=>hc j z (L j z hz)
     | false=>
      rw[U,aq]at C;rcases W3 cs ns T _ Z hw C with e|⟨v,y',E,rfl,L⟩
      ·exact adZ gs rs y1 h2 k x e
      ·refine⟨_,E,λw B aj ρ D=>?_⟩
       cases D with
       |sl u _ Y D=>exact .sl u _ Y (D.wk L)
    ·cases h
   ·cases h
  ·cases h
def bL.ad0{D:bL}{x:D.St}(h:D.OG σ=some x)(C:R w0 N σ a w):R w0 N (D.mk' x) a w:=by
 unfold bL.OG at h;split at h
 ·rename_i u v O T;injection h with h;subst h;obtain⟨aj,ρ,C⟩:=C
  refine⟨aj,ρ,C.below,C.dg,λn y U=>?_,λk=>?_,C.size,C.defers,C.fix,C.dz⟩
  ·obtain⟨Y,E,L⟩:=adZ D.gs D.rs v T n y U;exact L _ _ _ _ (C.root n Y E)
  ·show RA _ _ _ _ (xD D.ts u k) _;rcases WW D.ts σ.t u O k with e | ⟨m,z,E,L⟩
   ·rw[e];trivial
   ·rw[L];exact Tm.pX E (C.tmp k)
 ·cases h
def bL.pX{C:bL}{x:C.St}(h:C.rd σ=some x)(D:R w0 N σ a w):R w0 N (C.mk' x) a w:=by
 unfold bL.rd at h;split at h
 next y E=>injection h with h;subst h;exact bL.ad0 E D
 ·split at h
  next z L=>exact bL.ad0 h (jm.pX L D)
  ·cases h
end
def B7:Exit->ah Nat
 |.normal=>some 0
 |.ret=>some 1
 |.exit n=>some (n+2)
 |_=>none
def W4:Nat->Exit
 |0=>.normal
 |1=>.ret
 |n+2=>.exit n
def vB{e:Exit}{n:Nat}(h:B7 e=some n):e=W4 n:=by
 cases e<;>simp[B7]at h<;>subst h<;>rfl
def tJ:aa (Nat×bL)->Type
 |[]=>Empty
 |(_,C)::r=>C.St⊕tJ r
def OH:(l:aa (Nat×bL))->Nat->S->ah (tJ l)
 |[],_,_=>none
 | (n,C) :: r,e,σ=>bif Nat.beq n e then (match C.rd σ with
  |some x=>some (.inl x)
  |none=>none)else (match OH r e σ with
  |some x=>some (.inr x)
  |none=>none)
def W5{X:Type}:(l:aa (Nat×bL))->tJ l->(Exit->S->ah X)->ah X
 |[],z,_=>nomatch z
 | (n,C) :: r,z,k=>match z with
  |.inl x=>k (W4 n) (C.mk' x)
  |.inr z=>W5 r z k
def iter{α β:Type}(step:α->ah (α⊕β)):Nat->α->ah β
 |0,_=>none
 | n+1,x=>match step x with
  |some (.inl y)=>iter step n y
  |some (.inr z)=>some z
  |none=>none
def EB(P:Program)(N:Nat)(Φ:ez)(Λ:nc)(body:Code)(C:bL)(D:aa (Nat×bL))(x:C.St):ah (C.St⊕tJ D):=
 lI P N Φ Λ body (C.mk' x) λe σ=>match B7 e with
  | some 0=>(match C.rd σ with
   |some x=>some (.inl x)
   |none=>none)
  | some n=>(match OH D n σ with
   |some x=>some (.inr x)
   |none=>none)
  |none=>none
def W7{X:Type}(id:Nat)(k:Exit->S->ah X)(e:Exit)(σ:S):ah X:=
 match e with
 |.exit C=>if C=id then k .normal σ else k (.exit C) σ
 |e=>k e σ
def OI(id:Nat)(C:bL)(D:aa (Nat×bL))(F:C.St->ah (C.St⊕tJ D))(fuel:C.St->Nat):sg:=
 ⟨λX σ k=>match C.rd σ with
  | some x=>(match iter F (fuel x) x with
   |some z=>W5 D z (W7 id k)
   |none=>none)
  |none=>none⟩
def kC:aa (Bool×TC)->Type
 |[]=>af
 |(_,t)::r=>T t×kC r
def gf:(l:aa (Bool×TC))->kC l->aa Pt
 |[],_=>[]
 |(b,t)::r,x=>(b,enc t 0 x.1)::gf r x.2
def xJ:(l:aa (Bool×TC))->aa Pt->ah (kC l)
 |[],[]=>some ()
 | (b,t) :: r,(C,D) :: ps=>bif b==C then (match dec t 0 D,xJ r ps with
  |some x,some xs=>some (x,xs)
  |_,_=>none)else none
 |_,_=>none
def gR(ai:aa (Bool×TC))(ro:aa (Bool×TC×Nat))(F:kC ai->ah (iC ro)):iK:=
 ⟨λX args k=>match xJ ai args with
  | some x=>(match F x with
   |some y=>k (fm ro y)
   |none=>none)
  |none=>none⟩
def W8:Pt->A
 |(false,[x])=>.lf (.v x)
 |(true,xs)=>.agg (xs.map .v)
 |(false,.bool true::c::cs)=>.iY (c::cs)
 |(false,.bool false::.int .i64 (.ofNat g)::c::cs)=>.mQ g (c::cs)
 |_=>.undef
def ad1(args:aa Pt):S:=⟨λk=>match args[k]? with
 |some p=>W8 p
 |none=>.undef,λ_=>none⟩
def pY{X:Type}(P:Program)(N:Nat)(Φ:ez)(Λ:nc)(code:Code)(C:Array ResultVar)(args:aa Pt)(k:fR->ah X):ah X:=
 lI P N Φ Λ code (ad1 args) λe σ=>match B7 e with
  |some 0=>Hp P σ C k
  |some 1=>Hp P σ C k
  |_=>none
section
variable {P:Program} {w w':World} {w0:Wd} {B N:Nat} {aj aA:bG} {ρ ρ':Nat->Loc} {σ:S} {a:Act} {X:Type} {d:Nat} {r:X} {o:Oper} {Φ:ez} {Λ:nc}
def ad2:∀ (l:aa (Nat×bL)) (e:Nat) (z:tJ l),OH l e σ=some z->∀ (X:Type) (k:Exit->S->ah X),∃ E,W5 l z k=k (W4 e) E/\∀ a w,R w0 N σ a w->R w0 N E a w
 |[],e,z,h=>by cases h
 | (n,L) :: l,e,z,h=>by
  intro X k;unfold OH at h;cases C:Nat.beq n e with
  | true=>
   obtain rfl:=cE C;rw[C,au]at h;split at h
   next x D=>injection h with h;subst h;exact⟨L.mk' x,rfl,λa w O=>bL.pX D O⟩
   ·cases h
  | false=>
   rw[C,aq]at h;split at h
   next x D=>injection h with h;subst h;exact ad2 l e x D X k
   ·cases h
def aq3{id:Nat}{body:Code}{E:bL}{U:aa (Nat×bL)}{F:E.St -> ah (E.St⊕tJ U)}{fuel:E.St -> Nat}(ei:fL P Φ)(pZ:pV P N Λ (occs body))(hF:∀ x,EB P N Φ Λ body E U x=F x):BX P N (.block id (.loop body)) (OI id E U F fuel):=by
 intro X σ k r w0 h a w hR;simp only[OI]at h;split at h
 ·rename_i x L;split at h
  ·rename_i z hz;refine wp_block ?_;have key:∀ (n:Nat) (x:E.St),iter F n x=some z -> ∀ (a:Act) (w:World),R w0 N (E.mk' x) a w -> ∀ (b:Frame) (O:aa Item) (cs:aa Frame),
     ∃e T w',Exit.inBlock id (λe T w'=>∃cR,k e cR=some r/\R w0 N cR T w') e T w'/\Arrives P (lone (b.at a (.code body::.inLoop body::O)) cs w) b O cs e T w':=by
    intro n
    induction n with
    |zero=>intro x L;simp[iter]at L
    | succ n ih=>
     intro x L a w hR b O cs;simp only[iter]at L;have jN:∃ y,EB P N Φ Λ body E U x=some y/\(match y with | .inl y=>iter F n y=some z | .inr z'=>z'=z):=by
      rw[hF];split at L
      ·grind
      ·grind
      ·cases L
     obtain⟨y,hy,Y⟩:=jN;unfold EB at hy;have hwp:=Io (w0:=w0) ei body _ _ hy pZ a w hR;obtain⟨e,a1,w1,⟨pS,D,vp⟩,Z⟩:=hwp b (.inLoop body::O) cs;split at D
     ·rename_i C;have C:=vB C;subst C;split at D
      next x1 hx1=>injection D with D;subst D;obtain⟨e2,a2,w2,Bn,aq4⟩:=ih x1 Y a1 w1 (bL.pX hx1 vp) b O cs;exact⟨e2,a2,w2,Bn,.of_steps (Steps.trans Z (.one step_inLoop)) aq4⟩
      ·cases D
     ·rename_i n' dc C;have C:=vB C;split at D
      ·rename_i z1 It;injection D with D;subst D;have Y:z1=z:=Y;subst Y;obtain⟨σ2,pH,oP⟩:=ad2 (w0:=w0) (N:=N) U n' z1 It X (W7 id k);rw[pH]at h;rw[<- C]at h;refine⟨e,a1,w1,?_,?_⟩
       ·cases e with
        | exit id'=>
         simp only[W7]at h;simp only[Exit.inBlock];split at h
         ·grind
         ·grind
        |_=>exact⟨σ2,h,oP a1 w1 vp⟩
       ·refine .pass (x:=.inLoop body) rfl (λ_ _=>.inl ?_) Z
        intro e';rw[e']at C
        match n',dc,C with
        |0,dc,_=>exact dc rfl
        |1,_,C=>cases C
        |n+2,_,C=>cases C
      ·cases D
     ·cases D
   intro b O cs;obtain⟨e,T,w',hq,Z⟩:=key (fuel x) x hz a w (bL.pX L hR) b O cs;exact⟨e,T,w',hq,.of_steps (.one step_loop) Z⟩
  ·cases h
 ·cases h
def PV.tw{key:Nat->aa Nat}{b:Bool}{xs ys:aa V}{u:Value}(h:PV w B aj key (b,xs) u)(k:kO xs ys):PV w B aj key (b,ys) u:=by
 obtain⟨us,E,L,O⟩:=h
 refine⟨us,E,L.trans k.1,λj y C=>?_⟩
 have D:j<xs.length:=by rw[k.1];exact(dQ.1 C).1
 obtain⟨v,T,U⟩:=O j _ (bZ D);exact⟨v,T,U.wk (k.2 j _ y (bZ D) C)⟩
def zh.tw{cs C:aa V}{u:Value}(h:zh w cs u)(k:kO cs C):zh w C u:=by
 obtain⟨b,off,L,O,T⟩:=h
 refine⟨b,off,L,O,λj y D=>?_⟩
 have E:j<cs.length:=by rw[k.1];exact(dQ.1 D).1
 obtain⟨v,U,Y⟩:=T j _ (bZ E);exact⟨v,U,Y.wk (k.2 j _ y (bZ E) D)⟩
def PA.tw{b:Bool}{xs ys:aa V}{u:Value}(h:PA w (b,xs) u)(k:kO xs ys):PA w (b,ys) u:=by
 cases h with
 |v _ _ h=>exact .v _ _ (h.tw k)
 | p c cs _ h=>
  obtain⟨y,E,rfl,C,D⟩:=k.inv;cases C;have h:=h.tw D;obtain⟨O,eC,rfl,_,_⟩:=D.inv;exact .p _ _ _ h
 | f g c cs u h=>
  obtain⟨y,E,rfl,C,D⟩:=k.inv;cases C;obtain⟨y,E,rfl,C,L⟩:=D.inv;cases C;have h:=h.tw L;obtain⟨O,eC,rfl,_,_⟩:=L.inv;exact .f _ _ _ _ h
def PA.ra{p:Pt}{u:Value}(h:PA w p u)(D:∀ y∈p.2,y.aF=true):RA w w.heap.size (λ_=>none) ρ (W8 p) u:=by
 have U:∀ {cs:aa V} {u:Value},zh w cs u -> (∀ y∈cs,y.aF=true) -> RF w w.heap.size (λ_=>none) cs u:=by
  rintro cs u ⟨b,off,rfl,hb,E⟩ D
  refine⟨b,off,rfl,hb,rfl,λj x Y=>⟨D x (gO Y),E j x Y⟩⟩
 cases h with
 | v _ _ h=>
  obtain⟨us,Z,hs,E⟩:=h;obtain⟨b,xs⟩:=p;cases b with
  | true=>
   refine⟨us,Z,by rw[eI];exact hs,λi y C=>?_⟩
   rw[eH]at C;cases L:xs[i]? with
   |none=>simp_all
   | some z=>
    rw[L]at C;injection C with C;subst C;obtain⟨v,O,T⟩:=E i z L;exact⟨v,O,D z (gO L),T⟩
  | false=>
   subst Z;have h1:=hs.symm;obtain⟨x,rfl⟩:=List.length_eq_one_iff.1 h1;obtain⟨v,O,T⟩:=E 0 x rfl;have:u=v:=by simpa using O
   subst this;exact⟨D x (by simp),T⟩
 |p c cs _ h=>exact U h λy C=>D y (.tail _ C)
 |f g c cs u h=>exact⟨u,rfl,U h λy C=>D y (.tail _ (.tail _ C))⟩
def W9:∀ (l:aa (Bool×TC)) (ps:aa Pt) (x:kC l),xJ l ps=some x -> (gf l x).length=ps.length /\ ∀ (i:Nat) p,(gf l x)[i]?=some p -> ∃ q,ps[i]?=some q/\q.1=p.1/\kO q.2 p.2
 |[],[],x,h=>⟨rfl,λi p C=>by simp[gf]at C⟩
 | (b,t) :: r,(E,L) :: ps,x,h=>by
  unfold xJ at h;cases D:b==E with
  |false=>simp_all
  | true=>
   rw[D,au]at h;have D:b=E:=by simpa using D
   subst D;split at h
   ·rename_i y ys O T;injection h with h;subst h;obtain⟨U,Y⟩:=W9 r ps ys T
    refine⟨by simp[gf,U],λi p C=>?_⟩
    cases i with
    |zero=>simp[gf]at C;subst C;exact⟨(b,L),rfl,rfl,lV t 0 L y O⟩
    |succ i=>exact Y i p (by simpa [gf]using C)
   ·cases h
 |[],_::_,x,h=>by simp[xJ]at h
 |_::_,[],x,h=>by simp[xJ]at h
def lJ(l:aa (Bool×TC×Nat)):Bool:=l.all λp=>Nat.ble (full p.2.1) p.2.2
def ad3(t:TC)(g:Nat)(x:T t)(h:full t <= g):(enc t g x).all V.loc=true:=by
 rw[cw];intro y D;have L:=yM t g x y D;have E:=Nd t g x y D;cases y with
 | sl O C q l=>
  have U:C=g:=by simpa [V.gr]using L
  subst U;have E:=cP E;show zi O C=true
  match C,h with
  |0,h=>omega
  |1,h=>omega
  | n+2,h=>
   simp only[zi,eD];left;exact jr (by omega)
 |_=>rfl
def Xa:∀ (l:aa (Bool×TC×Nat)) (ps:aa Pt) (x:iC l),lJ l=true -> pO l ps=some x -> (th l x).length=ps.length /\ ∀ (nm:Nat -> Nat) (off:Nat) (D:aa Value),ju w B aj nm off ps D -> ju w B aj nm off (th l x) D
 |[],[],x,_,h=>⟨rfl,λnm off D E=>E⟩
 | [(b,t,g)],[(L,D)],x,T,h=>by
  unfold pO at h;cases C:b==L with
  |false=>rw[C]at h;cases h
  | true=>
   rw[C]at h;have h:dec t g D=some x:=h;have C:b=L:=by simpa using C
   subst C;have Y:full t <= g:=by simpa [lJ]using T
   refine⟨rfl,λnm off us E=>?_⟩
   match us,E with
   |[u],⟨⟨_,O⟩,_⟩=>exact⟨⟨ad3 t g x Y,O.tw (lV t g D x h)⟩,trivial⟩
 | (b,t,g) :: q :: r,(L,D) :: ps,x,T,h=>by
  unfold pO at h;cases C:b==L with
  |false=>grind
  | true=>
   rw[C,au]at h;have C:b=L:=by simpa using C
   subst C;have U:full t <= g/\lJ (q :: r)=true:=by
    simp only[lJ,List.all_cons,aN]at T ⊢;simp_all
   split at h
   ·rename_i y ys O Z;injection h with h;subst h;obtain⟨k1,k2⟩:=Xa (q :: r) ps ys U.2 Z
    refine⟨by simp[th,k1],λnm off us E=>?_⟩
    match us,E with
    | u :: us,⟨⟨_,hp⟩,vi⟩=>
     have hlen:=(lV t g D y O).1;refine⟨⟨ad3 t g y U.1,hp.tw (lV t g D y O)⟩,?_⟩;simp_all
   ·cases h
 |[],_::_,x,_,h=>by simp[pO]at h
 |[_],[],x,_,h=>by simp[pO]at h
 |[_],_::_::_,x,_,h=>by simp[pO]at h
 |_::_::_,[],x,_,h=>by simp[pO]at h
def ad4{l:aa (Bool×TC×Nat)}{E:fR}{x:iC l}(O:lJ l=true)(h:lG l E=some x){nm:Nat -> Nat}{v:Value}(D:pN w B aj nm E v):pN w B aj nm (fm l x) v:=by
 cases E with
 | one p=>
  obtain⟨C,L⟩:=Xa (w:=w) (B:=B) (aj:=aj) l [p] x O h;have D:ju w B aj nm 0 [p] [v]:=D;have:=L nm 0 [v] D;unfold fm
  match hm:th l x,C,this with
  |[q],_,this=>exact this
  |[],C,_=>cases C
  |_::_::_,C,_=>simp at C
 | eS ps=>
  simp only[lG]at h;cases U:Nat.beq ps.length 1 with
  |true=>simp_all
  | false=>
   rw[U,aq]at h;obtain⟨C,L⟩:=Xa (w:=w) (B:=B) (aj:=aj) l ps x O h;obtain⟨T,e,D⟩:=D;have:=L nm 0 _ D;unfold fm
   match hm:th l x,C,this with
   |[q],C,this=>simp_all
   |[],_,this=>exact⟨T,e,this⟩
   |_::_::_,_,this=>exact⟨T,e,this⟩
def ad5:∀ (l:aa (Bool×TC)) (x:kC l),(gf l x).length=l.length
 |[],x=>rfl
 |(b,t)::l,x=>by simp[gf,ad5 l]
def ad6:∀ (l:aa (Bool×TC)) (x:kC l) (j:Nat) (p:Pt),(gf l x)[j]?=some p->∀ y∈p.2,y.aF=true
 |[],x,j,p,C,_,_=>by simp[gf]at C
 | (b,t) :: l,x,0,p,C,y,D=>by
  simp[gf]at C;subst C;obtain⟨i,hi⟩:=List.mem_iff_getElem?.1 D;exact rH t 0 x.1 (by omega) i y hi
 |(b,t)::l,x,j+1,p,C,y,D=>ad6 l x.2 j p (by simpa [gf]using C) y D
def Iu{f:Nat}{fn:Func}{code:Code}{tK:aa Pt}{ro:aa (Bool×TC×Nat)}{y:iC ro}(hf:P.funcs[f]?=some fn)(L:fn.body=some code)(hN:fn.ntmps=N)(U:tK.length <= N)(eG:lJ ro=true)
  (ei:fL P Φ) (pZ:pV P N Λ (occs code)) (aq5:∀(j:Nat) p,tK[j]?=some p -> ∀y∈p.2,y.aF=true) (O:pY P N Φ Λ code fn.results tK (lG ro)=some y) (nm:Nat -> Nat) (w:World) (bY:Array Value) (Y:oN w tK bY) (Z:Hd w (λ_=>none)):
  Calls P f bY w λe w'=>∃v aA,e = .returned v/\Below w.heap.size w w'/\(∀b k,aA b=some k -> w.heap.size <= b/\b<w'.heap.size/\k≠[])/\pN w' w.heap.size aA nm (fm ro y) v:=by
 have U:bY.size <= N:=by rw[Y.1];exact U
 refine calls_of_wp hf L ?_;unfold pY at O;have hR:R (.of w Z) N (ad1 tK) { tmps:=bY++Array.replicate (fn.ntmps-bY.size) undef,defers:=[] } w:=by
  refine⟨λ_=>none,λ_=>.aC 0 0,.of (Below.refl w.heap.size w) (dM _),(λb k D=>by cases D),(λn y O=>by cases O),λj=>?_,by simp[hN];omega,rfl,(λr l h=>by cases h),(λ_ _=>rfl)⟩
  show RA w w.heap.size _ _ (match tK[j]? with|some p=>W8 p|none=>.undef) _;cases hp:tK[j]? with
  |none=>trivial
  | some p=>
   obtain⟨u,hu,rS⟩:=Y.2 j p hp;have hj:=(iH.1 hu).1;have e:(bY++Array.replicate (fn.ntmps-bY.size) undef).getD j undef=u:=by rw[iu,Array.getElem?_append_left hj,hu];rfl
   rw[e];exact rS.ra (aq5 j p hp)
 refine wp_mono (Io (w0:=.of w Z) ei code _ _ O pZ _ w hR) λe T w' C=>?_
 obtain⟨cR,D,aj,ρ,E⟩:=C;have fin:Hp P cR fn.results (lG ro)=some y -> T.defers=[] /\ ∃ v,(results fn T.tmps).run P w' = .ok v w' /\ ∃ zM aA,Ending.returned v=Ending.returned zM/\Below w.heap.size w w'/\(∀ b k,aA b=some k -> w.heap.size <= b/\b<w'.heap.size/\k≠[])/\pN w' w.heap.size aA nm (fm ro y) zM:=by
  intro ng;obtain⟨res,lF,dD⟩:=aop ng;obtain⟨v,aA,h1,h2,h3⟩:=dD aj ρ T w' E nm;exact⟨E.defers,v,h1,v,aA,rfl,⟨E.below.os,E.below.tape,E.below.output,E.below.size,λk D=>E.below.block k D rfl⟩,λb k L=>⟨(h2 b k L).1.resolve_right (λh=>h rfl),(h2 b k L).2⟩,ad4 eG lF h3⟩
 split at D
 next C=>have C:=vB C;subst C;exact fin D
 next C=>have C:=vB C;subst C;exact fin D
 ·cases D
def aq6{ai:aa (Bool×TC)}{args:aa Pt}{x:kC ai}{bY:Array Value}(E:xJ ai args=some x)(C:oN w args bY):oN w (gf ai x) bY:=by
 obtain⟨L,O⟩:=W9 ai args x E
 refine⟨C.1.trans L.symm,λj p T=>?_⟩
 obtain⟨q,U,D,Y⟩:=O j p T;obtain⟨u,Z,rS⟩:=C.2 j q U;refine⟨u,Z,?_⟩;obtain⟨b,ys⟩:=p;obtain⟨b',xs⟩:=q;simp only at D;subst D;exact rS.tw Y
def Xb{f:Nat}{ai:aa (Bool×TC)}{ro:aa (Bool×TC×Nat)}{F:kC ai->ah (iC ro)}(h:∀ x y,F x=some y->∀ (nm:Nat->Nat) (w:World) (bY:Array Value),oN w (gf ai x) bY->Hd w (λ_=>none)->
  Calls P f bY w λe w'=>∃v aA,e = .returned v/\Below w.heap.size w w'/\(∀b k,aA b=some k->w.heap.size<=b/\b<w'.heap.size/\k≠[])/\pN w' w.heap.size aA nm (fm ro y) v):ij P f (gR ai ro F):=by
 refine⟨λargs X Y k g=>?_,λargs T C nm w bY D E=>?_⟩
 ·unfold gR;dsimp only;split
  ·split<;>rfl
  ·rfl
 ·simp only[gR]at C;split at C
  ·rename_i x L;split at C
   next y O=>injection C with C;subst C;exact h x y O nm w bY (aq6 L D) E
   ·cases C
  ·cases C
def aq7{f:Nat}{fn:Func}{code:Code}{ai:aa (Bool×TC)}{ro:aa (Bool×TC×Nat)}{F:kC ai->ah (iC ro)}(C:P.funcs[f]?=some fn)(D:fn.body=some code)(E:fn.ntmps=N)(L:(fn.name == "runtime.NumGoroutine")=false)(O:Nat.ble ai.length N=true)(T:lJ ro=true)
  (U:fL P Φ) (Y:pV P N Λ (occs code)) (Z:∀x,pY P N Φ Λ code fn.results (gf ai x) (lG ro)=F x):enters P f/\ij P f (gR ai ro F):=
 ⟨⟨fn,C,L,by rw[D];rfl⟩,Xb λx y hy nm w bY lE hQ=>Iu C D E (by rw[ad5];exact cP O) T U Y (ad6 ai x) ((Z x).trans hy) nm w bY lE hQ⟩
def aq8{f:Nat}{fn:Func}{code:Code}{t:TC}{g:Nat}{F:aa (T t)->ah (aa (T t))}(E:P.funcs[f]?=some fn)(L:fn.body=some code)(U:fn.ntmps=N)(B8:(fn.name == "runtime.NumGoroutine")=false)(Iv:Nat.ble 1 N=true)(Y:lJ [(false,.sl t,g)]=true)
  (Z:fL P Φ) (pZ:pV P N Λ (occs code)) (hF:∀x:aa (T t),pY P N Φ Λ code fn.results [(false,[.sl t 0 false x])] (lG [(false,.sl t,g)])=F x)
  (h0:pY P N Φ Λ code fn.results [(false,[.nil])] (lG [(false,.sl t,g)])=some ([]:aa (T t))) (h1:pY P N Φ Λ code fn.results [(false,[.sl t 0 true []])] (lG [(false,.sl t,g)])=some ([]:aa (T t))):
  enters P f/\ij P f (gR [(false,.sl t)] [(false,.sl t,g)] λx=>bif jt x.1 then some ([]:aa (T t))else F x.1):=by
 refine⟨⟨fn,E,B8,by rw[L];rfl⟩,Xb λx y D nm w bY O hQ=>?_⟩
 obtain⟨l,_⟩:=x;have O:oN w [(false,[.sl t 0 false l])] bY:=O;have hle:1<=N:=cP Iv;have OJ:∀ (v:V),v.aF=true->∀ (j:Nat) p,([(false,[v])]:aa Pt)[j]?=some p->∀ y∈p.2,y.aF=true:=by
  intro v hv j p C y D;rcases j with _|j
  ·injection C with C;subst C;rw[List.mem_singleton.1 D];exact hv
  ·cases C
 obtain⟨u,hu,C⟩:=O.2 0 _ rfl;obtain⟨us,e,_,hv⟩:=C.pv;have e:us = #[u]:=e;subst e;obtain⟨v,g1,hr⟩:=hv 0 _ rfl;have g1:u=v:=by simpa using g1
 subst g1;have one:∀ v:V,RV w w.heap.size (λ_=>none) [] v u->oN w [(false,[v])] bY:=λv hr=>⟨O.1,λj p C=>by
  rcases j with _|j
  ·injection C with C;subst C;exact⟨u,hu,.v _ _ ⟨#[u],rfl,rfl,λi x hx=>by
    rcases i with _|i
    ·injection hx with hx;subst hx;exact⟨u,rfl,hr⟩
    ·cases hx⟩⟩
  ·cases C⟩
 cases l with
 |cons a l=>exact Iu (tK:=[(false,[.sl t 0 false (a::l)])]) E L U hle Y Z pZ (OJ _ rfl) ((hF _).trans D) nm w bY O hQ
 | nil=>
  have D:some ([]:aa (T t))=some y:=D;injection D with D;subst D;cases hr with
  |ep=>exact Iu (tK:=[(false,[.nil])]) E L U hle Y Z pZ (OJ _ rfl) h0 nm w bY (one _ (.nil _)) hQ
  |fA _ _ _ A c ho=>exact Iu (tK:=[(false,[.sl t 0 true []])]) E L U hle Y Z pZ (OJ _ rfl) h1 nm w bY (one _ (.fK _ _ _ _ _ ho)) hQ
  |aF _ _ _ qn l b off cap us ho hl DW hB iJ hc mS=>exact Iu (tK:=[(false,[.sl t 0 true []])]) E L U hle Y Z pZ (OJ _ rfl) h1 nm w bY (one _ (.fK _ _ _ _ _ ho)) hQ
end
def Iw(N:Nat)(σ:S)(t:Nat):S:=match σ.t t with
 | .view [q] s 0 j=>bif Nat.blt t N then (match σ.m q with
  |some (.sl (.sl C (o+2) D l))=>bif Nat.beq (full C) 0 then (((σ.drop q).drop t).root t (.sl (.sl C 2 false (l.take j)))).set t (.lf (.own [t]))else σ
  |_=>σ)else σ
 |_=>σ
def vC(N:Nat)(σ:S):aa ResultVar->S
 |[]=>σ
 |.tmp t::r=>vC N (Iw N σ t) r
 |_::r=>vC N σ r
def B9{X:Type}(P:Program)(N:Nat)(Φ:ez)(Λ:nc)(code:Code)(C:Array ResultVar)(D:aa In)(args:aa Ar)(k:aa In->fR->ah X):ah X:=
 lI P N Φ Λ code (Bw D args) λe σ=>match B7 e with
  |some 0=>Hw P (vC N σ C.toList) C D k
  |some 1=>Hw P (vC N σ C.toList) C D k
  |_=>none
section
variable {P:Program} {w w':World} {w0:Wd} {B N:Nat} {aj aA:bG} {ρ ρ':Nat->Loc} {σ:S} {a:Act} {X:Type} {d:Nat} {r:X} {o:Oper} {Φ:ez} {Λ:nc}
def Rl.Iw{t:Nat}(h:Rl w0 N aj ρ σ a w):∃ aA ρ',Rl w0 N aA ρ' (Proofs.YtnilicojgkhpnaaGreat.Iw N σ t) a w:=by
 unfold Proofs.YtnilicojgkhpnaaGreat.Iw;split
 ·rename_i q s j ht;cases hN:Nat.blt t N with
  |false=>exact⟨aj,ρ,h⟩
  | true=>
   have hN:t<N:=by have:=cP hN;omega
   rw[au];split
   ·rename_i E g qn l hm;cases Y:Nat.beq (full E) 0 with
    |false=>exact⟨aj,ρ,h⟩
    | true=>
     have Y:=cE Y;rw[au];have hv:=h.tmp t;rw[ht]at hv;obtain⟨A,n,c,hD,_,hj,hu⟩:=hv;have fW:sliced A 0 j c s = .slice A j c:=by cases A<;>simp[sliced,Addr.add]
     rw[fW]at hu;let D:bG:=λb=>match aj b with
      |some k=>bif cT q k then (bif Nat.beq k.length 1 then some [t]else none)else some k
      |none=>none
     have hrel:Rel q aj D:=⟨h.wT,λb hb=>by simp[D,hb],λb k hb C=>by simp[D,hb,C]⟩
     have h1:=h.rel hrel (λb k C=>by
      simp only[D]at C;cases Z:aj b with
      |none=>rw[Z]at C;cases C
      | some k'=>
       rw[Z]at C;simp only at C;refine⟨⟨_,rfl⟩,?_⟩;cases hq:cT q k' with
       | true=>
        rw[hq,au]at C;cases hlen:Nat.beq k'.length 1 with
        |true=>rw[hlen,au]at C;injection C with C;rw[<- C];simp
        |false=>rw[hlen,aq]at C;cases C
       | false=>
        rw[hq,aq]at C;injection C with C;subst C;exact(h.dg b k' Z).2.2)
     have eG:=h.root q _ hm;generalize O:bg.sl (.sl E (g+2) qn l)=z at eG;cases eG with
     |aC=>cases O
     |mp=>cases O
     |gh=>cases O
     | sl v y cB T=>
      injection O with O;subst O;simp only[c8,cB]at hD;injection hD with hD;subst hD;have hn:n=l.length:=by cases T<;>rfl
      have aq9:RV w w0.heap.size D [t] (.sl E 2 false (l.take j)) (.slice A j c):=by
       cases T with
       | ep=>
        have:j=0:=by simpa using hj
        subst this;exact .ep _ _ _
       |fA _ _ _ _ _ ho=>omega
       |fK _ _ _ _ _ ho=>omega
       |aF _ _ _ _ _ _ _ _ _ ho=>omega
       | own _ _ _ _ _ b cap cs us pL hh hs ve rI hc T=>
        have Z:(l.take j).length=j:=by rw[fJ];omega
        have hle:∀i (hi:i<(l.take j).length),∃rX:i<l.length,(l.take j)[i]=l[i]:=λi hi=>⟨by omega,List.getElem_take⟩
        have:=RV.own (w:=w) (B:=w0.heap.size) (aj:=D) [t] E 0 false (l.take j) b c cs us (by simp[D,pL,cT]) hh hs (by omega) ⟨rI.1,λh=>by cases h⟩ (λi hi k x U=>by
         obtain⟨rX,e⟩:=hle i hi;rw[e,D0 E Y 0]at U;exact hc i rX k x U) (λi hi k x U=>by
         obtain⟨rX,e⟩:=hle i hi;rw[e,D0 E Y 0]at U;exact(T i rX k x U).sU (yL E g _ Y x (gO U)))
        rw[Z]at this;exact this
      have hrm:DX w w D D t:=⟨dM _,λ_ _ _=>rfl,λ_ _=>rfl,h1.wT⟩
      have L:=h1.yU (d:=t) (ρ':=cc ρ t (.dX (.slice A j c))) (x:=.sl (.sl E 2 false (l.take j))) (h.dz t (.inl hN)) ⟨rfl,rfl,rfl,dM _,λ_ _ _=>rfl⟩ hrm (λb k hb C=>by
       have:=(h1.dg b k C).2.1;omega) (λr T=>cM _ _ _ T) (.sl _ _ (cm _ _ _) aq9)
      refine⟨_,_,L.below,L.dg,L.root,λk=>?_,L.size,L.defers,L.fix,L.dz⟩
      show RA w w0.heap.size D _ (cc _ t _ k) _;by_cases C:k=t
      ·subst C;rw[cm,hu];exact⟨rfl,by simp only[c8,cm]⟩
      ·rw[cM _ _ _ C];exact L.tmp k
   ·exact⟨aj,ρ,h⟩
 ·exact⟨aj,ρ,h⟩
def Rl.vC:∀ (l:aa ResultVar) (σ:S) (aj:bG) (ρ:Nat -> Loc),Rl w0 N aj ρ σ a w -> ∃ aA ρ',Rl w0 N aA ρ' (Proofs.YtnilicojgkhpnaaGreat.vC N σ l) a w
 |[],_,aj,ρ,h=>⟨aj,ρ,h⟩
 | .tmp t :: r,_,_,_,h=>by
  obtain⟨C,D,E⟩:=h.Iw;exact Rl.vC r _ C D E
 |.cell _ _::r,_,aj,ρ,h=>Rl.vC r _ aj ρ h
def fnM_core{f:Nat}{fn:Func}{code:Code}{C:aa In}{args:aa Ar}{k:aa In -> fR -> ah X}(hf:P.funcs[f]?=some fn)(U:fn.body=some code)(hN:fn.ntmps=N)(Ix:N <= 20000)(hlen:args.length <= N)
  (ei:fL P Φ) (pZ:pV P N Λ (occs code)) (h:B9 P N Φ Λ code fn.results C args k=some r) (nm:Nat -> Nat) (w:World) (aj:bG) (ρ:Nat -> Loc) (bY:Array Value)
  (hE:oQ w w.heap.size aj ρ 0 C) (kP:∀b k,aj b=some k -> b<w.heap.size/\k≠[]) (gH:bY.size=args.length) (hv:∀i,RA w w.heap.size aj ρ ((Bw C args).t i) (bY.getD i undef)) (Y:Hd w aj):
  Calls P f bY w λe w'=>∃v aA outs D,k outs D=some r/\e = .returned v/\iZ ⟨w,aj,λ_=>none,Y,λ_ _=>rfl⟩ w w'/\(∀b k,aA b=some k -> (w.heap.size <= b \/ aj b≠none)/\b<w'.heap.size/\k≠[])/\pN w' w.heap.size aA nm D v/\qI w w' aA ρ nm 0 D.len C outs:=by
 let W:Wd:=⟨w,aj,λr=>if 20000 <= r/\r<60000 then some (ρ r)else none,Y,λr hr=>bX⟩
 refine calls_of_wp hf U ?_;unfold B9 at h;have hR:R W N (Bw C args) { tmps:=bY++Array.replicate (fn.ntmps-bY.size) undef,defers:=[] } w:=by
  refine⟨aj,ρ,.of (Below.refl w.heap.size w) (dM _),λb k U=>⟨.inr (by rw[show W.L b=aj b from rfl,U];simp),kP b k U⟩,oQ.roots C 0 _ hE (λr x hx=>by cases hx),λj=>?_,by simp[hN];omega,rfl,λr l hr=>?_,λr hr=>?_⟩
  ·by_cases hj:j<bY.size
   ·have e:(bY++Array.replicate (fn.ntmps-bY.size) undef).getD j undef=bY.getD j undef:=by
     rw[iu,Array.getElem?_append_left hj,iu]
    rw[e];exact hv j
   ·have e:(Bw C args).t j = .undef:=by
     simp only[Bw,List.getElem?_eq_none (by omega:args.length <= j)]
    rw[e];trivial
  ·grind
  ·grind
 refine wp_mono (Io (w0:=W) ei code _ _ h pZ _ w hR) λe Z w' E=>?_
 obtain⟨cR,T,Hs,s9,O⟩:=E;have fin:Hw P (Proofs.YtnilicojgkhpnaaGreat.vC N cR fn.results.toList) fn.results C k=some r -> Z.defers=[] /\ ∃ v,(results fn Z.tmps).run P w' = .ok v w' /\ ∃ zM aA outs D,k outs D=some r/\Ending.returned v=Ending.returned zM/\iZ ⟨w,aj,λ_=>none,Y,λ_ _=>rfl⟩ w w'/\(∀ b k,aA b=some k -> (w.heap.size <= b \/ aj b≠none)/\b<w'.heap.size/\k≠[])/\pN w' w.heap.size aA nm D zM/\qI w w' aA ρ nm 0 D.len C outs:=by
  intro ng;obtain⟨outs,D,hko,dD⟩:=aor (w0:=W) rfl (λr h1 h2=>bM ⟨h1,h2⟩) (oQ.Vm C 0 hE) ng;obtain⟨dJ,eU,oP⟩:=Rl.vC _ cR Hs s9 O;obtain⟨v,aA,h1,h2,h3,h4⟩:=dD dJ eU Z w' oP nm;exact⟨O.defers,v,h1,v,aA,outs,D,hko,rfl,⟨O.below.os,O.below.tape,O.below.output,O.below.size,λk T=>O.below.block k T⟩,h2,h3,h4⟩
 split at T
 next E=>have E:=vB E;subst E;exact fin T
 next E=>have E:=vB E;subst E;exact fin T
 ·cases T
end
def qP:(l:aa (Bool×TC×Nat))->aa In->ah (rR l)
 |[],[]=>some ()
 | (true,t,g) :: r,.aC cs :: is=>match dec t g cs,qP r is with
  |some x,some xs=>some (x,xs)
  |_,_=>none
 | (false,t,g) :: r,.sl y :: is=>match (bif Nat.ble 1000000 g then (bif y.jK then none else y.ff t (g+2))else bif y.jK then y.ff t (g+2)else none),qP r is with
  |some x,some xs=>some (x,xs)
  |_,_=>none
 |_,_=>none
def OL:aa In->aa In->aa In->Prop
 |[],[],[]=>True
 |.aC L::C,.aC cs::r,.aC eC::D=>(kO cs eC/\L.map (λv=>(v.plain,v.aF))=eC.map (λv=>(v.plain,v.aF))/\∀x∈eC,x.jK=true)/\OL C r D
 |.sl _::C,.sl y::r,.sl E::D=>(Wk y E/\(y = .nil->E = .nil))/\OL C r D
 |_,_,_=>False
def OM:∀ (ps:aa PK) (C:lZ ps) (is:aa In) (x:rR (fh ps)),qP (fh ps) is=some x -> OL (mW ps C) is (kR (fh ps) x)
 |[],_,[],x,_=>trivial
 |[],_,_::_,x,h=>by simp[qP,fh]at h
 |.v b t::ps,C,is,x,h=>OM ps C.2 is x h
 |.p t g off::ps,C,[],x,h=>by simp[qP,fh]at h
 |.s t g::ps,C,[],x,h=>by simp[qP,fh]at h
 |.p t g off::ps,C,.sl _::_,x,h=>by simp[qP,fh]at h
 |.s t g::ps,C,.aC _::_,x,h=>by simp[qP,fh]at h
 | .p t g off :: ps,C,.aC cs :: is,x,h=>by
  have h:qP ((true,t,g)::fh ps) (.aC cs::is)=some x:=h;unfold qP at h;split at h
  next y ys D L=>injection h with h;subst h;exact⟨⟨lV t g cs y D,ant t g C.1 y,λz O=>Uh t g y z O⟩,OM ps C.2 is ys L⟩
  ·cases h
 | .s t g :: ps,C,.sl y :: is,x,h=>by
  have h:qP ((false,t,g)::fh ps) (.sl y::is)=some x:=h;unfold qP at h;split at h
  ·rename_i z T D L;injection h with h;subst h;refine⟨?_,OM ps C.2 is T L⟩;cases U:Nat.ble 1000000 g with
   | true=>
    cases E:y.jK with
    |true=>simp_all
    | false=>
     have:y = .nil:=by cases y<;>first|rfl|cases E
     subst this;exact⟨.same _,λ_=>rfl⟩
   | false=>
    cases E:y.jK with
    |false=>simp_all
    | true=>
     rw[U,E]at D;exact⟨V.GH D,λe=>by subst e;cases E⟩
  ·cases h
def qI.typed{w w':World}{aA:bG}{ρ:Nat -> Loc}{nm:Nat -> Nat}:∀ (E:aa In) (i Y:Nat) (outs T:aa In),qI w w' aA ρ nm i Y E outs -> OL E outs T -> Hv w w' aA ρ nm i Y E T
 |[],i,Y,[],[],h,C=>trivial
 | .aC cs0 :: E,i,Y,.aC cs1 :: outs,.aC cs2 :: T,h,C=>by
  obtain⟨⟨b,off,cells,xd,e,e',Z,h2,h3,h4,h5,h6,h7⟩,hr⟩:=h;obtain⟨⟨U,Xc,hnn⟩,oK⟩:=C
  refine⟨⟨b,off,cells,xd,e,e',Z,h2,h3,h4,by rw[<- U.1];exact h5,by rw[<- U.1];exact h6,λj x hx=>?_⟩,qI.typed E _ _ outs T hr oK⟩
  have hj:j<cs1.length:=by rw[U.1];exact(dQ.1 hx).1
  obtain⟨u,hu,hc⟩:=h7 j _ (bZ hj);have C:=U.2 j _ x (bZ hj) hx;have Xd:∀ L,cs0[j]?=some L -> L.plain=x.plain/\L.aF=x.aF:=by
   intro L h0;have e1:(cs0.map (λv=>(v.plain,v.aF)))[j]?=(cs2.map (λv=>(v.plain,v.aF)))[j]?:=by rw[Xc]
   grind
  have hxn:=hnn x (gO hx);generalize cs1[j]=y at hc C;refine⟨u,hu,?_⟩;rcases hc with ⟨D,O⟩|⟨D,O,L,c3,c4⟩|⟨D,O,c6,⟨L,c3,c4⟩,c5⟩|⟨D,O⟩
  ·cases C with
   |same=>grind
   |nil t o=>cases D
   |q t o l=>cases D
   |gr=>cases D
  ·subst D O;have hf:x.aF=false:=by rw[<- (Xd L c3).2];exact c4
   cases C with
   |same=>cases hxn
   |nil t o=>exact .inr (.inr ⟨hf,.ep _ _ _⟩)
  ·cases C with
   |same=>grind
   |nil t o=>cases c6
   |q t o l=>exact .inr (.inl ⟨rfl,O,c5⟩)
   |gr t o o' qn l Z h2=>simp[V.aF]at O;omega
  ·have hf:=C.acf D;exact .inr (.inr ⟨hf,O.wk C⟩)
 | .sl y0 :: E,i,Y,.sl y1 :: outs,.sl y2 :: T,h,C=>by
  obtain⟨h,hr⟩:=h;obtain⟨⟨U,hn⟩,oK⟩:=C;exact⟨h.imp hn (λ⟨v,Z,h2⟩=>⟨v,Z,h2.wk U⟩),qI.typed E _ _ outs T hr oK⟩
 |[],_,_,_::_,_,h,_=>h.elim
 |[],_,_,[],_::_,_,h=>h.elim
 |.aC _::_,_,_,[],_,h,_=>h.elim
 |.sl _::_,_,_,[],_,h,_=>h.elim
 |.aC _::_,_,_,.sl _::_,_,h,_=>h.elim
 |.sl _::_,_,_,.aC _::_,_,h,_=>h.elim
 |.aC _::_,_,_,.aC _::_,[],_,h=>h.elim
 |.aC _::_,_,_,.aC _::_,.sl _::_,_,h=>h.elim
 |.sl _::_,_,_,.sl _::_,[],_,h=>h.elim
 |.sl _::_,_,_,.sl _::_,.aC _::_,_,h=>h.elim
def ad7:∀ (l:aa (Bool×TC×Nat)) (ps:aa Pt) (x:iC l),pO l ps=some x -> (ps.map λp=>p.2.length)=((th l x).map λp=>p.2.length)
 |[],[],x,h=>rfl
 | [(b,t,g)],[(D,E)],x,h=>by
  unfold pO at h;cases C:b==D with
  |false=>rw[C]at h;cases h
  | true=>
   rw[C]at h;simp[th,(lV t g E x h).1]
 | (b,t,g) :: q :: r,(D,E) :: ps,x,h=>by
  unfold pO at h;cases C:b==D with
  |false=>simp_all
  | true=>
   rw[C]at h;split at h
   next y ys L O=>injection h with h;subst h;simp only[th,List.map_cons];rw[ad7 _ ps ys O,(lV t g E y L).1]
   ·cases h
def ara{l:aa (Bool×TC×Nat)}{C:fR}{x:iC l}(h:lG l C=some x):C.len=(fm l x).len:=by
 have key:∀ ps,pO l ps=some x -> (ps.map λp=>p.2.length).sum=(fm l x).len:=by
  intro ps h;rw[ad7 l ps x h];unfold fm
  match hm:th l x with
  |[q]=>simp[fR.len]
  |[]=>rfl
  |_::_::_=>rfl
 cases C with
 |one p=>have:=key [p] h;simpa [fR.len]using this
 | eS ps=>
  simp only[lG]at h;cases D:Nat.beq ps.length 1 with
  |true=>simp_all
  |false=>rw[D]at h;exact key ps h
section
variable {P:Program} {w w':World} {w0:Wd} {B N:Nat} {aj aA:bG} {ρ ρ':Nat->Loc} {σ:S} {a:Act} {X:Type} {d:Nat} {r:X} {o:Oper} {Φ:ez} {Λ:nc}
def EC(l ro:aa (Bool×TC×Nat))(outs:aa In)(C:fR):ah (iC ro×rR l):=
 match lG ro C,qP l outs with
 |some x,some y=>some (x,y)
 |_,_=>none
def ON{f:Nat}{fn:Func}{code:Code}{ps:aa PK}{ro:aa (Bool×TC×Nat)}{F:lZ ps->ah (iC ro×rR (fh ps))}(L:P.funcs[f]?=some fn)(O:fn.body=some code)(U:fn.ntmps=N)(Y:(fn.name == "runtime.NumGoroutine")=false)(Z:Nat.ble ps.length N=true)(Ix:Nat.ble N 20000=true)(eG:lJ ro=true)
  (ei:fL P Φ) (pZ:pV P N Λ (occs code)) (hF:∀x,B9 P N Φ Λ code fn.results (mW ps x) (jO ps 0 x) (EC (fh ps) ro)=F x):enters P f/\tj P f ⟨ps,ro,F⟩:=by
 refine⟨⟨fn,L,Y,by rw[O];rfl⟩,λx y h nm w aj ρ bY hE kP D hv hQ=>?_⟩
 have h:F x=some y:=h;rw[<-hF x]at h;have hlen:∀ (ps:aa PK) (i:Nat) (x:lZ ps),(jO ps i x).length=ps.length:=by
  intro ps
  induction ps with
  |nil=>intro i x;rfl
  | cons p ps E=>
   intro i x;cases p with
   |v=>exact aY (· + 1) (E _ _)
   |p=>exact aY (· + 1) (E _ _)
   |s=>exact aY (· + 1) (E _ _)
 have D:bY.size=(jO ps 0 x).length:=by rw[hlen];exact D
 refine(fnM_core L O U (cP Ix) (by rw[hlen];exact cP Z) ei pZ h nm w aj ρ bY hE kP D hv hQ).mono λe w' ta=>?_
 obtain⟨v,aA,outs,res,C,he,kz,hl,lF,VB⟩:=ta;unfold EC at C;split at C
 next y1 y2 T h2=>injection C with C;subst C;refine⟨v,aA,he,kz,hl,ad4 eG T lF,?_⟩;rw[<-ara T];exact qI.typed _ _ _ _ _ VB (OM ps x outs y2 h2)
 ·cases C
end
set_option maxRecDepth 100000
section
variable {P:Program} {w w':World} {w0:Wd} {B N:Nat} {aj aA:bG} {ρ ρ':Nat->Loc} {σ:S} {a:Act} {X:Type} {d:Nat} {r:X} {o:Oper} {Φ:ez} {Λ:nc}
end
def nV(i j:Nat):Nat:=20001+1000*i+j
def ED(i j:Nat)(x:V):Lf:=match x with
 |.sl ..=>.own [nV i j]
 |x=>.v x
def xK(i:Nat):Nat->aa V->aa Lf
 |_,[]=>[]
 |j,x::xs=>ED i j x::xK i (j+1) xs
def Xe(args:aa Pt)(n:Nat):ah bg:=bif Nat.ble 20001 n&&Nat.blt n 60000 then (match args[(n-20001) / 1000]? with
 | some (_,xs)=>(match xs[(n-20001) % 1000]? with
  |some (.sl t g q l)=>some (.sl (.sl t g q l))
  |_=>none)
 |none=>none)else none
def ad8(args:aa Pt):S:=⟨λi=>match args[i]? with
 |some (false,[x])=>.lf (ED i 0 x)
 |some (true,xs)=>.agg (xK i 0 xs)
 |_=>.undef,Xe args⟩
def OO(σ:S)(C:Array ResultVar)(a j:Nat)(t:TC):ah (Nat×Nat):=match C.toList with
 | [.tmp s]=>(match σ.t s with
  |.view [n] D i k=>bif Nat.beq n (nV a j)&&Nat.beq D (aD t)then some (i,k)else none
  |_=>none)
 |_=>none
def ad9(P:Program)(N:Nat)(Φ:ez)(Λ:nc)(code:Code)(C:Array ResultVar)(a j:Nat)(t:TC)(args:aa Pt):ah (Nat×Nat):=
 lI P N Φ Λ code (ad8 args) λe σ=>match B7 e with
  |some 0=>OO σ C a j t
  |some 1=>OO σ C a j t
  |_=>none
def Xf(ai:aa (Bool×TC))(a j:Nat)(t:TC)(F:kC ai->ah (Nat×Nat)):BN:=⟨a,j,t,λargs=>match xJ ai args with
 |some x=>F x
 |none=>none⟩
section
variable {P:Program} {w w':World} {w0:Wd} {B N:Nat} {aj aA:bG} {ρ ρ':Nat->Loc} {σ:S} {a:Act} {X:Type} {d:Nat} {r:X} {o:Oper} {Φ:ez} {Λ:nc}
def aea(i:Nat):∀ (xs:aa V) (C j:Nat),(xK i C xs)[j]?=(xs[j]?).map λx=>ED i (C+j) x
 |[],C,j=>by simp[xK]
 |x::xs,C,0=>by simp[xK]
 | x :: xs,C,j+1=>by
  simp[xK,List.getElem?_cons_succ,aea]
  grind
def aeb(i:Nat):∀ (xs:aa V) (C:Nat),(xK i C xs).length=xs.length
 |[],_=>rfl
 |x::xs,C=>by simp[xK,aeb i xs (C+1)]
def aec{i j:Nat}(h:j<1000):(nV i j-20001) / 1000=i/\(nV i j-20001) % 1000=j:=by
 unfold nV;omega
def zN(bY:Array Value)(n:Nat):Loc:=.dX ((tC bY ((n-20001) / 1000) ((n-20001) % 1000)).getD undef)
def aed{bY:Array Value}{i j:Nat}{x:V}{u:Value}(D:j<1000)(E:tC bY i j=some u)(L:x.aF=true)(C:RV w B (λ_=>none) [] x u):dU w B (λ_=>none) (zN bY) (ED i j x) u:=by
 unfold ED;split
 ·refine⟨C.mP rfl rfl,?_⟩;obtain⟨O,T⟩:=aec (i:=i) D;simp only[c8,zN,O,T,E];rfl
 ·exact⟨L,C⟩
def arb{f:Nat}{fn:Func}{code:Code}{ai:aa (Bool×TC)}{O T:Nat}{t:TC}{F:kC ai -> ah (Nat×Nat)}(hf:P.funcs[f]?=some fn)(hb:fn.body=some code)(hN:fn.ntmps=N)(B8:(fn.name == "runtime.NumGoroutine")=false)(Iv:Nat.ble ai.length N=true)(Ix:Nat.ble N 20000=true)(gH:(ai.all λp=>Nat.blt (aD p.2) 1000&&(p.1 || Nat.beq (aD p.2) 1))=true)(hjj:Nat.blt T 1000=true)(haa:Nat.blt O 30=true)
  (ei:fL P Φ) (pZ:pV P N Λ (occs code)) (hF:∀x,ad9 P N Φ Λ code fn.results O T t (gf ai x)=F x):enters P f/\N4 P f (Xf ai O T t F):=by
 refine⟨⟨fn,hf,B8,by rw[hb];rfl⟩,λargs p h w bY lE hQ=>?_⟩
 simp only[Xf]at h;split at h
 ·rename_i x hx;obtain⟨k1,k2⟩:=W9 ai args x hx;have hlen:∀ (l:aa (Bool×TC)) (x:kC l),(gf l x).length=l.length:=by
   intro l
   induction l with
   |nil=>intro x;rfl
   |cons p l ih=>obtain⟨b,t⟩:=p;intro x;simp[gf,ih]
  have hD:bY.size=ai.length:=by rw[lE.1,<- k1,hlen]
  have hle:bY.size <= N:=by rw[hD];exact cP Iv
  have Ix:=cP Ix;have xz:∀ (l:aa (Bool×TC)) (x:kC l),(l.all λp=>Nat.blt (aD p.2) 1000&&(p.1 || Nat.beq (aD p.2) 1))=true -> ∀ (j:Nat) p,(gf l x)[j]?=some p -> (∀ y∈p.2,y.aF=true)/\p.2.length<1000/\(p.1=true \/ p.2.length=1):=by
   intro l
   induction l with
   |nil=>intro x _ j p U;simp[gf]at U
   | cons c l ih=>
    obtain⟨b,t⟩:=c;intro x hs j p U;rw[List.all_cons,aN]at hs;cases j with
    | zero=>
     simp[gf]at U;subst U
     refine⟨λy C=>?_,?_⟩
     ·obtain⟨i,hi⟩:=List.mem_iff_getElem?.1 C;exact rH t 0 x.1 (by omega) i y hi
     ·show (enc t 0 x.1).length<1000/\(b=true \/ (enc t 0 x.1).length=1);rw[ko];have h8:=hs.1;rw[aN,eD]at h8;have h9:=cP h8.1;exact⟨h9,h8.2.imp id cE⟩
    |succ j=>exact ih x.2 hs.2 j p (by simpa [gf]using U)
  have pK:∀ (i:Nat) (p:Pt),(gf ai x)[i]?=some p -> ∃ u:Value,bY[i]?=some u/\PV w w.heap.size (λ_=>none) (λ_=>[]) p u/\(∀ y∈p.2,y.aF=true)/\p.2.length<1000:=by
   intro i p U;obtain⟨q,hq,D1,Bn⟩:=k2 i p U;obtain⟨u,Y,rS⟩:=lE.2 i q hq;obtain⟨g1,g2,g3⟩:=xz ai x gH i p U;refine⟨u,Y,?_,g1,g2⟩;obtain⟨b,ys⟩:=p;obtain⟨b',xs⟩:=q;simp only at D1;subst D1;have hw:=rS.tw Bn;rcases g3 with g3|g3
   ·simp only at g3;subst g3;exact hw.pvS
   ·obtain⟨y,rfl⟩:=List.length_eq_one_iff.1 g3;cases b' with
    |true=>exact hw.pvS
    |false=>exact hw.pv
  have Xg:∀ (i:Nat) (p:Pt),(gf ai x)[i]?=some p -> ∀ (j:Nat) y,p.2[j]?=some y -> ∃ u,tC bY i j=some u/\RV w w.heap.size (λ_=>none) [] y u/\y.aF=true/\j<1000:=by
   intro i p U j y C;obtain⟨u,Y,⟨us,D,h2,h3⟩,h4,h5⟩:=pK i p U;obtain⟨v,E,L⟩:=h3 j y C;refine⟨v,?_,L,h4 y (gO C),by have:=(dQ.1 C).1;omega⟩;unfold tC;rw[Y];obtain⟨b,ys⟩:=p;cases b with
   | true=>
    have D:u = .agg us:=D;subst D;exact E
   | false=>
    have D:us = #[u]:=D;subst D;have hj:j=0:=by
     have:=(iH.1 E).1
     simpa using this
    subst hj;have:u=v:=by simpa using E
    subst this;have vt:∀ us,u ≠ .agg us:=by
     rintro us rfl;cases L
    cases u<;>first|exact absurd rfl (vt _)|rfl
  let W:Wd:=⟨w,λ_=>none,λr=>if 20000 <= r/\r<60000 then some (zN bY r)else none,hQ,λr L=>bX⟩
  refine calls_of_wp hf hb ?_;rw[<- hF x]at h;unfold ad9 at h;have hR:R W N (ad8 (gf ai x)) { tmps:=bY++Array.replicate (fn.ntmps-bY.size) undef,defers:=[] } w:=by
   refine⟨λ_=>none,zN bY,.of (Below.refl w.heap.size w) (dM _),(λb k hk=>by cases hk),(λn y C=>?_),λi=>?_,by simp[hN];omega,rfl,λr l L=>?_,λr L=>?_⟩
   ·have C:Xe (gf ai x) n=some y:=C;unfold Xe at C;cases hb:(Nat.ble 20001 n&&Nat.blt n 60000)with
    |false=>rw[hb]at C;cases C
    | true=>
     rw[hb,au]at C;split at C
     ·rename_i b xs U;split at C
      next t' g q l hl=>injection C with C;subst C;obtain⟨u,Y,L,va,_⟩:=Xg _ _ U _ _ hl;refine .sl u _ ?_ (L.key va);unfold zN;simp[*]
      ·cases C
     ·cases C
   ·show RA w w.heap.size _ _ (match (gf ai x)[i]? with | some (false,[x])=>A.lf (ED i 0 x) | some (true,xs)=>.agg (xK i 0 xs) | _=>.undef) _;have DP:∀ p:Pt,(gf ai x)[i]?=some p -> ∃ u:Value,bY[i]?=some u/\(bY++Array.replicate (fn.ntmps-bY.size) undef).getD i undef=u:=by
     intro p U;obtain⟨u,Y,_⟩:=pK i p U;have hi:=(iH.1 Y).1;exact⟨u,Y,by rw[iu,Array.getElem?_append_left hi,Y];rfl⟩
    split
    ·rename_i x' lC;obtain⟨u,Y,e⟩:=DP _ lC;rw[e];obtain⟨v,E,L,va,_⟩:=Xg i _ lC 0 x' rfl;have Ht:u=v:=by
      unfold tC at E;rw[Y]at E;obtain⟨u2,qF,⟨us,D,h2,h3⟩,_⟩:=pK i _ lC;rw[Y]at qF;injection qF with qF;subst qF;have D:us = #[u]:=D;subst D;obtain⟨v3,hv3,hr3⟩:=h3 0 x' rfl;have:u=v3:=by simpa using hv3
      subst this;have vt:∀ us,u ≠ .agg us:=by
       rintro us rfl;cases hr3
      cases u<;>first|exact absurd rfl (vt _)|(simp only[show Nat.beq 0 0=true from rfl,au,iw]at E;exact E)
     subst Ht;exact aed (by omega) E va L
    ·rename_i xs lC;obtain⟨u,Y,e⟩:=DP _ lC;rw[e];obtain⟨u2,qF,⟨us,D,h2,h3⟩,_⟩:=pK i _ lC;rw[Y]at qF;injection qF with qF;subst qF;have D:u = .agg us:=D
     refine⟨us,D,by rw[aeb];exact h2,λj y C=>?_⟩
     rw[aea]at C;cases hz:xs[j]? with
     |none=>rw[hz]at C;cases C
     | some z=>
      rw[hz]at C;injection C with C;subst C;obtain⟨v,E,L,va,hj⟩:=Xg i _ lC j z hz;have huj:us[j]?=some v:=by
       unfold tC at E;rw[Y,D]at E;exact E
      refine⟨v,huj,?_⟩;rw[fk];exact aed hj E va L
    ·trivial
   ·have L:(if 20000 <= r/\r<60000 then some (zN bY r)else none)=some l:=L;split at L
    ·injection L
    ·cases L
   ·show (if 20000 <= r/\r<60000 then some (zN bY r)else none)=none;rw[bX]
  refine wp_mono (Io (w0:=W) ei code _ _ h pZ _ w hR) λe a' w' he=>?_
  obtain⟨cR,hk,Hs,s9,dG⟩:=he;have fin:OO cR fn.results O T t=some p -> a'.defers=[] /\ ∃ u,(results fn a'.tmps).run P w' = .ok u w' /\ ∃ A n cap,tC bY O T=some (.slice A n cap)/\p.1 <= p.2/\p.2 <= n/\Ending.returned u = .returned (sliced A p.1 p.2 cap (aD t))/\Below w.heap.size w w':=by
   intro ng;unfold OO at ng;split at ng
   ·rename_i s hs;split at ng
    ·rename_i n sz i k E;cases gK:(Nat.beq n (nV O T)&&Nat.beq sz (aD t))with
     |false=>rw[gK]at ng;cases ng
     | true=>
      rw[gK,au]at ng;injection ng with ng;subst ng;rw[aN]at gK;have hn:=cE gK.1;have arc:=cE gK.2;subst hn arc;have D:=dG.tmp s;rw[E]at D;obtain⟨A,m,c,Z,e2,e3,e4⟩:=D;have hjj:=cP hjj;have vt:20000 <= nV O T:=by unfold nV;omega
      by_cases dA:nV O T<60000
      ·have ard:=dG.fix (nV O T) (zN bY (nV O T)) (bM ⟨vt,dA⟩);have Z:(match s9 (nV O T)with | .dX v=>some v | _=>none)=some (Value.slice A m c):=Z;rw[ard]at Z;obtain⟨d1,d2⟩:=aec (i:=O) (j:=T) (by omega);have Z:some ((tC bY ((nV O T-20001) / 1000) ((nV O T-20001) % 1000)).getD undef)=some (Value.slice A m c):=Z;rw[d1,d2]at Z;injection Z with Z
       refine⟨dG.defers,_,?_,A,m,c,?_,e2,e3,aY Ending.returned e4,⟨dG.below.os,dG.below.tape,dG.below.output,dG.below.size,λk hk=>dG.below.block k hk rfl⟩⟩
       ·have lF:results fn a'.tmps=(do let vs <- fn.results.mapM (td a'.tmps);pure (if h:vs.size=1 then vs[0]else .tuple vs)):=by
         unfold results;congr 1
        have xz:fn.results = #[.tmp s]:=by apply Array.ext';exact hs
        rw[lF,xz];simp[td]
       ·cases hl:tC bY O T with
        |none=>rw[hl]at Z;cases Z
        |some u=>rw[hl]at Z;exact aY some Z
      ·exfalso;have:=cP haa;unfold nV at dA;omega
    ·cases ng
   ·cases ng
  split at hk
  next he=>have he:=vB he;subst he;exact fin hk
  next he=>have he:=vB he;subst he;exact fin hk
  ·cases hk
 ·cases h
end
def Wd.pin(d:Wd)(g:Nat)(l:ah Loc)(D:20000<=g):Wd:=⟨d.w,d.L,λr=>if r=g then l else d.F r,d.held,λr C=>by
 show (if r=g then l else d.F r)=none;rw[bX];exact d.low r C⟩
def Ca(g:Nat):aa (Bool×aa Lf)->A
 |[(false,[x])]=>.lf (x.drop g)
 |[(true,cs)]=>.agg (cs.map (Lf.drop g))
 |[(false,_)]=>.undef
 |ps=>.eS (ps.map λp=>(p.1,p.2.map (Lf.drop g)))
def Cb{X:Type}(P:Program)(g:Nat)(D:Array ResultVar)(C:S)(k:S->A->ah X):ah X:=
 rQ P C D.toList λps=>match C.m g with
  |some (.gh ys)=>k ⟨λj=>((ys.map (A.drop g))[j]?).getD .undef,(C.drop g).m⟩ (Ca g ps)
  |_=>none
def aee(g N:Nat)(σ:S)(xs:aa A):S:=⟨λj=>((xs.map (A.drop g))[j]?).getD .undef,cc (σ.drop g).m g (some (.gh ((List.range N).map λj=>(σ.t j).drop g)))⟩
def noB:nc:=λ_=>none
def Iy{X:Type}(P:Program)(M g:Nat)(Φ:ez)(code:Code)(C:Array ResultVar)(N:Nat)(σ:S)(xs:aa A)(k:S->A->ah X):ah X:=
 bif Nat.ble xs.length M then lI P M Φ noB code (aee g N σ xs) λe D=>match B7 e with
  |some 0=>Cb P g C D k
  |some 1=>Cb P g C D k
  |_=>none
 else none
def aef(P:Program)(M g:Nat)(Φ:ez)(code:Code)(C:Array ResultVar):tD:=⟨λX N σ xs k=>Iy P M g Φ code C N σ xs k⟩
section
variable {P:Program} {w w':World} {w0:Wd} {B M N g:Nat} {aj aA:bG} {ρ ρ':Nat->Loc} {σ:S} {a:Act} {X:Type} {d:Nat} {r:X} {o:Oper} {Φ:ez} {Λ:nc}
def Xh{C:ah Tmp}{D:Bool}:cL λX k=>rY (X:=X) σ C D k:=λX Y k g=>by
 unfold rY
 repeat' first|rfl|refine dj ?_ ?_|split
def arf{ops:Array Oper}{L i:Nat}:cL λX k=>H6 (X:=X) P N Φ ops L i σ o k:=λX Y k g=>by
 unfold H6;split
 ·refine(Wb _ _ _ _).trans (aY _ (funext λv=>?_))
  exact dj (xl _ _ _ _) rfl
 ·exact xl _ _ _ _
 ·rfl
def Xi(D:fL P Φ){ops:Array Oper}:∀ (f L:Nat) (σ:S),cL λX k=>qK (X:=X) P N Φ ops f L σ k
 | 0,L,σ=>λX Y k g=>by
  unfold qK;split<;>rfl
 | f+1,L,σ=>λX Y k g=>by
  have st:∀E o T,cL λX k=>dI (X:=X) P N Φ ops σ o λO=>rY O o.dst T λC=>qK P N Φ ops f E C k:=λE o T=>(adf D).comp λO=>Xh.comp λC=>Xi D f E C
  unfold qK
  repeat' first
   |rfl
   |exact st _ _ _ _ _ _ _
   |exact(arf.comp λO=>Xh.comp λC=>Xi D f _ C) X Y k g
   |split
def arh{t:TypeId}{x lo hi C:A}{X Y:Type}(k:ah X)(g:X->ah Y):(Eo P σ t x lo hi C k).bind g=Eo P σ t x lo hi C (k.bind g):=by
 unfold Eo
 repeat' first
  |rfl
  |refine(xk _ _ _ _ _).trans (aY _ (funext λy=>?_))
  |split
def ari(C:fL P Φ):cL λX k=>HW (X:=X) P N Φ σ o k:=λX Y k g=>by
 unfold HW
 repeat' first
  |exact ac9 C _ _ _ _
  |exact apJ _ _ _ _
  |exact(arh _ _).trans (aY _ (dj rfl rfl))
  |split
def Xj(C:fL P Φ){ops:Array Oper}:∀ (rest:aa Oper) (j:Nat) (σ:S),cL λX k=>BS (X:=X) P N Φ ops j rest σ k
 |[],j,σ=>λ_ _ _ _=>rfl
 | o :: rest,j,σ=>λX Y k g=>by
  unfold BS;split
  ·exact((ari C).comp λD=>Xh.comp λE=>Xj C rest _ E) X Y k g
  ·exact(xl.comp λD=>Xj C rest _ D) X Y k g
  ·rfl
def aeg(E:fL P Φ):∀ (c:Code) (σ:S),En λX k=>lI (X:=X) P N Φ noB c σ k:=by
 intro c
 induction c with
 | region id ops draw=>
  intro σ X Y k g;cases draw with
  |true=>exact dj (Xi E _ _ _ _ _ _ _) rfl
  |false=>exact Xj E _ _ _ _ _ _ _
 | seq x y C D=>
  intro σ X Y k g
  refine(C σ _ _ _ _).trans (aY _ (funext λe=>funext λL=>?_))
  cases e with
  |normal=>exact D L _ _ _ _
  |_=>rfl
 | cond c x y C D=>
  intro σ X Y k g;simp only[lI];split
  ·exact dj (C σ _ _ _ _) (D σ _ _ _ _)
  ·rfl
 | block id c O=>
  intro σ X Y k g
  refine(O σ _ _ _ _).trans (aY _ (funext λe=>funext λL=>?_))
  cases e with
  | exit T=>
   simp only;split<;>rfl
  |_=>rfl
 |_=>intro σ X Y k g;rfl
def OP:∀ (l:aa ResultVar),cL λX k=>rQ (X:=X) P σ l k
 |[]=>λ_ _ _ _=>rfl
 | .tmp t :: rest=>λX Y k g=>by
  simp only[rQ];split
  ·exact OP rest _ _ _ _
  ·rfl
 | .cell c ty :: rest=>λX Y k g=>by
  simp only[rQ]
  refine(acz _ _ _ _).trans (aY _ (funext λy=>?_))
  split
  ·exact OP rest _ _ _ _
  ·rfl
def aeh{C:Array ResultVar}:En λX k=>Cb (X:=X) P g C σ k:=λX Y k f=>by
 unfold Cb
 refine(OP _ _ _ _ _).trans (aY _ (funext λps=>?_))
 split<;>rfl
def arj(C:fL P Φ){code:Code}{D:Array ResultVar}{xs:aa A}:En λX k=>Iy (X:=X) P M g Φ code D N σ xs k:=λX Y k f=>by
 unfold Iy
 refine dj ((aeg C _ _ _ _ _ _).trans (aY _ (funext λe=>funext λE=>?_))) rfl
 split
 ·exact aeh _ _ _ _
 ·exact aeh _ _ _ _
 ·rfl
def ark{D:Array ResultVar}{E:S}{y:A}(h:Cb P g D σ (λσ y=>some (σ,y))=some (E,y)):∃ ys ps,σ.m g=some (.gh ys)/\rQ P σ D.toList some=some ps/\⟨λj=>((ys.map (A.drop g))[j]?).getD .undef,(σ.drop g).m⟩=E/\Ca g ps=y:=by
 unfold Cb at h;obtain⟨ps,C,L⟩:=(OP _).mT h;split at C
 next ys O=>injection C with C;injection C with T U;exact⟨ys,ps,O,L.at_ _,T,U⟩
 ·cases C
def List.aei(xs:aa A)(g j:Nat):((xs.map (A.drop g))[j]?).getD .undef=A.drop g ((xs[j]?).getD .undef):=by
 rw[eH];cases xs[j]?<;>rfl
def RP.Ca{ps:aa (Bool×aa Lf)}{C:aa Value}(O:∀ r,r≠g->ρ' r=ρ r)(E:C.length=ps.length)(h:∀ (i:Nat) p v,ps[i]?=some p->C[i]?=some v->RP w B aj ρ p v):
  RA w B aj ρ' (Ca g ps) (if h:C.toArray.size=1 then C.toArray[0]else .tuple C.toArray):=by
 have eS:ps.length≠1->RA w B aj ρ' (.eS (ps.map λp=>(p.1,p.2.map (Lf.drop g)))) (if h:C.toArray.size=1 then C.toArray[0]else .tuple C.toArray):=by
  intro U;rw[dif_neg (by simpa [E]using U)]
  refine⟨C.toArray,rfl,by simpa using E,λj p D=>?_⟩
  rw[eH]at D;cases L:ps[j]? with
  |none=>rw[L]at D;cases D
  | some q=>
   rw[L]at D;injection D with D;subst D;have T:j<C.length:=by rw[E];exact(dQ.1 L).1
   exact⟨C[j],by simp[T],(h j q C[j] L (bZ T)).eT O⟩
 unfold Proofs.YtnilicojgkhpnaaGreat.Ca;split
 ·rename_i x
  match C,E,h with
  | [v],_,h=>
   have:=h 0 _ v rfl rfl;obtain⟨u,Y,Z⟩:=this.2 0 x rfl;have:v=u:=by simpa using Y
   subst this;exact Z.eT O
 ·rename_i cs
  match C,E,h with
  |[v],_,h=>exact RP.eT O (p:=(true,cs)) (h 0 _ v rfl rfl)
 ·trivial
 ·rename_i h1 h2 h3
  refine eS λe=>?_
  obtain⟨⟨b,cs⟩,rfl⟩:=List.length_eq_one_iff.1 e;cases b with
  |true=>exact h2 cs rfl
  |false=>exact h3 cs rfl
def arl{f:Nat}{fn:Func}{code:Code}(hf:P.funcs[f]?=some fn)(O:fn.body=some code)(hN:fn.ntmps=M)(hM:M<=20000)(B8:(fn.name == "runtime.NumGoroutine")=false)(hg:20000<=g/\g<60000)(ei:fL P Φ):
  enters P f/\kA P f (aef P M g Φ code fn.results):=by
 refine⟨⟨fn,hf,B8,by rw[O];rfl⟩,λN σ xs=>arj ei,λN σ xs τ0 y0 h w0 aj ρ a w bY E gH hv=>?_⟩
 have h:Iy P M g Φ code fn.results N σ xs _=_:=h;unfold Iy at h;cases hl:Nat.ble xs.length M with
 |false=>rw[hl]at h;cases h
 | true=>
  rw[hl,au]at h;have wY:=cP hl;obtain⟨e,τ,h1,h2⟩:=(aeg ei _ _).mT h;have h3:(e = .normal\/e = .ret)/\Cb P g fn.results τ (λσ y=>some (σ,y))=some (τ0,y0):=by
   split at h1
   next Z=>exact⟨.inl (vB Z),h1⟩
   next Z=>exact⟨.inr (vB Z),h1⟩
   ·cases h1
  obtain⟨hex,h3⟩:=h3;obtain⟨ys,ps,hy,qH,rfl,rfl⟩:=ark h3;let us:=a.tmps.toList
  let W:Wd:=w0.pin g (some (.bY us)) hg.1
  let s9:=cc ρ g (.bY us)
  have cB:∀r,r≠g->s9 r=ρ r:=λr hr=>cM _ _ _ hr
  have kr:∀ j,us.getD j undef=a.tmps.getD j undef:=λj=>by
   show a.tmps.toList.getD j undef=_;rw[eY,Array.getElem?_toList,iu]
  have hle:bY.size<=M:=by rw[gH];exact wY
  have vp:Rl W M aj s9 (aee g N σ xs) { tmps:=bY++Array.replicate (fn.ntmps-bY.size) undef,defers:=[] } w:=by
   refine⟨⟨E.below.os,E.below.tape,E.below.output,E.below.size,E.below.block⟩,E.dg,λr x C=>?_,λj=>?_,by simp[hN];omega,rfl,λr l hr=>?_,λr hr=>?_⟩
   ·have C:cc (σ.drop g).m g (some (.gh ((List.range N).map λj=>(σ.t j).drop g))) r=some x:=C;by_cases D:r=g
    ·subst D;rw[cm]at C;injection C with C;subst C
     refine .gh us _ (cm _ _ _) λj x T=>?_
     rw[eH]at T;cases hr:(List.range N)[j]? with
     |none=>rw[hr]at T;cases T
     | some j'=>
      rw[hr]at T;injection T with T;obtain⟨dA,nN⟩:=dQ.1 hr;rw[js]at nN;subst nN T;rw[kr];exact(E.tmp j).eT cB
    ·rw[cM _ _ _ D]at C;have C:(bif Nat.beq r g then none else (σ.m r).map (bg.drop g))=some x:=C;cases O:Nat.beq r g with
     |true=>rw[O]at C;cases C
     | false=>
      rw[O,aq]at C;cases hm:σ.m r with
      |none=>rw[hm]at C;cases C
      | some y=>
       rw[hm]at C;injection C with C;subst C;exact(E.root r y hm).eT cB D
   ·show RA w w0.heap.size aj s9 (((xs.map (A.drop g))[j]?).getD .undef) _;rw[List.aei];by_cases T:j<bY.size
    ·have e1:(bY++Array.replicate (fn.ntmps-bY.size) undef).getD j undef=bY.getD j undef:=by
      rw[iu,Array.getElem?_append_left T,iu]
     show RA w w0.heap.size aj s9 _ ((bY++Array.replicate (fn.ntmps-bY.size) undef).getD j undef);rw[e1];exact(hv j).eT cB
    ·rw[List.getElem?_eq_none (by omega:xs.length<=j)];trivial
   ·have hr:(if r=g then some (Loc.bY us)else w0.F r)=some l:=hr;by_cases D:r=g
    ·rw[bM D]at hr;injection hr with hr;rw[D,<-hr];exact cm _ _ _
    ·rw[bX D]at hr;rw[cB r D];exact E.fix r l hr
   ·show (if r=g then some (Loc.bY us)else w0.F r)=none;rw[bX];rcases hr with hr | hr
    ·exact w0.low r (by omega)
    ·exact E.dz r (.inr hr)
  refine calls_of_wp hf O ?_
  refine wp_mono (Io (w0:=W) ei code _ (λe τ=>some (e,τ)) (h2 _ _) (λp hp b O=>by cases O) _ w ⟨aj,s9,vp⟩) λe' U w' Z=>?_
  obtain⟨cR,oK,aA,ρ',L⟩:=Z;injection oK with oK;injection oK with k1 k2;subst k1 k2;have HG:ρ' g = .bY us:=L.fix g _ (bM rfl);let eU:=cc ρ' g ((w0.F g).getD (.aC 0 0))
  have Ee:∀r,r≠g->eU r=ρ' r:=λr hr=>cM _ _ _ hr
  obtain⟨w8,Xk,jL⟩:=Hu (w0:=W) (N:=M) _ _ qH;injection Xk with Xk;subst Xk;obtain⟨vs,dD,hlen,jM⟩:=jL aA ρ' U w' L;have arn:(fn.results.mapM (td U.tmps)).run P w' = .ok vs.toArray w':=by
   rw[Array.mapM_eq_mapM_toList];simp[dD]
  have lF:results fn U.tmps=(do let vs <-fn.results.mapM (td U.tmps);pure (if h:vs.size=1 then vs[0]else .tuple vs)):=by
   unfold results;congr 1
  have hRf:Rl w0 N aA eU ⟨λj=>((ys.map (A.drop g))[j]?).getD .undef,(cR.drop g).m⟩ a w':=by
   refine⟨⟨L.below.os,L.below.tape,L.below.output,L.below.size,L.below.block⟩,L.dg,λr x C=>?_,λj=>?_,E.size,E.defers,λr l hr=>?_,E.dz⟩
   ·have C:(bif Nat.beq r g then none else (cR.m r).map (bg.drop g))=some x:=C;cases O:Nat.beq r g with
    |true=>rw[O]at C;cases C
    | false=>
     have D:r≠g:=by rintro rfl;simp at O
     rw[O,aq]at C;cases hm:cR.m r with
     |none=>rw[hm]at C;cases C
     | some y=>
      rw[hm]at C;injection C with C;subst C;exact(L.root r y hm).eT Ee D
   ·show RA w' w0.heap.size aA eU (((ys.map (A.drop g))[j]?).getD .undef) _;rw[List.aei];cases hyj:ys[j]? with
    |none=>trivial
    | some y=>
     have eG:=L.root g _ hy;generalize Y:bg.gh ys=z at eG;cases eG with
     |aC=>cases Y
     |sl=>cases Y
     |mp=>cases Y
     | gh Ns xs' xj hx3=>
      injection Y with Y;subst Y;rw[HG]at xj;injection xj with xj;subst xj;have:=hx3 j y hyj;rw[kr]at this;exact this.eT Ee
   ·by_cases D:r=g
    ·subst D;show cc ρ' r ((w0.F r).getD (.aC 0 0)) r=l;rw[cm,hr];rfl
    ·rw[Ee r D];exact L.fix r l ((bX D).trans hr)
  have fin:U.defers=[]/\∃ v,(results fn U.tmps).run P w' = .ok v w'/\∃ zM aA ρ',Ending.returned v=Ending.returned zM/\Rl w0 N aA ρ' ⟨λj=>((ys.map (A.drop g))[j]?).getD .undef,(cR.drop g).m⟩ a w'/\RA w' w0.heap.size aA ρ' (Ca g w8) zM:=
   ⟨L.defers,_,by rw[lF,fV,arn,lS,Sem.run_pure],_,aA,eU,rfl,hRf,RP.Ca Ee hlen jM⟩
  rcases hex with rfl|rfl
  ·exact fin
  ·exact fin
end
def tL:Nat:=1000000000
def stays(n:Nat):Bool:=Nat.ble 20000 (n % tL)
def aro:60000<=tL:=cP rfl
def p6(n:Nat):Nat:=bif stays n then n else n+tL
def zO(n:Nat):ah Nat:=bif stays n then some n else bif Nat.ble tL n && !stays (n-tL)then some (n-tL)else none
def kT:aa Nat->aa Nat
 |[]=>[]
 |[r]=>[p6 r]
 |x::y::k=>x::kT (y::k)
def Lf.up:Lf->Lf
 |.v x=>.v x
 |.own k=>.own (kT k)
 |.dead=>.dead
def A.up:A->A
 |.undef=>.undef
 |.skip=>.skip
 |.lf x=>.lf x.up
 |.agg cs=>.agg (cs.map Lf.up)
 |.eS xs=>.eS (xs.map λp=>(p.1,p.2.map Lf.up))
 |.ptr k=>.ptr (kT k)
 |.aJ r j=>.aJ (p6 r) j
 |.iY cs=>.iY cs
 |.mQ f cs=>.mQ f cs
 |.pk r n=>.pk (p6 r) n
 |.view k s i j=>.view (kT k) s i j
 |.fn f cap=>.fn f (cap.map λp=>(p6 p.1,p.2))
def bg.up:bg->bg
 |.aC cs=>.aC (cs.map Lf.up)
 |.sl y=>.sl y
 |.mp l=>.mp l
 |.gh xs=>.gh (xs.map A.up)
def S.up(σ:S):S:=⟨λk=>(σ.t k).up,λn=>match zO n with
 |some r=>(σ.m r).map bg.up
 |none=>none⟩
def upI(c:tD):tD:=⟨λX N σ xs k=>c.run X N σ.up (xs.map A.up) λC y=>k C.up y.up⟩
section
variable {P:Program} {w w':World} {w0:Wd} {B N:Nat} {aj aA:bG} {ρ ρ':Nat->Loc} {σ:S} {a:Act} {X:Type}
def arp(r:Nat):zO (p6 r)=some r:=by
 unfold zO p6;cases h:stays r with
 |true=>simp_all
 | false=>
  have C:stays (r+tL)=false:=by
   unfold stays at h ⊢;simp_all
  have D:Nat.ble tL (r+tL)=true:=jr (Nat.le_add_left _ _);simp[*]
def arq{n r:Nat}(h:zO n=some r):n=p6 r:=by
 unfold zO at h;cases D:stays n with
 | true=>
  rw[D]at h;injection h with h;subst h;simp[p6,D]
 | false=>
  rw[D,aq]at h;cases C:(Nat.ble tL n && !stays (n-tL))with
  |false=>simp_all
  | true=>
   rw[C]at h;have h:=Option.some.inj h;rw[aN]at C;have L:=cP C.1;have E:stays r=false:=by rw[<- h];simpa using C.2
   simp[p6,E,aq];omega
def mq(aj:bG):bG:=λb=>(aj b).map kT
def vD(ρ:Nat->Loc):Nat->Loc:=λn=>match zO n with
 |some r=>ρ r
 |none=>ρ n
def Cc(r:Nat):vD ρ (p6 r)=ρ r:=by unfold vD;rw[arp]
def ars{k:aa Nat}(h:k≠[]):kT k≠[]:=by
 match k with
 |[r]=>simp[kT]
 |x::y::k=>simp[kT]
def EE{x:Nat}{k:aa Nat}(h:k≠[]):kT (x :: k)=x :: kT k:=by
 match k with
 |[]=>exact absurd rfl h
 |y::k=>rfl
def aej(x y:Nat)(k:aa Nat):∃ C D,kT (x :: y :: k)=x :: C :: D:=by
 match k with
 |[]=>exact⟨_,_,rfl⟩
 |z::k=>exact⟨y,_,rfl⟩
def Xl:∀ (k:aa Nat) (ad:Addr),addrAt w aj ρ k=some ad -> addrAt w (mq aj) (vD ρ) (kT k)=some ad
 |[],_,h=>by simp[addrAt]at h
 | [j,i,s,r],ad,h=>by
  simp only[addrAt]at h;simp only[kT,addrAt,Cc];split at h
  ·rename_i b n c C;split at h
   next D=>rw[bM (by simp[mq,D,kT])];exact h
   ·cases h
  ·cases h
 | j :: i :: s :: x :: y :: q,ad,h=>by
  simp only[addrAt]at h;split at h
  ·rename_i b n c C;split at h
   ·rename_i D;cases E:addrAt w aj ρ (x :: y :: q)with
    |none=>simp_all
    | some O=>
     have L:=Xl (x::y::q) O E;have e:mq aj b=some (kT (x::y::q)):=by simp[mq,D]
     rw[EE (by simp),EE (by simp),EE (by simp)];rw[E]at C;obtain⟨U,Y,T⟩:=aej x y q;rw[T]at L e ⊢;simp only[addrAt,L,C,e,if_true];exact h
   ·cases h
  ·cases h
def aek{k:aa Nat}{u:Value}(h:c8 w aj ρ k=some u):c8 w (mq aj) (vD ρ) (kT k)=some u:=by
 match k with
 | [r]=>
  simp[kT,c8,Cc];exact h
 | x :: y :: k=>
  simp[c8]at h;cases C:addrAt w aj ρ _ with
  |none=>rw[C]at h;cases h
  | some ad=>
   have:=Xl _ _ C;obtain⟨E,L,D⟩:=aej x y k;rw[D]at this ⊢;simp[c8,this];simp_all
def Xm{b:Nat}(h:aj b=none):mq aj b=none:=by simp[mq,h]
def RV.up(E:∀ b k,aj b=some k->k≠[]){k:aa Nat}{x:V}{v:Value}(h:RV w B aj k x v):RV w B (mq aj) (kT k) x v:=
 h.map (Q:=λk C=>C=kT k) (dM _) (λb _ h=>⟨rfl,Xm h⟩) (λb k C _ D e=>by
  subst e;exact⟨rfl,by simp[mq,D],λj i s=>by rw[EE (by simp),EE (by simp),EE (E b k D)]⟩) (.inr rfl)
def dU.up(C:∀ b k,aj b=some k->k≠[]){x:Lf}{u:Value}(h:dU w B aj ρ x u):dU w B (mq aj) (vD ρ) x.up u:=by
 cases x with
 |v x=>exact⟨h.1,RV.up C h.2⟩
 |own k=>exact⟨h.1,aek h.2⟩
 |dead=>trivial
def eF.up(E:∀ b k,aj b=some k -> k≠[]){cs:aa Lf}{us:Array Value}(h:eF w B aj ρ cs us):eF w B (mq aj) (vD ρ) (cs.map Lf.up) us:=by
 refine⟨by rw[eI];exact h.1,λj x C=>?_⟩
 rw[eH]at C;cases D:cs[j]? with
 |none=>simp_all
 | some z=>
  rw[D]at C;injection C with C;subst C;obtain⟨u,L,O⟩:=h.2 j z D;exact⟨u,L,O.up E⟩
def RP.up(C:∀ b k,aj b=some k->k≠[]){p:Bool×aa Lf}{u:Value}(h:RP w B aj ρ p u):RP w B (mq aj) (vD ρ) (p.1,p.2.map Lf.up) u:=by
 obtain⟨b,cs⟩:=p;cases b with
 | true=>
  obtain⟨us,rfl,h⟩:=h;exact⟨us,rfl,eF.up C h⟩
 |false=>exact eF.up C h
def RA.up(L:∀ b k,aj b=some k -> k≠[]){x:A}{u:Value}(h:RA w B aj ρ x u):RA w B (mq aj) (vD ρ) x.up u:=by
 cases x with
 |undef=>trivial
 |skip=>exact h
 |lf x=>exact dU.up L h
 |agg cs=>exact RP.up L (p:=(true,cs)) h
 | eS xs=>
  obtain⟨us,rfl,D,E⟩:=h
  refine⟨us,rfl,by rw[eI];exact D,λj p C=>?_⟩
  rw[eH]at C;cases O:xs[j]? with
  |none=>simp_all
  | some z=>
   rw[O]at C;injection C with C;subst C;obtain⟨v,T,U⟩:=E j z O;exact⟨v,T,U.up L⟩
 | ptr k=>
  obtain⟨ad,rfl,h⟩:=h;exact⟨ad,rfl,Xl _ _ h⟩
 | aJ r j=>
  obtain⟨b,off,D,E⟩:=h;exact⟨b,off,(Cc r).trans D,E⟩
 | iY cs=>
  obtain⟨b,off,Y,Z,g3,g4⟩:=h
  refine⟨b,off,Y,Z,Xm g3,λj x hx=>?_⟩
  obtain⟨f1,v,f2,f3⟩:=g4 j x hx;exact⟨f1,v,f2,RV.up L f3⟩
 | mQ f cs=>
  obtain⟨pv,e0,h⟩:=h;refine⟨pv,e0,?_⟩;obtain⟨b,off,Y,Z,g3,g4⟩:=h
  refine⟨b,off,Y,Z,Xm g3,λj x hx=>?_⟩
  obtain⟨f1,v,f2,f3⟩:=g4 j x hx;exact⟨f1,v,f2,RV.up L f3⟩
 | pk r n=>
  obtain⟨b,D,E⟩:=h;exact⟨b,(Cc r).trans D,E⟩
 | view k s i j=>
  obtain⟨A,n,c,D,E⟩:=h;exact⟨A,n,c,aek D,E⟩
 | fn f cap=>
  obtain⟨vs,rfl,D,E⟩:=h
  refine⟨vs,rfl,by rw[eI];exact D,λj p C=>?_⟩
  rw[eH]at C;cases O:cap[j]? with
  |none=>simp_all
  | some z=>
   rw[O]at C;injection C with C;subst C;obtain⟨b,off,T,U⟩:=E j z O;exact⟨b,off,(Cc _).trans T,U⟩
def dY.up(U:∀ b k,aj b=some k -> k≠[]){r:Nat}{x:bg}(h:dY w B aj ρ r x):dY w B (mq aj) (vD ρ) (p6 r) x.up:=by
 have T:=Cc (ρ:=ρ) r;have Z:∀{b},aj b=some [r] -> mq aj b=some [p6 r]:=λh=>by simp[mq,h,kT]
 cases h with
 | aC b off cells e cs us C L Y hs hc=>
  refine .aC b off cells e _ us (T.trans C) (Z L) Y (by rw[eI];exact hs) λj x D=>?_
  rw[eH]at D;cases E:cs[j]? with
  |none=>simp_all
  | some z=>
   rw[E]at D;injection D with D;subst D;exact⟨(hc j z E).1,(hc j z E).2.up U⟩
 |sl v y C L=>exact .sl v y (T.trans C) (RV.up U L)
 |mp b c es l C L Y he=>exact .mp b c es l (T.trans C) (Z L) Y he
 | gh us xs C D=>
  refine .gh us _ (T.trans C) λj x O=>?_
  rw[eH]at O;cases E:xs[j]? with
  |none=>simp_all
  | some z=>
   rw[E]at O;injection O with O;subst O;exact RA.up U (D j z E)
def Rl.up(h:Rl w0 N aj ρ σ a w):Rl w0 N (mq aj) (vD ρ) σ.up a w:=by
 have T:=λb k D=>(h.dg b k D).2.2
 refine⟨h.below,λb k D=>?_,λn x C=>?_,λk=>RA.up T (h.tmp k),h.size,h.defers,λr l E=>?_,h.dz⟩
 ·unfold mq at D;cases U:aj b with
  |none=>simp_all
  | some q=>
   rw[U]at D;injection D with D;obtain⟨L,O,Z⟩:=h.dg b q U;exact⟨L,O,by rw[<- D];exact ars Z⟩
 ·have C:(match zO n with | some r=>(σ.m r).map _ | none=>none)=some x:=C;cases Y:zO n with
  |none=>simp_all
  | some r=>
   rw[Y]at C;have C:(σ.m r).map _=some x:=C;cases hm:σ.m r with
   |none=>simp_all
   | some y=>
    rw[hm]at C;injection C with C;subst C;rw[arq Y];exact(h.root r y hm).up T
 ·have hs:stays r=true:=by
   have L:20000 <= r:=Nat.le_of_not_lt λdA=>by rw[w0.low r dA]at E;cases E
   have O:r<60000:=Nat.lt_of_not_le λhle=>by rw[h.dz r (.inr hle)]at E;cases E
   unfold stays;rw[Nat.mod_eq_of_lt (Nat.lt_of_lt_of_le O aro)];exact jr L
  have hu:p6 r=r:=by simp[p6,hs]
  have:=Cc (ρ:=ρ) r;rw[hu]at this;rw[this];exact h.fix r l E
def art{f:Nat}{c:tD}(h:kA P f c):kA P f (upI c):=by
 refine⟨λN σ xs X Y k g=>h.1 N σ.up (xs.map A.up) X Y _ g,λN σ xs τ z O w0 aj ρ a w bY E T U=>?_⟩
 obtain⟨Z,y,C,h2⟩:=(h.1 N σ.up (xs.map A.up)).mT O;injection C with C;injection C with h4 h5;subst h4 h5;have h3:=h.2 N σ.up (xs.map A.up) Z y (h2 _ _);have dc:∀b k,aj b=some k->k≠[]:=λb k D=>(E.dg b k D).2.2
 refine(h3 w0 _ _ a w bY E.up (by rw[eI];exact T) λi=>?_).mono λe w' hp=>?_
 ·rw[eH];have:=U i;cases hx:xs[i]? with
  |none=>trivial
  | some x=>
   rw[hx]at this;exact RA.up dc this
 ·obtain⟨v,aA,ρ',he,L,hy⟩:=hp;exact⟨v,_,_,he,L.up,RA.up (λb k D=>(L.dg b k D).2.2) hy⟩
end
def aR:Nat:=4611686018427387904
def qQ(c:Code)(id:Nat):Code:=match (occs c).lookup id with
 |some (.loop b)=>b
 |_=>.skip
def aS(fn:Func):Code:=fn.body.getD .skip
def mw(l:aa (Nat×pU)):ez:=λf=>l.lookup f
def Cd(P:Program):aa (Nat×pU)->Prop
 |[]=>True
 |(f,c)::l=>(enters P f/\VV P f c)/\Cd P l
def vE{P:Program}:∀ (l:aa (Nat×pU)),Cd P l -> fL P (mw l)
 |[],_=>λf c h=>by cases h
 | (E,L) :: l,⟨O,D⟩=>λf c h=>by
  have C:List.lookup f _=some c:=h;rw[List.lookup_cons]at C;split at C
  ·simp_all
  ·exact vE l D f c C
def jR(l:aa (Nat×sg)):nc:=λid=>l.lookup id
def Xn(P:Program)(N:Nat)(code:Code):aa (Nat×sg)->Prop
 |[]=>True
 |(id,b)::l=>(∃c,(occs code).lookup id=some c/\BX P N (.block id c) b)/\Xn P N code l
def ids(l:aa (Nat×Code)):Bool:=(l.map (·.1)).all λi=>Nat.beq ((l.filter λp=>Nat.beq p.1 i).length) 1
def ael:∀ (l:aa (Nat×Code)) (p:Nat×Code),(∀ q∈l,q.1=p.1 -> q=p) -> p∈l -> l.lookup p.1=some p.2
 |[],p,_,h=>by cases h
 | q :: l,p,C,h=>by
  rw[List.lookup_cons];by_cases D:p.1=q.1
  ·simp_all
  ·have E:(p.1==q.1)=false:=by simpa using D
   rw[E];rcases gX.1 h with rfl|h
   ·simp_all
   ·exact ael l p (λq L=>C q (.tail _ L)) h
def aru{l:aa (Nat×Code)}(h:ids l=true){p q:Nat×Code}(D:p∈l)(E:q∈l)(L:q.1=p.1):q=p:=by
 have C:=cw.1 h p.1 (List.mem_map_of_mem D);have C:=cE C;have O:p∈l.filter λr=>Nat.beq r.1 p.1:=List.mem_filter.2 ⟨D,by simp⟩
 have T:q∈l.filter λr=>Nat.beq r.1 p.1:=List.mem_filter.2 ⟨E,by simp[L]⟩
 obtain⟨z,U⟩:=List.length_eq_one_iff.1 C
 grind
def aem{P:Program}{N:Nat}{code:Code}(hi:ids (occs code)=true):∀ (l:aa (Nat×sg)),Xn P N code l -> pV P N (jR l) (occs code)
 |[],_=>λp D b h=>by cases h
 | (id,T) :: l,⟨⟨c,U,Y⟩,L⟩=>λp D b h=>by
  have C:List.lookup p.1 _=some b:=h;rw[List.lookup_cons]at C;split at C
  ·rename_i E;have E:p.1=id:=by simpa using E
   injection C with C;subst C;have:=ael _ p (λq O e=>aru hi D O e) D;simp_all
  ·exact aem hi l L p D b C
def qR{P:Program}{N:Nat}{l:aa (Nat×Code)}:pV P N (jR []) l:=λp C b h=>by cases h
def ci(P:Program)(fn:Func)(C:Nat)(l:aa (Nat×pU)):tD:=aef P fn.ntmps (59000+C) (mw l) (aS fn) fn.results
def qS{P:Program}{f:Nat}{fn:Func}(C:Nat)(l:aa (Nat×pU))(D:P.funcs[f]?=some fn)(E:Cd P l)(L:fn.body=some (aS fn):=by kernel_rfl)(O:Nat.ble fn.ntmps 20000=true:=by kernel_rfl)(T:Nat.ble C 900=true:=by kernel_rfl)(U:(fn.name == "runtime.NumGoroutine")=false:=by kernel_rfl):enters P f/\kA P f (ci P fn C l):=
 arl D L rfl (cP O) U ⟨by omega,by have:=cP T;omega⟩ (vE l E)
def cj(P:Program)(fn:Func)(C:Nat)(l:aa (Nat×pU)):tD:=upI (ci P fn C l)
def sq{P:Program}{f:Nat}{fn:Func}{C:Nat}{l:aa (Nat×pU)}(h:enters P f/\kA P f (ci P fn C l)):enters P f/\kA P f (cj P fn C l):=⟨h.1,art h.2⟩
def OQ{P:Program}{f:Nat}{fn:Func}{ai:aa (Bool×TC)}{ro:aa (Bool×TC×Nat)}{F:kC ai->ah (iC ro)}(N:Nat)(l:aa (Nat×pU))(b:aa (Nat×sg))(C:P.funcs[f]?=some fn)(D:Cd P l)(E:pV P N (jR b) (occs (aS fn)))(L:∀x,pY P N (mw l) (jR b) (aS fn) fn.results (gf ai x) (lG ro)=F x)(O:fn.body=some (aS fn):=by kernel_rfl)(T:fn.ntmps=N:=by kernel_rfl)(U:(fn.name == "runtime.NumGoroutine")=false:=by kernel_rfl)(Y:Nat.ble ai.length N=true:=by kernel_rfl)(Z:lJ ro=true:=by kernel_rfl):enters P f/\ij P f (gR ai ro F):=aq7 C O T U Y Z (vE l D) E L
def Ce{P:Program}{f:Nat}{fn:Func}{t:TC}{g:Nat}{F:aa (T t)->ah (aa (T t))}(N:Nat)(l:aa (Nat×pU))(b:aa (Nat×sg))(C:P.funcs[f]?=some fn)(D:Cd P l)(E:pV P N (jR b) (occs (aS fn)))(L:∀ x:aa (T t),pY P N (mw l) (jR b) (aS fn) fn.results [(false,[.sl t 0 false x])] (lG [(false,.sl t,g)])=F x)
  (O:pY P N (mw l) (jR b) (aS fn) fn.results [(false,[.nil])] (lG [(false,.sl t,g)])=some ([]:aa (T t)):=by kernel_rfl) (U:pY P N (mw l) (jR b) (aS fn) fn.results [(false,[.sl t 0 true []])] (lG [(false,.sl t,g)])=some ([]:aa (T t)):=by kernel_rfl)
  (Y:fn.body=some (aS fn):=by kernel_rfl) (Z:fn.ntmps=N:=by kernel_rfl) (B8:(fn.name == "runtime.NumGoroutine")=false:=by kernel_rfl) (Iv:Nat.ble 1 N=true:=by kernel_rfl) (eG:lJ [(false,.sl t,g)]=true:=by kernel_rfl):enters P f/\ij P f (gR [(false,.sl t)] [(false,.sl t,g)] λx=>bif jt x.1 then some ([]:aa (T t))else F x.1):=aq8 C Y Z B8 Iv eG (vE l D) E L O U
def jb{α β:Type}(a:α)(f:α->β):β:=f a
def aen{P:Program}{id:Nat}{body:Code}{C:bL}{D:aa (Nat×bL)}{F:C.St->ah (C.St⊕tJ D)}{fuel:C.St->Nat}(N:Nat)(l:aa (Nat×pU))(b:aa (Nat×sg))(E:Cd P l)(L:pV P N (jR b) (occs body))(O:∀x,EB P N (mw l) (jR b) body C D x=F x):BX P N (.block id (.loop body)) (OI id C D F fuel):=aq3 (vE l E) L O
abbrev W6 (x:Int):Int:=IntKind.i64.wrap x
/-! Words for what printed functions say often. -/
def xI{α β:Type}(l:aa α)(i:Int)(k:α->ah β):ah β:=if h:0<=i/\i.toNat<l.length then (let e:=l[i.toNat]'h.2;k e)else none
def xC{α β:Type}(l:aa α)(i:Int)(k:ah β):ah β:=if h:0<=i/\i.toNat<l.length then k else none
def xM{α β:Type}(l:aa α)(i:Int)(k:α->ah β):ah β:=if h:i.toNat<l.length then (let e:=l[i.toNat]'h;k e)else none
def xL{α β:Type}(l:aa α)(i:Int)(k:α->ah β):ah β:=if h:0<=i/\i.toNat<l.length then (if h:i.toNat<l.length then (let e:=l[i.toNat]'h;k e)else none)else none
def xZ{α:Type}(l:aa α):Bool:=bP (([]:aa α).length+l.length)
def xA{α:Type}(l:aa α):aa α:=([]:aa α)++l
def bh{S A C:Type}(L:S->ah (S⊕(A⊕Empty)))(s:S)(f:A->ah C):ah C:=(iter L aR s).bind (Sum.elim f (λz=>nomatch z))
def bE{S A B C:Type}(L:S->ah (S⊕(A⊕(B⊕Empty))))(s:S)(f:A->ah C)(g:B->ah C):ah C:=(iter L aR s).bind (Sum.elim f (Sum.elim g (λz=>nomatch z)))
def xG{S E:Type}(s:S):ah (S⊕E):=some (.inl s)
def av{S A E:Type}(v:A):ah (S⊕(A⊕E)):=some (.inr (.inl v))
def aQ{S A B E:Type}(v:B):ah (S⊕(A⊕(B⊕E))):=some (.inr (.inr (.inl v)))
abbrev tI:Tm:=.lf (.int .i64)
abbrev tB:Tm:=.lf (.bool)
structure KC (P:Program) where
 f:Nat
 c:pU
 ok:enters P f/\VV P f c
def KL{P:Program}(l:aa (KC P)):aa (Nat×pU):=l.map λk=>(k.f,k.c)
def tM{P:Program}:∀ l:aa (KC P),Cd P (KL l)
 |[]=>trivial
 |k::l=>⟨k.ok,tM l⟩
structure BK (P:Program) (N:Nat) (code:Code) where
 id:Nat
 b:sg
 ok:BX P N (.block id (.loop (qQ code id))) b
section
variable {P:Program} {f N:Nat} {fn:Func} {code:Code}
def BL(l:aa (BK P N code)):aa (Nat×sg):=l.map λk=>(k.id,k.b)
def BC(l:aa (BK P N code)):aa (ah Code):=l.map λk=>(occs code).lookup k.id
def BD(l:aa (BK P N code)):aa (ah Code):=l.map λk=>some (.loop (qQ code k.id))
def aeo:∀ l:aa (BK P N code),BC l=BD l -> Xn P N code (BL l)
 |[],_=>trivial
 | k :: l,h=>by
  unfold BC BD at h;injection h with C D;exact⟨⟨_,C,k.ok⟩,aeo l D⟩
def BT(l:aa (BK P N code))(C:BC l=BD l)(hi:ids (occs code)=true):pV P N (jR (BL l)) (occs code):=aem hi _ (aeo l C)
def lB(id:Nat)(C:bL)(D:aa (Nat×bL))(F:C.St->ah (C.St⊕tJ D)):sg:=OI id C D F λ_=>aR
def lp{body:Code}{id:Nat}{C:bL}{D:aa (Nat×bL)}{F:C.St->ah (C.St⊕tJ D)}(l:aa (KC P))(E:∀x,EB P N (mw (KL l)) (jR []) body C D x=F x:=by intro x;kernel_rfl):BX P N (.block id (.loop body)) (lB id C D F):=aen N (KL l) [] (tM l) qR E
def lq{id:Nat}{C:bL}{D:aa (Nat×bL)}{F:C.St->ah (C.St⊕tJ D)}(l:aa (KC P))(b:aa (BK P N code))(E:BC b=BD b:=by kernel_rfl)(hi:ids (occs code)=true:=by kernel_rfl)(L:∀x,EB P N (mw (KL l)) (jR (BL b)) code C D x=F x:=by intro x;kernel_rfl):BX P N (.block id (.loop code)) (lB id C D F):=aen N (KL l) (BL b) (tM l) (BT b E hi) L
def kp{ai:aa (Bool×TC)}{ro:aa (Bool×TC×Nat)}{F:kC ai->ah (iC ro)}(N:Nat)(l:aa (KC P))(C:P.funcs[f]?=some fn)(D:∀x,pY P N (mw (KL l)) (jR []) (aS fn) fn.results (gf ai x) (lG ro)=F x:=by intro x;kernel_rfl)(E:fn.body=some (aS fn):=by kernel_rfl)(L:fn.ntmps=N:=by kernel_rfl)(O:(fn.name == "runtime.NumGoroutine")=false:=by kernel_rfl)(T:Nat.ble ai.length N=true:=by kernel_rfl)(U:lJ ro=true:=by kernel_rfl):enters P f/\ij P f (gR ai ro F):=OQ N (KL l) [] C (tM l) qR D E L O T U
def kq{ai:aa (Bool×TC)}{ro:aa (Bool×TC×Nat)}{F:kC ai->ah (iC ro)}(N:Nat)(l:aa (KC P))(b:aa (BK P N (aS fn)))(C:P.funcs[f]?=some fn)(D:BC b=BD b:=by kernel_rfl)(hi:ids (occs (aS fn))=true:=by kernel_rfl)(E:∀x,pY P N (mw (KL l)) (jR (BL b)) (aS fn) fn.results (gf ai x) (lG ro)=F x:=by intro x;kernel_rfl)(L:fn.body=some (aS fn):=by kernel_rfl)(O:fn.ntmps=N:=by kernel_rfl)(T:(fn.name == "runtime.NumGoroutine")=false:=by kernel_rfl)(U:Nat.ble ai.length N=true:=by kernel_rfl)(Y:lJ ro=true:=by kernel_rfl):enters P f/\ij P f (gR ai ro F):=OQ N (KL l) (BL b) C (tM l) (BT b D hi) E L O T U Y
def km{ps:aa PK}{ro:aa (Bool×TC×Nat)}{F:lZ ps->ah (iC ro×rR (fh ps))}(N:Nat)(l:aa (KC P))(C:P.funcs[f]?=some fn)(D:∀x,B9 P N (mw (KL l)) (jR []) (aS fn) fn.results (mW ps x) (jO ps 0 x) (EC (fh ps) ro)=F x:=by intro x;kernel_rfl)(E:fn.body=some (aS fn):=by kernel_rfl)(L:fn.ntmps=N:=by kernel_rfl)(O:(fn.name == "runtime.NumGoroutine")=false:=by kernel_rfl)(T:Nat.ble ps.length N=true:=by kernel_rfl)(U:Nat.ble N 20000=true:=by kernel_rfl)(Y:lJ ro=true:=by kernel_rfl):enters P f/\tj P f ⟨ps,ro,F⟩:=ON C E L O T U Y (vE _ (tM l)) qR D
def kn{ps:aa PK}{ro:aa (Bool×TC×Nat)}{F:lZ ps->ah (iC ro×rR (fh ps))}(N:Nat)(l:aa (KC P))(b:aa (BK P N (aS fn)))(C:P.funcs[f]?=some fn)(D:BC b=BD b:=by kernel_rfl)(hi:ids (occs (aS fn))=true:=by kernel_rfl)(E:∀x,B9 P N (mw (KL l)) (jR (BL b)) (aS fn) fn.results (mW ps x) (jO ps 0 x) (EC (fh ps) ro)=F x:=by intro x;kernel_rfl)(L:fn.body=some (aS fn):=by kernel_rfl)(O:fn.ntmps=N:=by kernel_rfl)(T:(fn.name == "runtime.NumGoroutine")=false:=by kernel_rfl)(U:Nat.ble ps.length N=true:=by kernel_rfl)(Y:Nat.ble N 20000=true:=by kernel_rfl)(Z:lJ ro=true:=by kernel_rfl):enters P f/\tj P f ⟨ps,ro,F⟩:=ON C L O T U Y Z (vE _ (tM l)) (BT b D hi) E
def aM(ai:aa (Bool×TC))(ro:aa (Bool×TC×Nat))(F:kC ai->ah (iC ro))(N:Nat)(l:aa (KC P))(C:P.funcs[f]?=some fn)(D:∀x,pY P N (mw (KL l)) (jR []) (aS fn) fn.results (gf ai x) (lG ro)=F x:=by intro x;kernel_rfl)(E:fn.body=some (aS fn):=by kernel_rfl)(L:fn.ntmps=N:=by kernel_rfl)(O:(fn.name == "runtime.NumGoroutine")=false:=by kernel_rfl)(T:Nat.ble ai.length N=true:=by kernel_rfl)(U:lJ ro=true:=by kernel_rfl):KC P:=⟨f,.p (gR ai ro F),OQ N (KL l) [] C (tM l) qR D E L O T U⟩
def bT(ai:aa (Bool×TC))(ro:aa (Bool×TC×Nat))(F:kC ai->ah (iC ro))(N:Nat)(l:aa (KC P))(b:aa (BK P N (aS fn)))(C:P.funcs[f]?=some fn)(D:BC b=BD b:=by kernel_rfl)(hi:ids (occs (aS fn))=true:=by kernel_rfl)(E:∀x,pY P N (mw (KL l)) (jR (BL b)) (aS fn) fn.results (gf ai x) (lG ro)=F x:=by intro x;kernel_rfl)(L:fn.body=some (aS fn):=by kernel_rfl)(O:fn.ntmps=N:=by kernel_rfl)(T:(fn.name == "runtime.NumGoroutine")=false:=by kernel_rfl)(U:Nat.ble ai.length N=true:=by kernel_rfl)(Y:lJ ro=true:=by kernel_rfl):KC P:=⟨f,.p (gR ai ro F),OQ N (KL l) (BL b) C (tM l) (BT b D hi) E L O T U Y⟩
def xN(ps:aa PK)(ro:aa (Bool×TC×Nat))(F:lZ ps->ah (iC ro×rR (fh ps)))(N:Nat)(l:aa (KC P))(C:P.funcs[f]?=some fn)(D:∀x,B9 P N (mw (KL l)) (jR []) (aS fn) fn.results (mW ps x) (jO ps 0 x) (EC (fh ps) ro)=F x:=by intro x;kernel_rfl)(E:fn.body=some (aS fn):=by kernel_rfl)(L:fn.ntmps=N:=by kernel_rfl)(O:(fn.name == "runtime.NumGoroutine")=false:=by kernel_rfl)(T:Nat.ble ps.length N=true:=by kernel_rfl)(U:Nat.ble N 20000=true:=by kernel_rfl)(Y:lJ ro=true:=by kernel_rfl):KC P:=⟨f,.m ⟨ps,ro,F⟩,ON C E L O T U Y (vE _ (tM l)) qR D⟩
def jS(ps:aa PK)(ro:aa (Bool×TC×Nat))(F:lZ ps->ah (iC ro×rR (fh ps)))(N:Nat)(l:aa (KC P))(b:aa (BK P N (aS fn)))(C:P.funcs[f]?=some fn)(D:BC b=BD b:=by kernel_rfl)(hi:ids (occs (aS fn))=true:=by kernel_rfl)(E:∀x,B9 P N (mw (KL l)) (jR (BL b)) (aS fn) fn.results (mW ps x) (jO ps 0 x) (EC (fh ps) ro)=F x:=by intro x;kernel_rfl)(L:fn.body=some (aS fn):=by kernel_rfl)(O:fn.ntmps=N:=by kernel_rfl)(T:(fn.name == "runtime.NumGoroutine")=false:=by kernel_rfl)(U:Nat.ble ps.length N=true:=by kernel_rfl)(Y:Nat.ble N 20000=true:=by kernel_rfl)(Z:lJ ro=true:=by kernel_rfl):KC P:=⟨f,.m ⟨ps,ro,F⟩,ON C L O T U Y Z (vE _ (tM l)) (BT b D hi) E⟩
def bF{A Z R:Type}(F:A->R)(x:A×Z):R:=F x.1
def br{A B Z R:Type}(F:A->B->R)(x:A×B×Z):R:=F x.1 x.2.1
def fS{A B C Z R:Type}(F:A->B->C->R)(x:A×B×C×Z):R:=F x.1 x.2.1 x.2.2.1
def sr{A B C D Z R:Type}(F:A->B->C->D->R)(x:A×B×C×D×Z):R:=F x.1 x.2.1 x.2.2.1 x.2.2.2.1
def EF{A B C D E Z R:Type}(F:A->B->C->D->E->R)(x:A×B×C×D×E×Z):R:=F x.1 x.2.1 x.2.2.1 x.2.2.2.1 x.2.2.2.2.1
end
end Go.Proofs.YtnilicojgkhpnaaGreat
