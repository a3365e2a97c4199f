/-
  Running the program over pure contents, and that it follows (part Z). Nothing here is a claim.
-/
import Derived.Test.YtnilicojgkhpnaaGreatV4
set_option linter.unusedSimpArgs false
namespace Go.Proofs.YtnilicojgkhpnaaGreat
set_option linter.defProp false
open Go.RowKit
set_option linter.unusedVariables false
section
variable {P:Program} {w w':World} {w0:Wd} {B N:Nat} {aj aA:bG} {ρ ρ':Nat->Loc} {σ:S} {a:Act} {X:Type} {d:Nat} {r:X} {o:Oper} {Φ:ez} {Λ:nc}
def aqU{L:ah Tmp}{g:Bool}{k:S -> ah X}(h:sg σ L g k=some r):∃ D,k D=some r /\ ∀ a w,R w0 N σ a w -> R w0 N D a w:=by
 unfold sg at h;cases g with
 |false=>grind
 | true=>
  rw[au]at h;split at h
  ·rename_i d;split at h
   ·rename_i b O;have key:∀ c:Bool,b=c -> ∀ a w,R w0 N σ a w -> R w0 N (σ.set d (.lf (.v (.bool c)))) a w:=by
     rintro c rfl a w ⟨aj,ρ,C⟩
     refine⟨aj,ρ,C.below,C.dg,C.root,λk=>?_,C.size,C.defers,C.fix,C.dz⟩
     show RA w w0.heap.size aj ρ (cc σ.t d (.lf (.v (.bool b))) k) _;by_cases E:k=d
     ·subst E;rw[cm,<- O];exact C.tmp k
     ·rw[cM _ _ _ E];exact C.tmp k
    grind
   ·grind
  ·grind
def Ov(Y:fL P Φ)(ops:Array Oper):∀ (rest:aa Oper) (j:Nat) (σ:S) (k:S -> ah X),BP P N Φ ops j rest σ k=some r -> ∃ cS,k cS=some r /\ ∀ a w,R w0 N σ a w -> ∀ Q,(∀ L w',R w0 N cS L w' -> Q Exit.normal L w') -> wpList P ops Q rest a w
 |[],j,σ,k,h=>⟨σ,h,λa w D Q E=>E a w D⟩
 | o :: rest,j,σ,k,h=>by
  unfold BP at h;split at h
  ·rename_i Z;obtain⟨pT,h1,vB⟩:=apV Y h;obtain⟨σ2,h2,uZ⟩:=aqU h1;obtain⟨O,T,U⟩:=Ov Y ops rest (j+1) σ2 k h2
   refine⟨O,T,λa w D Q E=>?_⟩
   obtain⟨aj,ρ,C⟩:=D;simp only[wpList,Ev Z C,if_true];exact .inl (vB a w _ Q ⟨aj,ρ,C⟩ λL w' vr=>U L w' (uZ L w' vr) Q E)
  ·rename_i Z;unfold gX at h;split at h
   ·rename_i hd;obtain⟨O,T,U⟩:=Ov Y ops rest _ σ k h
    refine⟨O,T,λa w D Q E=>?_⟩
    obtain⟨aj,ρ,C⟩:=D;simp[wpList,Ev Z C,hd];exact U a w ⟨aj,ρ,C⟩ Q E
   ·rename_i d hd;cases hN:Nat.blt d N with
    |false=>simp_all
    | true=>
     rw[hN,au]at h;obtain⟨O,T,U⟩:=Ov Y ops rest (j+1) _ k h
     refine⟨O,T,λa w D Q E=>?_⟩
     obtain⟨aj,ρ,C⟩:=D;simp only[wpList,Ev Z C,hd];exact U _ w ⟨aj,ρ,C.set rfl (by have:=cQ hN;omega)⟩ Q E
  ·cases h
def Il(ei:fL P Φ):∀ (c:Code) (σ:S) (k:Exit->S->ah X),lI P N Φ Λ c σ k=some r->pW P N Λ (occs c)->AW P w0 N c σ λe E=>k e E=some r:=by
 intro c
 induction c with
 |skip=>exact λσ k h _ a w C=>wp_skip ⟨σ,h,C⟩
 |label l=>exact λσ k h _ a w C=>wp_label ⟨σ,h,C⟩
 |ret=>exact λσ k h _ a w C=>wp_ret ⟨σ,h,C⟩
 |exit id=>exact λσ k h _ a w C=>wp_exit ⟨σ,h,C⟩
 | region id ops draw=>
  intro σ k h _ a w C;cases draw with
  | true=>
   simp only[lI]at h;cases hm:P.follows .mixedOrders with
   |false=>rw[hm]at h;cases h
   | true=>
    rw[hm,au]at h
    haveI:Inhabited Wd:=⟨w0⟩
    exact aqT ei hm h (λτ ij a w C=>⟨τ,ij,C⟩) C
  | false=>
   simp only[lI]at h;obtain⟨E,h',hw⟩:=Ov (w0:=w0) ei ops _ _ _ _ h;exact wp_region_list (hw a w C _ λU w' D=>⟨E,h',D⟩)
 | seq x y Y Z=>
  intro σ k h O a w C;simp only[lI]at h;have h1:=Y σ _ h (λp L=>O p (List.mem_append_left _ L))
  refine wp_seq (wp_mono (h1 a w C) λe U w' he=>?_)
  obtain⟨E,T,D⟩:=he;cases e with
  |normal=>exact Z E k T (λp L=>O p (List.mem_append_right _ L)) U w' D
  |_=>exact⟨E,T,D⟩
 | cond c x y Y Z=>
  intro σ k h O a w C;simp only[lI]at h;split at h
  ·rename_i b hb;obtain⟨aj,ρ,D⟩:=C;have hc:=D.aK c;rw[hb]at hc;have hcv:=hc.2.yO;cases b with
   |true=>exact wp_cond_true hcv (Y σ k h (λp L=>O p (List.mem_append_left _ L)) a w ⟨aj,ρ,D⟩)
   |false=>exact wp_cond_false hcv (Z σ k h (λp L=>O p (List.mem_append_right _ L)) a w ⟨aj,ρ,D⟩)
  ·cases h
 | block id c ih=>
  intro σ k h O a w C;simp only[lI]at h;split at h
  next b hb=>exact O (id,c) (.head _) b hb X σ k r w0 h a w C
  ·have h1:=ih σ _ h (λp L=>O p (.tail _ L))
   refine wp_block (wp_mono (h1 a w C) λe U w' he=>?_)
   obtain⟨E,T,D⟩:=he;cases e with
   | exit id'=>
    simp only[Exit.inBlock];by_cases hid:id'=id
    ·simp only[hid,if_true]at T ⊢;exact⟨E,T,D⟩
    ·simp only[hid,if_false]at T ⊢;exact⟨E,T,D⟩
   |_=>exact⟨E,T,D⟩
 |_=>exact λσ k h=>by simp[lI]at h
end
/-! What a loop carries. -/
inductive Lm where
 |int (k:IntKind)
 |bool
 |str
 |own (r:Nat)
 |aF (t:TC) (o:Nat)
def Lm.T:Lm->Type
 |.int _=>Int
 |.bool=>Bool
 |.str=>ByteArray
 |.own _=>af
 |.aF t _=>aa (Proofs.YtnilicojgkhpnaaGreat.T t)
def Lm.mk:(m:Lm)->m.T->Lf
 |.int k,n=>.v (.int k n)
 |.bool,b=>.v (.bool b)
 |.str,s=>.v (.str s)
 |.own r,_=>.own [r]
 |.aF t o,l=>.v (.sl t o false l)
def Lm.rd:(m:Lm)->Lf->ah m.T
 |.int k,.v (.int C n)=>if C=k then some n else none
 |.bool,.v (.bool b)=>some b
 |.str,.v (.str s)=>some s
 |.own r,.own [D]=>bif Nat.beq D r then some ()else none
 |.aF t o,.v x=>bif Nat.blt o 2 then x.ff t o else none
 |_,_=>none
inductive Tm where
 |lf (m:Lm)
 |aJ (r j:Nat)
 |fp (t:TC) (o:Nat)
 |fc (f:Nat) (t:TC)
 |ag (t:TC)
 |pk (r n:Nat)
def Tm.T:Tm->Type
 |.lf m=>m.T
 |.aJ _ _=>af
 |.fp t _=>Proofs.YtnilicojgkhpnaaGreat.T t
 |.fc _ t=>Proofs.YtnilicojgkhpnaaGreat.T t
 |.ag t=>Proofs.YtnilicojgkhpnaaGreat.T t
 |.pk _ _=>af
def Tm.mk:(m:Tm)->m.T->A
 |.lf m,x=>.lf (m.mk x)
 |.aJ r j,_=>.aJ r j
 |.fp t o,x=>.iZ (enc t o x)
 |.fc f t,x=>.mQ f (enc t 0 x)
 |.ag t,x=>.agg ((enc t 0 x).map .v)
 |.pk r n,_=>.pk r n
def Tm.rd:(m:Tm)->A->ah m.T
 |.lf m,.lf x=>m.rd x
 |.aJ r j,.aJ C D=>bif Nat.beq C r&&Nat.beq D j then some ()else none
 |.fp t o,.iZ cs=>bif Nat.blt o 2 then dec t o cs else none
 |.fc f t,.mQ E cs=>bif Nat.beq E f then dec t 0 cs else none
 | .ag t,.agg cs=>(match vi cs with
  |some L=>dec t 0 L
  |none=>none)
 |.pk r n,.pk C O=>bif Nat.beq C r&&Nat.beq O n then some ()else none
 |_,_=>none
def Im:aa Lm->Type
 |[]=>af
 |m::C=>m.T×Im C
def xB:(C:aa Lm)->Im C->aa Lf
 |[],_=>[]
 |m::C,x=>m.mk x.1::xB C x.2
def Ow:(C:aa Lm)->aa Lf->ah (Im C)
 |[],[]=>some ()
 | m :: C,x :: xs=>match m.rd x,Ow C xs with
  |some y,some ys=>some (y,ys)
  |_,_=>none
 |_,_=>none
inductive Rm where
 |sl (t:TC) (o:Nat)
 |st (t:TC)
 |aC (ms:List Lm)
 |mp
def Rm.T:Rm->Type
 |.sl t _=>aa (Proofs.YtnilicojgkhpnaaGreat.T t)
 |.st t=>Proofs.YtnilicojgkhpnaaGreat.T t
 |.aC C=>Im C
 |.mp=>aa (Int×Bool)
def Rm.mk:(m:Rm)->m.T->bg
 |.sl t o,l=>.sl (.sl t o false l)
 |.st t,x=>.aC ((enc t 0 x).map .v)
 |.aC C,x=>.aC (xB C x)
 |.mp,l=>.mp l
def Rm.rd:(m:Rm)->bg->ah m.T
 |.sl t o,.sl y=>y.ff t o
 | .st t,.aC cs=>(match vi cs with
  |some C=>dec t 0 C
  |none=>none)
 |.aC D,.aC cs=>Ow D cs
 |.mp,.mp l=>some l
 |_,_=>none
def Ew:aa (Nat×Tm)->Type
 |[]=>af
 |(_,m)::C=>m.T×Ew C
def xD:(C:aa (Nat×Tm))->Ew C->Nat->A
 |[],_,_=>.undef
 |(n,m)::C,x,k=>bif Nat.beq k n then m.mk x.1 else xD C x.2 k
def Io:(C:aa (Nat×Tm))->(Nat->A)->ah (Ew C)
 |[],_=>some ()
 | (n,m) :: C,t=>match m.rd (t n),Io C t with
  |some x,some xs=>some (x,xs)
  |_,_=>none
def xE:aa (Nat×Rm)->Type
 |[]=>af
 |(_,m)::C=>m.T×xE C
def xF:(C:aa (Nat×Rm))->xE C->Nat->ah bg
 |[],_,_=>none
 |(n,m)::C,x,k=>bif Nat.beq k n then some (m.mk x.1)else xF C x.2 k
def Ex:(C:aa (Nat×Rm))->(Nat->ah bg)->ah (xE C)
 |[],_=>some ()
 | (n,m) :: C,t=>match (t n).bind m.rd,Ex C t with
  |some x,some xs=>some (x,xs)
  |_,_=>none
structure jn where
 ts:List (Nat×Tm)
 rs:List (Nat×Rm)
def jn.St(C:jn):Type:=Ew C.ts×xE C.rs
def jn.mk'(C:jn)(x:C.St):S:=⟨xD C.ts x.1,xF C.rs x.2⟩
def jn.Ox(C:jn)(σ:S):ah C.St:=match Io C.ts σ.t,Ex C.rs σ.m with
 |some x,some y=>some (x,y)
 |_,_=>none
/-! Roots by other names. -/
abbrev Rn:=aa (Nat×Nat)
def Rn.inv(rs:Rn)(n:Nat):ah Nat:=(rs.find? λp=>Nat.beq p.2 n).map (·.1)
def Rn.add(rs:Rn)(r n:Nat):Rn:=bif rs.any (λp=>Nat.beq p.1 r&&Nat.beq p.2 n)then rs else (r,n)::rs
def WQ(n:Nat):ah Nat->Bool
 |some m=>Nat.beq m n
 |none=>false
def Rn.ok(rs:Rn):Bool:=rs.all λp=>(Nat.beq p.1 p.2 ||Nat.ble 60000 p.2)&&WQ p.2 (rs.lookup p.1)&&WQ p.1 (rs.inv p.2)
def Lf.eg(rs:Rn):Lf->Lf
 |.v x=>.v x
 | .own [r]=>(match rs.lookup r with
  |some n=>.own [n]
  |none=>.dead)
 |_=>.dead
def A.eg(rs:Rn):A->A
 |.lf x=>.lf (x.eg rs)
 | .aJ r j=>(match rs.lookup r with
  |some n=>.aJ n j
  |none=>.undef)
 |.iZ cs=>.iZ cs
 |.mQ f cs=>.mQ f cs
 |.agg cs=>.agg (cs.map (Lf.eg rs))
 |_=>.undef
def bg.eg(rs:Rn):bg->bg
 |.aC cs=>.aC (cs.map (Lf.eg rs))
 |.sl y=>.sl y
 |.mp l=>.mp l
 |.gh _=>.gh []
def S.eg(rs:Rn)(σ:S):S:=⟨λk=>(σ.t k).eg rs,λn=>match rs.inv n with
 |some r=>(σ.m r).map (bg.eg rs)
 |none=>none⟩
def rnL:Lm->Lf->Rn->Rn
 |.own n,.own [r],rs=>rs.add r n
 |_,_,rs=>rs
def WR:aa Lm->aa Lf->Rn->Rn
 |m::C,x::xs,rs=>WR C xs (rnL m x rs)
 |_,_,rs=>rs
def rnT:Tm->A->Rn->Rn
 |.lf m,.lf x,rs=>rnL m x rs
 |.aJ n j,.aJ r C,rs=>rs.add r n
 |_,_,rs=>rs
def adN(t:Nat->A):aa (Nat×Tm)->Rn->Rn
 |[],rs=>rs
 |(k,m)::C,rs=>adN t C (rnT m (t k) rs)
def adO(m:Nat->ah bg):aa (Nat×Rm)->Rn->Rn
 |[],rs=>rs
 | (n,x) :: xs,rs=>adO m xs (match x,rs.inv n with
  | .aC C,some r=>(match m r with
   |some (.aC cs)=>WR C cs rs
   |_=>rs)
  | .aC C,none=>(match m n with
   |some (.aC cs)=>WR C cs (rs.add n n)
   |_=>rs)
  |_,some _=>rs
  |_,none=>rs.add n n)
def jn.rn(C:jn)(σ:S):Rn:=adO σ.m C.rs (adN σ.t C.ts [])
def WS(rs:aa (Nat×Rm))(p:Nat×Tm)(σ:S):S:=match p.2,σ.t p.1 with
 | .lf (.own n),.lf (.v .nil)=>(match rs.lookup n with
  |some (.sl t o)=>bif Nat.ble 60000 n then ⟨cc ((σ.drop n).root n (.sl (.sl t o false []))).t p.1 (.lf (.own [n])),((σ.drop n).root n (.sl (.sl t o false []))).m⟩else σ
  |_=>σ)
 |_,_=>σ
def Oy(rs:aa (Nat×Rm)):aa (Nat×Tm)->S->S
 |[],σ=>σ
 |p::ps,σ=>Oy rs ps (WS rs p σ)
def WT(n j r:Nat)(σ:S):S:=match σ.m r with
 | some (.aC cs)=>(match cs[j]? with
  |some (.v .nil)=>⟨σ.t,cc σ.m r (some (.aC (cs.set j (.own [n]))))⟩
  |_=>σ)
 |_=>σ
def WU(rs:aa (Nat×Rm))(n j r:Nat)(σ:S):S:=match rs.lookup n with
 |some (.sl t o)=>bif Nat.ble 60000 n then WT n j r ((σ.drop n).root n (.sl (.sl t o false [])))else σ
 |_=>σ
def B2(rs:aa (Nat×Rm))(r:Nat):Nat->aa Lm->aa Lf->S->S
 |j,.own n::C,.v .nil::cs,σ=>B2 rs r (j+1) C cs (WU rs n j r σ)
 |j,_::C,_::cs,σ=>B2 rs r (j+1) C cs σ
 |_,_,_,σ=>σ
def Oz(rs:aa (Nat×Rm)):aa (Nat×Rm)->S->S
 |[],σ=>σ
 | (r,.aC C) :: ps,σ=>Oz rs ps (match σ.m r with
  |some (.aC cs)=>B2 rs r 0 C cs σ
  |_=>σ)
 |_::ps,σ=>Oz rs ps σ
def jn.rd1(C:jn)(σ:S):ah C.St:=bif (C.rn σ).ok then C.Ox (Oz C.rs C.rs (σ.eg (C.rn σ)))else none
def jn.rd(C:jn)(σ:S):ah C.St:=match C.Ox σ with
 |some x=>some x
 |none=>C.rd1 (Oy C.rs C.ts σ)
section
variable {P:Program} {w w':World} {w0:Wd} {B N:Nat} {aj aA:bG} {ρ ρ':Nat->Loc} {σ:S} {a:Act} {X:Type} {d:Nat} {r:X} {o:Oper} {Φ:ez} {Λ:nc}
def Lm.pY{m:Lm}{x:Lf}{y:m.T}(h:m.rd x=some y){u:Value}(C:dU w B aj ρ x u):dU w B aj ρ (m.mk y) u:=by
 unfold Lm.rd at h;split at h
 ·split at h
  next E=>subst E;injection h with h;subst h;exact C
  ·cases h
 ·injection h with h;subst h;exact C
 ·injection h with h;subst h;exact C
 ·rename_i L O;cases D:Nat.beq O L with
  |false=>simp_all
  |true=>obtain rfl:=cD D;exact C
 ·rename_i t o x;cases D:Nat.blt o 2 with
  |false=>rw[D]at h;cases h
  | true=>
   rw[D]at h;have:=cQ D;exact⟨by simp[V.aF];omega,C.2.wk (V.GF h)⟩
 ·cases h
def Tm.pY{m:Tm}{x:A}{y:m.T}(h:m.rd x=some y){u:Value}(O:RA w B aj ρ x u):RA w B aj ρ (m.mk y) u:=by
 cases m with
 | lf m=>
  cases x with
  |lf x=>exact Lm.pY h O
  |_=>cases h
 | aJ r j=>
  cases x with
  | aJ Y j'=>
   have h:(bif Nat.beq Y r&&Nat.beq j' j then some ()else none)=some y:=h;cases C:(Nat.beq Y r&&Nat.beq j' j)with
   |false=>simp_all
   | true=>
    rw[aN]at C;obtain rfl:=cD C.1;obtain rfl:=cD C.2;exact O
  |_=>cases h
 | fp t o=>
  cases x with
  | iZ cs=>
   have h:(bif Nat.blt o 2 then dec t o cs else none)=some y:=h;cases C:Nat.blt o 2 with
   |false=>simp_all
   | true=>
    rw[C,au]at h;have ho:=cQ C;have E:=lV t o cs y h;obtain⟨b,off,Z,h2,h3,h4⟩:=O
    refine⟨b,off,Z,h2,h3,λj z D=>?_⟩
    have hj:j<cs.length:=by rw[E.1];exact(dQ.1 D).1
    have L:=bZ hj;obtain⟨g1,v,g2,g3⟩:=h4 j _ L;exact⟨rJ t o y (by omega) j z D,v,g2,g3.wk (E.2 j _ z L D)⟩
  |_=>cases h
 | fc f t=>
  cases x with
  | mQ f' cs=>
   have h:(bif Nat.beq f' f then dec t 0 cs else none)=some y:=h;cases C:Nat.beq f' f with
   |false=>simp_all
   | true=>
    rw[C,au]at h;obtain rfl:=cD C;have E:=lV t 0 cs y h;obtain⟨pv,e0,b,off,Z,h2,h3,h4⟩:=O
    refine⟨pv,e0,b,off,Z,h2,h3,λj z D=>?_⟩
    have hj:j<cs.length:=by rw[E.1];exact(dQ.1 D).1
    have L:=bZ hj;obtain⟨g1,v,g2,g3⟩:=h4 j _ L;exact⟨rJ t 0 y (by omega) j z D,v,g2,g3.wk (E.2 j _ z L D)⟩
  |_=>cases h
 | ag t=>
  cases x with
  | agg cs=>
   have h:(match vi cs with|some U=>dec t 0 U|none=>none)=some y:=h;cases jM:vi cs with
   |none=>simp_all
   | some U=>
    rw[jM]at h;have h:dec t 0 U=some y:=h;have gp:=Nz _ _ jM;have E:=lV t 0 U y h;obtain⟨us,Z,h2,h3⟩:=O
    refine⟨us,Z,?_,λj x hx=>?_⟩
    ·rw[h2,gp,eG,eG,E.1]
    ·rw[eF]at hx;cases D:(enc t 0 y)[j]? with
     |none=>simp_all
     | some z=>
      rw[D]at hx;injection hx with hx;subst hx;have hj:j<U.length:=by rw[E.1];exact(dQ.1 D).1
      have L:=bZ hj;obtain⟨v,g1,g2⟩:=h3 j (.v U[j]) (by rw[gp,eF,L];rfl);exact⟨v,g1,rJ t 0 y (by omega) j z D,g2.2.wk (E.2 j _ z L D)⟩
  |_=>cases h
 | pk r n=>
  cases x with
  | pk Y n'=>
   have h:(bif Nat.beq Y r&&Nat.beq n' n then some ()else none)=some y:=h;cases C:(Nat.beq Y r&&Nat.beq n' n)with
   |false=>simp_all
   | true=>
    rw[aN]at C;obtain rfl:=cD C.1;obtain rfl:=cD C.2;exact O
  |_=>cases h
def adP:∀ (C:aa Lm) (cs:aa Lf) (y:Im C),Ow C cs=some y -> (xB C y).length=cs.length /\ ∀ (j:Nat) x,(xB C y)[j]?=some x -> ∃ z,cs[j]?=some z/\(∀ (w:World) (B:Nat) (aj:bG) (ρ:Nat -> Loc) (u:Value),dU w B aj ρ z u -> dU w B aj ρ x u)
 |[],[],y,h=>⟨rfl,λj x D=>by simp[xB]at D⟩
 | m :: C,c :: cs,y,h=>by
  unfold Ow at h;split at h
  ·rename_i Y ys E L;injection h with h;subst h;obtain⟨O,T⟩:=adP C cs ys L
   refine⟨by simp[xB,O],λj x D=>?_⟩
   cases j with
   |zero=>simp[xB]at D;subst D;exact⟨c,rfl,λw B aj ρ u U=>Lm.pY E U⟩
   |succ j=>exact T j x (by simpa [xB]using D)
  ·cases h
def Rm.pY{m:Rm}{x:bg}{y:m.T}(h:m.rd x=some y){n:Nat}(C:dY w B aj ρ n x):dY w B aj ρ n (m.mk y):=by
 cases m with
 | sl t o=>
  cases C with
  |sl v y' D hr=>exact .sl v _ D (hr.wk (V.GF h))
  |aC=>cases h
  |mp=>cases h
  |gh=>cases h
 | mp=>
  cases C with
  |gh=>cases h
  |sl=>cases h
  |aC=>cases h
  |mp b c es l D L O he=>injection h with h;subst h;exact .mp b c es _ D L O he
 | st t=>
  cases C with
  |sl=>cases h
  |mp=>cases h
  |gh=>cases h
  | aC b off cells e cs us D L O U hc=>
   have h:(match vi cs with|some E=>dec t 0 E|none=>none)=some y:=h;cases jM:vi cs with
   |none=>simp_all
   | some E=>
    rw[jM]at h;have h:dec t 0 E=some y:=h;have gp:=Nz _ _ jM;have Z:=lV t 0 E y h
    refine .aC b off cells e _ us D L O (by rw[eG,<- Z.1];rw[gp,eG]at U;exact U) λj x C=>?_
    rw[eF]at C;cases Y:(enc t 0 y)[j]? with
    |none=>simp_all
    | some z=>
     rw[Y]at C;injection C with C;subst C;have hj:j<E.length:=by rw[Z.1];exact(dQ.1 Y).1
     have hv:=bZ hj;obtain⟨h1,h2⟩:=hc j (.v E[j]) (by rw[gp,eF,hv];rfl);exact⟨h1,rJ t 0 y (by omega) j z Y,h2.2.wk (Z.2 j _ z hv Y)⟩
 | aC ms=>
  cases C with
  |sl=>cases h
  |mp=>cases h
  |gh=>cases h
  | aC b off cells e cs us D L O U hc=>
   obtain⟨k1,k2⟩:=adP ms cs y h
   refine .aC b off cells e _ us D L O (by show off+(xB ms y).length <= _;rw[k1];exact U) λj x C=>?_
   grind
def WV:∀ (C:aa (Nat×Tm)) (t:Nat -> A) (y:Ew C),Io C t=some y -> ∀ k,xD C y k = .undef \/ ∃ m z,(Tm.rd m (t k)=some z/\xD C y k=m.mk z)
 |[],t,y,h,k=>.inl rfl
 | (n,m) :: C,t,y,h,k=>by
  unfold Io at h;split at h
  ·rename_i x xs E L;injection h with h;subst h;by_cases O:k=n
   ·subst O;exact .inr ⟨m,x,E,by simp[xD]⟩
   ·have D:Nat.beq k n=false:=by
     cases D:Nat.beq k n with
     |false=>rfl
     |true=>simp_all
    simp only[xD,D,aq];exact WV C t xs L k
  ·cases h
def WW:∀ (C:aa (Nat×Rm)) (t:Nat -> ah bg) (y:xE C),Ex C t=some y -> ∀ k,xF C y k=none \/ ∃ m x z,t k=some x/\Rm.rd m x=some z/\xF C y k=some (m.mk z)
 |[],t,y,h,k=>.inl rfl
 | (n,m) :: C,t,y,h,k=>by
  unfold Ex at h;split at h
  ·rename_i x xs D L;injection h with h;subst h;by_cases O:k=n
   ·subst O;cases T:t k with
    |none=>simp_all
    |some z=>rw[T]at D;exact .inr ⟨m,z,x,rfl,D,by simp[xF]⟩
   ·have E:Nat.beq k n=false:=by
     cases E:Nat.beq k n with
     |false=>rfl
     |true=>simp_all
    simp only[xF,E,aq];exact WW C t xs L k
  ·cases h
def jn.adQ{D:jn}{x:D.St}(h:D.Ox σ=some x)(C:R w0 N σ a w):R w0 N (D.mk' x) a w:=by
 unfold jn.Ox at h;split at h
 ·rename_i u v T U;injection h with h;subst h;obtain⟨aj,ρ,C⟩:=C
  refine⟨aj,ρ,C.below,C.dg,λn y E=>?_,λk=>?_,C.size,C.defers,C.fix,C.dz⟩
  ·have E:xF D.rs v n=some y:=E;rcases WW D.rs σ.m v U n with e | ⟨m,x,z,L,O,Y⟩
   ·simp_all
   ·rw[Y]at E;injection E with E;subst E;exact Rm.pY O (C.root n x L)
  ·show RA _ _ _ _ (xD D.ts u k) _;rcases WV D.ts σ.t u T k with e | ⟨m,z,L,O⟩
   ·rw[e];trivial
   ·rw[O];exact Tm.pY L (C.tmp k)
 ·cases h
def adR{n:Nat}{o:ah Nat}(h:WQ n o=true):o=some n:=by
 cases o with
 |none=>cases h
 |some m=>rw[cD h]
def adS{rs:Rn}{r n:Nat}(h:rs.lookup r=some n):(r,n)∈rs:=by
 induction rs with
 |nil=>cases h
 |cons p rs C =>grind
def adT{rs:Rn}{r n:Nat}(h:rs.inv n=some r):(r,n)∈rs:=by
 unfold Rn.inv at h;cases C:rs.find? _ with
 |none=>rw[C]at h;cases h
 | some p=>
  rw[C]at h;injection h with h;subst h;have D:=List.find?_some C;have E:=List.mem_of_find?_eq_some C;rw[<- cD D];exact E
def Rn.eT(rs:Rn)(ρ:Nat->Loc):Nat->Loc:=λn=>match rs.inv n with
 |some r=>ρ r
 |none=>ρ n
def Rn.OA{rs:Rn}(h:rs.ok=true){r n:Nat}(C:(r,n)∈rs):(r=n \/ 60000 <= n)/\rs.lookup r=some n/\rs.inv n=some r:=by
 have:=cw.1 h _ C;rw[aN,aN,eB]at this;refine⟨?_,adR this.1.2,adR this.2⟩;simp_all
def dU.eg{rs:Rn}(C:rs.ok=true){x:Lf}{u:Value}(h:dU w B aj ρ x u):dU w B (ey aj rs id) (rs.eT ρ) (x.eg rs) u:=by
 unfold Lf.eg;split
 ·exact⟨h.1,h.2.Nb h.1 λb=>zj⟩
 ·rename_i r;split
  next n D=>have hi:=(Rn.OA C (adS D)).2.2;refine⟨h.1,?_⟩;have E:=h.2;simp[c8]at E ⊢;unfold Rn.eT;simp_all
  ·trivial
 ·trivial
def Rl.eg{rs:Rn}(O:rs.ok=true)(h:Rl w0 N aj ρ σ a w):Rl w0 N (ey aj rs id) (rs.eT ρ) (σ.eg rs) a w:=by
 have hl:∀ b r n,aj b=some [r] -> rs.lookup r=some n -> ey aj rs id b=some [n]:=by
  intro b r n E L;simp[ey,E,L]
 refine⟨h.below,λb k D=>?_,λn x C=>?_,λk=>?_,h.size,h.defers,λr l U=>?_,h.dz⟩
 ·unfold ey at D;split at D
  ·cases D
  ·rename_i k0 NT;split at D
   ·cases D
   ·rename_i r U;cases hn:rs.lookup r with
    |none=>grind
    | some n=>
     rw[hn]at D;injection D with D;subst D;obtain⟨E,L,_⟩:=h.dg b k0 NT;simp_all
 ·have C:(match rs.inv n with | some r=>(σ.m r).map (bg.eg rs) | none=>none)=some x:=C;cases hi:rs.inv n with
  |none=>grind
  | some r=>
   rw[hi]at C;have C:(σ.m r).map (bg.eg rs)=some x:=C;have tj:=(Rn.OA O (adT hi)).2.1;have cz:rs.eT ρ n=ρ r:=by unfold Rn.eT;rw[hi]
   cases hm:σ.m r with
   |none=>grind
   | some y=>
    rw[hm]at C;injection C with C;subst C;cases h.root r y hm with
    | aC b off cells e cs us E L hh hs hc=>
     refine .aC b off cells e _ us (cz.trans E) (hl b r n L tj) hh (by rw[eG];exact hs) λj x C=>?_
     rw[eF]at C;cases T:cs[j]? with
     |none=>grind
     | some z=>
      rw[T]at C;injection C with C;subst C;exact⟨(hc j z T).1,(hc j z T).2.eg O⟩
    | sl v y E L=>
     exact .sl v y (cz.trans E) (RV.ey (p:=[]) (nm:=id) L tj)
    |mp b c es l E L hh he=>exact .mp b c es l (cz.trans E) (hl b r n L tj) hh he
    |gh us xs E C=>exact .gh us _ (cz.trans E) λj x hj=>by simp at hj
 ·show RA _ _ _ _ ((σ.t k).eg rs) _;have D:=h.tmp k;generalize σ.t k=x at D;unfold A.eg;split
  ·exact D.eg O
  ·rename_i r j;split
   next n hn=>have hi:=(Rn.OA O (adS hn)).2.2;obtain⟨b,off,E,L⟩:=D;exact⟨b,off,by unfold Rn.eT;rw[hi];exact E,L⟩
   ·trivial
  ·obtain⟨b,off,Y,Z,g3,g4⟩:=D
   refine⟨b,off,Y,Z,zj g3,λj x C=>?_⟩
   obtain⟨f1,v,f2,f3⟩:=g4 j x C;exact⟨f1,v,f2,f3.Nb f1 λb=>zj⟩
  ·obtain⟨pv,e0,b,off,Y,Z,g3,g4⟩:=D
   refine⟨pv,e0,b,off,Y,Z,zj g3,λj x C=>?_⟩
   obtain⟨f1,v,f2,f3⟩:=g4 j x C;exact⟨f1,v,f2,f3.Nb f1 λb=>zj⟩
  ·obtain⟨us,Y,Z,g3⟩:=D
   refine⟨us,Y,by rw[eG];exact Z,λj x C=>?_⟩
   rw[eF]at C;rename_i cs;cases T:cs[j]? with
   |none=>grind
   | some z=>
    rw[T]at C;injection C with C;subst C;obtain⟨v,f1,f2⟩:=g3 j z T;exact⟨v,f1,f2.eg O⟩
  ·trivial
 ·show rs.eT ρ r=l;unfold Rn.eT;split
  ·rename_i r0 hi;rcases(Rn.OA O (adT hi)).1 with e | e
   ·rw[e];exact h.fix r l U
   ·rw[h.dz r (.inr e)]at U;cases U
  ·exact h.fix r l U
def aqV{rs:aa (Nat×Rm)}{p:Nat×Tm}(C:R w0 N σ a w):R w0 N (WS rs p σ) a w:=by
 unfold WS;split
 ·rename_i n hp T;split
  ·rename_i t o hl;cases U:Nat.ble 60000 n with
   |false=>exact C
   | true=>
    have Y:=cQ U;obtain⟨aj,ρ,C⟩:=C;have E:=C.tmp p.1;rw[T]at E;have Z:a.tmps.getD p.1 undef = .slice none 0 0:=by
     have L:=E.2;generalize a.tmps.getD p.1 undef=u at L;cases L;rfl
    have D:=C.new (d:=n) (x:=.sl (.sl t o false [])) (.dX (.slice none 0 0)) (.sl _ _ (cm _ _ _) (.ep _ _ _)) (C.dz n (.inr Y))
    refine⟨aj,_,D.below,D.dg,D.root,λk=>?_,D.size,D.defers,D.fix,D.dz⟩
    show RA _ _ _ _ (cc ((σ.drop n).root n (.sl (.sl t o false []))).t p.1 (.lf (.own [n])) k) _;by_cases O:k=p.1
    ·subst O;rw[cm,Z];exact⟨rfl,by simp[c8,cm]⟩
    ·rw[cM _ _ _ O];exact D.tmp k
  ·exact C
 ·exact C
def aqW{n j r:Nat}{y:V}(C:Rl w0 N aj ρ σ a w)(Y:ρ n = .dX (.slice none 0 0)):Rl w0 N aj ρ (WT n j r σ) a w:=by
 unfold WT;split
 ·rename_i cs Z;split
  ·rename_i T
   refine⟨C.below,C.dg,λL x D=>?_,C.tmp,C.size,C.defers,C.fix,C.dz⟩
   have D:cc σ.m r (some (.aC (cs.set j (.own [n])))) L=some x:=D;by_cases U:L=r
   ·subst U;rw[cm]at D;injection D with D;subst D;cases C.root L _ Z with
    | aC b off cells e cs us h1 O hh hs hc=>
     refine .aC b off cells e _ us h1 O hh (by rw[gz];exact hs) λi z E=>?_
     rw[List.getElem?_set]at E;by_cases hi:j=i
     ·subst hi;have dA:j<cs.length:=(dQ.1 T).1;rw[bL rfl,bL dA]at E;injection E with E;subst E;obtain⟨k1,k2⟩:=hc j _ T;refine⟨k1,?_⟩;have hu:us j = .slice none 0 0:=by
       have O:=k2.2;generalize us j=u at O;cases O;rfl
      rw[hu];exact⟨rfl,by simp only[c8,Y]⟩
     ·grind
   ·rw[cM _ _ _ U]at D;exact C.root L x D
  ·exact C
 ·exact C
def aqX{rs:aa (Nat×Rm)}{n j r:Nat}(C:R w0 N σ a w):R w0 N (WU rs n j r σ) a w:=by
 unfold WU;split
 ·rename_i t o L;cases D:Nat.ble 60000 n with
  |false=>exact C
  | true=>
   have E:=cQ D;obtain⟨aj,ρ,C⟩:=C;exact⟨aj,_,aqW (y:=.nil) (C.new _ (.sl _ _ (cm _ _ _) (.ep _ _ _)) (C.dz n (.inr E))) (cm _ _ _)⟩
 ·exact C
def WX{rs:aa (Nat×Rm)}{r:Nat}:∀ (C:aa Lm) (cs:aa Lf) (j:Nat) (σ:S),R w0 N σ a w -> R w0 N (B2 rs r j C cs σ) a w
 |[],cs,j,σ,h=>by unfold B2;exact h
 | m :: C,[],j,σ,h=>by
  unfold B2;simp_all
 | m :: C,c :: cs,j,σ,h=>by
  unfold B2;split
  next D E=>cases D;cases E;exact WX C cs _ _ (aqX h)
  next D E=>cases D;cases E;exact WX C cs _ _ h
  ·exact h
def Ip{rs:aa (Nat×Rm)}:∀ (ps:aa (Nat×Rm)) (σ:S),R w0 N σ a w -> R w0 N (Oz rs ps σ) a w
 |[],σ,h=>h
 |(r,.sl t o)::ps,σ,h=>Ip ps σ h
 |(r,.st t)::ps,σ,h=>Ip ps σ h
 |(r,.mp)::ps,σ,h=>Ip ps σ h
 | (r,.aC C) :: ps,σ,h=>by
  refine Ip ps _ ?_;split
  ·exact WX C _ 0 σ h
  ·exact h
def adU{rs:aa (Nat×Rm)}:∀ (ps:aa (Nat×Tm)) (σ:S),R w0 N σ a w->R w0 N (Oy rs ps σ) a w
 |[],σ,h=>h
 |p::ps,σ,h=>adU ps _ (aqV h)
def jn.pY{C:jn}{x:C.St}(h:C.rd σ=some x)(D:R w0 N σ a w):R w0 N (C.mk' x) a w:=by
 unfold jn.rd at h;split at h
 next y L=>injection h with h;subst h;exact jn.adQ L D
 ·have D:=adU (rs:=C.rs) C.ts σ D;revert h D;generalize Oy C.rs C.ts σ=O;intro h D;unfold jn.rd1 at h;cases E:(C.rn O).ok with
  |false=>simp_all
  | true=>
   rw[E,au]at h;obtain⟨aj,ρ,D⟩:=D;exact jn.adQ h (Ip C.rs _ ⟨_,_,D.eg E⟩)
end
def xH:aa V->aa Nat->aa Lf
 |[],_=>[]
 | x :: xs,ns=>bif x.plain then .v x :: xH xs ns else (match ns with
  |n::ns=>.own [n]::xH xs ns
  |[]=>.dead::xH xs [])
def B3:aa V->aa Nat->(Nat->ah bg)->Nat->ah bg
 |[],_,m,k=>m k
 | x :: xs,ns,m,k=>bif x.plain then B3 xs ns m k else (match ns with
  |n::ns=>bif Nat.beq k n then some (.sl x)else B3 xs ns m k
  |[]=>B3 xs [] m k)
def kB(m:Nat->ah bg):aa Lf->aa Nat->ah (aa V)
 |[],[]=>some []
 | .v x :: cs,ns=>bif x.plain then (match kB m cs ns with
  |some C=>some (x::C)
  |none=>none)else none
 | .own [r] :: cs,n :: ns=>bif Nat.beq r n then (match m n with
  | some (.sl y)=>bif y.plain then none else (match kB m cs ns with
   |some C=>some (y::C)
   |none=>none)
  |_=>none)else none
 |_,_=>none
abbrev Gp:=Nat×TC×Nat×aa Nat
def Iq:aa Gp->Type->Type
 |[],X=>X
 |g::gs,X=>T g.2.1×Iq gs X
def OB:(gs:aa Gp)->(rs:aa (Nat×Rm))->Iq gs (xE rs)->Nat->ah bg
 |[],rs,x,k=>xF rs x k
 |(n,t,o,ns)::gs,rs,x,k=>bif Nat.beq k n then some (.aC (xH (enc t o x.1) ns))else B3 (enc t o x.1) ns (OB gs rs x.2) k
def OC:(gs:aa Gp)->(rs:aa (Nat×Rm))->(Nat->ah bg)->ah (Iq gs (xE rs))
 |[],rs,m=>Ex rs m
 | (n,t,o,ns) :: gs,rs,m=>match m n with
  | some (.aC cs)=>(match kB m cs ns with
   | some C=>(match dec t o C,OC gs rs m with
    |some x,some y=>some (x,y)
    |_,_=>none)
   |none=>none)
  |_=>none
def Ey:aa V->aa Nat->aa Lm
 |[],_=>[]
 |.int k _::xs,ns=>.int k::Ey xs ns
 |.bool _::xs,ns=>.bool::Ey xs ns
 |.str _::xs,ns=>.str::Ey xs ns
 |_::xs,n::ns=>.own n::Ey xs ns
 |_::xs,[]=>.bool::Ey xs []
def WY:aa V->aa Nat->aa (Nat×Rm)
 |.sl t o _ _::xs,n::ns=>(n,.sl t o)::WY xs ns
 |_::xs,ns=>WY xs ns
 |[],_=>[]
def WZ:aa Gp->aa (Nat×Rm)->aa (Nat×Rm)
 |[],rs=>rs
 |(n,t,o,ns)::gs,rs=>(n,.aC (Ey (shp t o) ns))::(WY (shp t o) ns++WZ gs rs)
structure bM where
 ts:List (Nat×Tm)
 rs:List (Nat×Rm)
 gs:List Gp
def bM.St(C:bM):Type:=Ew C.ts×Iq C.gs (xE C.rs)
def bM.mk'(C:bM)(x:C.St):S:=⟨xD C.ts x.1,OB C.gs C.rs x.2⟩
def bM.OD(C:bM)(σ:S):ah C.St:=match Io C.ts σ.t,OC C.gs C.rs σ.m with
 |some x,some y=>some (x,y)
 |_,_=>none
def bM.rd(C:bM)(σ:S):ah C.St:=match C.OD σ with
 |some x=>some x
 | none=>match jn.rd ⟨C.ts,WZ C.gs C.rs⟩ σ with
  |some z=>C.OD (jn.mk' ⟨C.ts,WZ C.gs C.rs⟩ z)
  |none=>none
section
variable {P:Program} {w w':World} {w0:Wd} {B N:Nat} {aj aA:bG} {ρ ρ':Nat->Loc} {σ:S} {a:Act} {m:Nat->ah bg}
def kO.inv{x:V}{xs ys:aa V}(k:kO (x :: xs) ys):∃ y C,ys=y :: C/\Wk x y/\kO xs C:=by
 obtain⟨D,E⟩:=k;cases ys with
 |nil=>simp at D
 |cons y C=>exact⟨y,C,rfl,E 0 x y rfl rfl,by simpa using D,λj a b L O=>E (j+1) a b (by simpa using L) (by simpa using O)⟩
def Wk.adV{x y:V}(h:Wk x y)(C:x.plain=true):y=x:=by
 cases h<;>first|rfl|cases C
def Wk.adW{x y:V}(h:Wk x y)(C:x.plain=false):y.plain=false:=by
 cases h<;>first|exact C|rfl
def W0:∀ (cs:aa Lf) (ns:aa Nat) (C ys:aa V),kB m cs ns=some C -> kO C ys -> (xH ys ns).length=cs.length /\ ∀ (j:Nat) z,(xH ys ns)[j]?=some z -> cs[j]?=some z
 | [],[],C,ys,h,E=>by
  simp only[kB,iu]at h;subst h;have:ys=[]:=List.eq_nil_of_length_eq_zero E.1.symm;subst this;exact⟨rfl,λj z L=>by simp[xH]at L⟩
 | .v x :: cs,ns,C,ys,h,E=>by
  unfold kB at h;cases D:x.plain with
  |false=>simp_all
  | true=>
   rw[D,au]at h;split at h
   ·rename_i us O;injection h with h;subst h;obtain⟨y,T,rfl,U,Y⟩:=E.inv;obtain rfl:=U.adV D;obtain⟨Z,e2⟩:=W0 cs ns us T O Y;simp only[xH,D,au]
    refine⟨by simp[Z],λj z L=>?_⟩
    cases j with
    |zero=>simp_all
    |succ j=>simp_all
   ·cases h
 | .own [r] :: cs,n :: ns,C,ys,h,E=>by
  unfold kB at h;cases hb:Nat.beq r n with
  |false=>simp_all
  | true=>
   rw[hb,au]at h;obtain rfl:=cD hb;split at h
   ·rename_i y hy;cases D:y.plain with
    |true=>simp_all
    | false=>
     rw[D,aq]at h;split at h
     ·rename_i us O;injection h with h;subst h;obtain⟨y',T,rfl,U,Y⟩:=E.inv;have hq:=U.adW D;obtain⟨Z,e2⟩:=W0 cs ns us T O Y;simp only[xH,hq,aq]
      refine⟨by simp[Z],λj z L=>?_⟩
      cases j with
      |zero=>simp_all
      |succ j=>simp_all
     ·cases h
   ·cases h
 |[],_::_,C,ys,h,_=>by simp[kB]at h
 |.dead::_,_,C,ys,h,_=>by simp[kB]at h
 |.own []::_,_,C,ys,h,_=>by simp[kB]at h
 |.own (_::_::_)::_,_,C,ys,h,_=>by simp[kB]at h
 |.own [_]::_,[],C,ys,h,_=>by simp[kB]at h
def W2{f:Nat -> ah bg}{k:Nat}{x:bg}:∀ (cs:aa Lf) (ns:aa Nat) (D ys:aa V),kB m cs ns=some D -> kO D ys -> B3 ys ns f k=some x -> f k=some x \/ ∃ v y,m k=some (.sl v)/\x = .sl y/\Wk v y
 | [],[],D,ys,h,L,C=>by
  simp only[kB,iu]at h;subst h;have:ys=[]:=List.eq_nil_of_length_eq_zero L.1.symm;subst this;exact .inl C
 | .v x' :: cs,ns,D,ys,h,L,C=>by
  unfold kB at h;cases E:x'.plain with
  |false=>simp_all
  | true=>
   rw[E,au]at h;split at h
   next us O=>injection h with h;subst h;obtain⟨y,T,rfl,U,Y⟩:=L.inv;obtain rfl:=U.adV E;simp[B3,E]at C;exact W2 cs ns us T O Y C
   ·cases h
 | .own [r] :: cs,n :: ns,D,ys,h,L,C=>by
  unfold kB at h;cases hb:Nat.beq r n with
  |false=>simp_all
  | true=>
   rw[hb,au]at h;obtain rfl:=cD hb;split at h
   ·rename_i y hy;cases E:y.plain with
    |true=>simp_all
    | false=>
     rw[E,aq]at h;split at h
     ·rename_i us O;injection h with h;subst h;obtain⟨y',T,rfl,U,Y⟩:=L.inv;have hq:=U.adW E;simp only[B3,hq,aq]at C;cases Z:Nat.beq k r with
      | true=>
       rw[Z]at C;injection C with C;obtain rfl:=cD Z
       grind
      | false=>
       rw[Z]at C;exact W2 cs ns us T O Y C
     ·cases h
   ·cases h
 |[],_::_,D,ys,h,_,_=>by simp[kB]at h
 |.dead::_,_,D,ys,h,_,_=>by simp[kB]at h
 |.own []::_,_,D,ys,h,_,_=>by simp[kB]at h
 |.own (_::_::_)::_,_,D,ys,h,_,_=>by simp[kB]at h
 |.own [_]::_,[],D,ys,h,_,_=>by simp[kB]at h
def adX:∀ (gs:aa Gp) (rs:aa (Nat×Rm)) (y:Iq gs (xE rs)),OC gs rs m=some y -> ∀ k x,OB gs rs y k=some x -> ∃ O,m k=some O /\ ∀ (w:World) (B:Nat) (aj:bG) (ρ:Nat -> Loc),dY w B aj ρ k O -> dY w B aj ρ k x
 | [],rs,y,h,k,x,C=>by
  have h:Ex rs m=some y:=h;have C:xF rs y k=some x:=C;rcases WW rs m y h k with e|⟨m',O,z,E,L,e3⟩
  ·simp_all
  ·rw[e3]at C;injection C with C;subst C;exact⟨O,E,λw B aj ρ D=>Rm.pY L D⟩
 | (n,t,o,ns) :: gs,rs,y,h,k,x,C=>by
  unfold OC at h;split at h
  ·rename_i cs hm;split at h
   ·rename_i T Z;split at h
    ·rename_i x1 y1 h1 h2;injection h with h;subst h;have hw:=lV t o T x1 h1;simp only[OB]at C;cases U:Nat.beq k n with
     | true=>
      rw[U,au]at C;injection C with C;subst C;obtain rfl:=cD U;obtain⟨E,L⟩:=W0 cs ns T _ Z hw
      refine⟨_,hm,λw B aj ρ D=>?_⟩
      cases D with
      |aC b off cells e _ us Y hl hh hs hc=>exact .aC b off cells e _ us Y hl hh (by rw[E];exact hs) λj z hz=>hc j z (L j z hz)
     | false=>
      rw[U,aq]at C;rcases W2 cs ns T _ Z hw C with e|⟨v,y',E,rfl,L⟩
      ·exact adX gs rs y1 h2 k x e
      ·refine⟨_,E,λw B aj ρ D=>?_⟩
       cases D with
       |sl u _ Y D=>exact .sl u _ Y (D.wk L)
    ·cases h
   ·cases h
  ·cases h
def bM.adY{D:bM}{x:D.St}(h:D.OD σ=some x)(C:R w0 N σ a w):R w0 N (D.mk' x) a w:=by
 unfold bM.OD at h;split at h
 ·rename_i u v O T;injection h with h;subst h;obtain⟨aj,ρ,C⟩:=C
  refine⟨aj,ρ,C.below,C.dg,λn y U=>?_,λk=>?_,C.size,C.defers,C.fix,C.dz⟩
  ·obtain⟨Y,E,L⟩:=adX D.gs D.rs v T n y U;exact L _ _ _ _ (C.root n Y E)
  ·show RA _ _ _ _ (xD D.ts u k) _;rcases WV D.ts σ.t u O k with e | ⟨m,z,E,L⟩
   ·rw[e];trivial
   ·rw[L];exact Tm.pY E (C.tmp k)
 ·cases h
def bM.pY{C:bM}{x:C.St}(h:C.rd σ=some x)(D:R w0 N σ a w):R w0 N (C.mk' x) a w:=by
 unfold bM.rd at h;split at h
 next y E=>injection h with h;subst h;exact bM.adY E D
 ·split at h
  next z L=>exact bM.adY h (jn.pY L D)
  ·cases h
end
def B4:Exit->ah Nat
 |.normal=>some 0
 |.ret=>some 1
 |.exit n=>some (n+2)
 |_=>none
def W3:Nat->Exit
 |0=>.normal
 |1=>.ret
 |n+2=>.exit n
def vC{e:Exit}{n:Nat}(h:B4 e=some n):e=W3 n:=by
 cases e<;>simp[B4]at h<;>subst h<;>rfl
def tL:aa (Nat×bM)->Type
 |[]=>Empty
 |(_,C)::r=>C.St⊕tL r
def OE:(l:aa (Nat×bM))->Nat->S->ah (tL l)
 |[],_,_=>none
 | (n,C) :: r,e,σ=>bif Nat.beq n e then (match C.rd σ with
  |some x=>some (.inl x)
  |none=>none)else (match OE r e σ with
  |some x=>some (.inr x)
  |none=>none)
def W4{X:Type}:(l:aa (Nat×bM))->tL l->(Exit->S->ah X)->ah X
 |[],z,_=>nomatch z
 | (n,C) :: r,z,k=>match z with
  |.inl x=>k (W3 n) (C.mk' x)
  |.inr z=>W4 r z k
def iter{α β:Type}(step:α->ah (α⊕β)):Nat->α->ah β
 |0,_=>none
 | n+1,x=>match step x with
  |some (.inl y)=>iter step n y
  |some (.inr z)=>some z
  |none=>none
def Ez(P:Program)(N:Nat)(Φ:ez)(Λ:nc)(body:Code)(C:bM)(D:aa (Nat×bM))(x:C.St):ah (C.St⊕tL D):=
 lI P N Φ Λ body (C.mk' x) λe σ=>match B4 e with
  | some 0=>(match C.rd σ with
   |some x=>some (.inl x)
   |none=>none)
  | some n=>(match OE D n σ with
   |some x=>some (.inr x)
   |none=>none)
  |none=>none
def W5{X:Type}(id:Nat)(k:Exit->S->ah X)(e:Exit)(σ:S):ah X:=
 match e with
 |.exit C=>if C=id then k .normal σ else k (.exit C) σ
 |e=>k e σ
def OF(id:Nat)(C:bM)(D:aa (Nat×bM))(F:C.St->ah (C.St⊕tL D))(fuel:C.St->Nat):sk:=
 ⟨λX σ k=>match C.rd σ with
  | some x=>(match iter F (fuel x) x with
   |some z=>W4 D z (W5 id k)
   |none=>none)
  |none=>none⟩
def kC:aa (Bool×TC)->Type
 |[]=>af
 |(_,t)::r=>T t×kC r
def gf:(l:aa (Bool×TC))->kC l->aa Pt
 |[],_=>[]
 |(b,t)::r,x=>(b,enc t 0 x.1)::gf r x.2
def xJ:(l:aa (Bool×TC))->aa Pt->ah (kC l)
 |[],[]=>some ()
 | (b,t) :: r,(C,D) :: ps=>bif b==C then (match dec t 0 D,xJ r ps with
  |some x,some xs=>some (x,xs)
  |_,_=>none)else none
 |_,_=>none
def gQ(ai:aa (Bool×TC))(ro:aa (Bool×TC×Nat))(F:kC ai->ah (iC ro)):iK:=
 ⟨λX args k=>match xJ ai args with
  | some x=>(match F x with
   |some y=>k (fm ro y)
   |none=>none)
  |none=>none⟩
def W7:Pt->A
 |(false,[x])=>.lf (.v x)
 |(true,xs)=>.agg (xs.map .v)
 |(false,.bool true::c::cs)=>.iZ (c::cs)
 |(false,.bool false::.int .i64 (.ofNat g)::c::cs)=>.mQ g (c::cs)
 |_=>.undef
def adZ(args:aa Pt):S:=⟨λk=>match args[k]? with
 |some p=>W7 p
 |none=>.undef,λ_=>none⟩
def pZ{X:Type}(P:Program)(N:Nat)(Φ:ez)(Λ:nc)(code:Code)(C:Array ResultVar)(args:aa Pt)(k:fR->ah X):ah X:=
 lI P N Φ Λ code (adZ args) λe σ=>match B4 e with
  |some 0=>Hl P σ C k
  |some 1=>Hl P σ C k
  |_=>none
section
variable {P:Program} {w w':World} {w0:Wd} {B N:Nat} {aj aA:bG} {ρ ρ':Nat->Loc} {σ:S} {a:Act} {X:Type} {d:Nat} {r:X} {o:Oper} {Φ:ez} {Λ:nc}
def ad0:∀ (l:aa (Nat×bM)) (e:Nat) (z:tL l),OE l e σ=some z->∀ (X:Type) (k:Exit->S->ah X),∃ E,W4 l z k=k (W3 e) E/\∀ a w,R w0 N σ a w->R w0 N E a w
 |[],e,z,h=>by cases h
 | (n,L) :: l,e,z,h=>by
  intro X k;unfold OE at h;cases C:Nat.beq n e with
  | true=>
   obtain rfl:=cD C;rw[C,au]at h;split at h
   next x D=>injection h with h;subst h;exact⟨L.mk' x,rfl,λa w O=>bM.pY D O⟩
   ·cases h
  | false=>
   rw[C,aq]at h;split at h
   next x D=>injection h with h;subst h;exact ad0 l e x D X k
   ·cases h
def aqY{id:Nat}{body:Code}{E:bM}{U:aa (Nat×bM)}{F:E.St -> ah (E.St⊕tL U)}{fuel:E.St -> Nat}(ei:fL P Φ)(p6:pW P N Λ (occs body))(hF:∀ x,Ez P N Φ Λ body E U x=F x):BU P N (.block id (.loop body)) (OF id E U F fuel):=by
 intro X σ k r w0 h a w hR;simp only[OF]at h;split at h
 ·rename_i x L;split at h
  ·rename_i z hz;refine wp_block ?_;have key:∀ (n:Nat) (x:E.St),iter F n x=some z -> ∀ (a:Act) (w:World),R w0 N (E.mk' x) a w -> ∀ (b:Frame) (O:aa Item) (cs:aa Frame),
     ∃e T w',Exit.inBlock id (λe T w'=>∃cS,k e cS=some r/\R w0 N cS T w') e T w'/\Arrives P (lone (b.at a (.code body::.inLoop body::O)) cs w) b O cs e T w':=by
    intro n
    induction n with
    |zero=>intro x L;simp[iter]at L
    | succ n ih=>
     intro x L a w hR b O cs;simp only[iter]at L;have jN:∃ y,Ez P N Φ Λ body E U x=some y/\(match y with | .inl y=>iter F n y=some z | .inr z'=>z'=z):=by
      rw[hF];split at L
      ·grind
      ·grind
      ·cases L
     obtain⟨y,hy,Y⟩:=jN;unfold Ez at hy;have hwp:=Il (w0:=w0) ei body _ _ hy p6 a w hR;obtain⟨e,a1,w1,⟨pT,D,vr⟩,Z⟩:=hwp b (.inLoop body::O) cs;split at D
     ·rename_i C;have C:=vC C;subst C;split at D
      next x1 hx1=>injection D with D;subst D;obtain⟨e2,a2,w2,Bk,aqZ⟩:=ih x1 Y a1 w1 (bM.pY hx1 vr) b O cs;exact⟨e2,a2,w2,Bk,.of_steps (Steps.trans Z (.one step_inLoop)) aqZ⟩
      ·cases D
     ·rename_i n' dc C;have C:=vC C;split at D
      ·rename_i z1 Ir;injection D with D;subst D;have Y:z1=z:=Y;subst Y;obtain⟨σ2,pI,oQ⟩:=ad0 (w0:=w0) (N:=N) U n' z1 Ir X (W5 id k);rw[pI]at h;rw[<- C]at h;refine⟨e,a1,w1,?_,?_⟩
       ·cases e with
        | exit id'=>
         simp only[W5]at h;simp only[Exit.inBlock];split at h
         ·grind
         ·grind
        |_=>exact⟨σ2,h,oQ a1 w1 vr⟩
       ·refine .pass (x:=.inLoop body) rfl (λ_ _=>.inl ?_) Z
        intro e';rw[e']at C
        match n',dc,C with
        |0,dc,_=>exact dc rfl
        |1,_,C=>cases C
        |n+2,_,C=>cases C
      ·cases D
     ·cases D
   intro b O cs;obtain⟨e,T,w',hq,Z⟩:=key (fuel x) x hz a w (bM.pY L hR) b O cs;exact⟨e,T,w',hq,.of_steps (.one step_loop) Z⟩
  ·cases h
 ·cases h
def PV.tC{key:Nat->aa Nat}{b:Bool}{xs ys:aa V}{u:Value}(h:PV w B aj key (b,xs) u)(k:kO xs ys):PV w B aj key (b,ys) u:=by
 obtain⟨us,E,L,O⟩:=h
 refine⟨us,E,L.trans k.1,λj y C=>?_⟩
 have D:j<xs.length:=by rw[k.1];exact(dQ.1 C).1
 obtain⟨v,T,U⟩:=O j _ (bZ D);exact⟨v,T,U.wk (k.2 j _ y (bZ D) C)⟩
def zg.tC{cs C:aa V}{u:Value}(h:zg w cs u)(k:kO cs C):zg w C u:=by
 obtain⟨b,off,L,O,T⟩:=h
 refine⟨b,off,L,O,λj y D=>?_⟩
 have E:j<cs.length:=by rw[k.1];exact(dQ.1 D).1
 obtain⟨v,U,Y⟩:=T j _ (bZ E);exact⟨v,U,Y.wk (k.2 j _ y (bZ E) D)⟩
def PA.tC{b:Bool}{xs ys:aa V}{u:Value}(h:PA w (b,xs) u)(k:kO xs ys):PA w (b,ys) u:=by
 cases h with
 |v _ _ h=>exact .v _ _ (h.tC k)
 | p c cs _ h=>
  obtain⟨y,E,rfl,C,D⟩:=k.inv;cases C;have h:=h.tC D;obtain⟨O,eA,rfl,_,_⟩:=D.inv;exact .p _ _ _ h
 | f g c cs u h=>
  obtain⟨y,E,rfl,C,D⟩:=k.inv;cases C;obtain⟨y,E,rfl,C,L⟩:=D.inv;cases C;have h:=h.tC L;obtain⟨O,eA,rfl,_,_⟩:=L.inv;exact .f _ _ _ _ h
def PA.ra{p:Pt}{u:Value}(h:PA w p u)(D:∀ y∈p.2,y.aF=true):RA w w.heap.size (λ_=>none) ρ (W7 p) u:=by
 have U:∀ {cs:aa V} {u:Value},zg w cs u -> (∀ y∈cs,y.aF=true) -> RF w w.heap.size (λ_=>none) cs u:=by
  rintro cs u ⟨b,off,rfl,hb,E⟩ D
  refine⟨b,off,rfl,hb,rfl,λj x Y=>⟨D x (gN Y),E j x Y⟩⟩
 cases h with
 | v _ _ h=>
  obtain⟨us,Z,hs,E⟩:=h;obtain⟨b,xs⟩:=p;cases b with
  | true=>
   refine⟨us,Z,by rw[eG];exact hs,λi y C=>?_⟩
   rw[eF]at C;cases L:xs[i]? with
   |none=>simp_all
   | some z=>
    rw[L]at C;injection C with C;subst C;obtain⟨v,O,T⟩:=E i z L;exact⟨v,O,D z (gN L),T⟩
  | false=>
   subst Z;have h1:=hs.symm;obtain⟨x,rfl⟩:=List.length_eq_one_iff.1 h1;obtain⟨v,O,T⟩:=E 0 x rfl;have:u=v:=by simpa using O
   subst this;exact⟨D x (by simp),T⟩
 |p c cs _ h=>exact U h λy C=>D y (.tail _ C)
 |f g c cs u h=>exact⟨u,rfl,U h λy C=>D y (.tail _ (.tail _ C))⟩
def W8:∀ (l:aa (Bool×TC)) (ps:aa Pt) (x:kC l),xJ l ps=some x -> (gf l x).length=ps.length /\ ∀ (i:Nat) p,(gf l x)[i]?=some p -> ∃ q,ps[i]?=some q/\q.1=p.1/\kO q.2 p.2
 |[],[],x,h=>⟨rfl,λi p C=>by simp[gf]at C⟩
 | (b,t) :: r,(E,L) :: ps,x,h=>by
  unfold xJ at h;cases D:b==E with
  |false=>simp_all
  | true=>
   rw[D,au]at h;have D:b=E:=by simpa using D
   subst D;split at h
   ·rename_i y ys O T;injection h with h;subst h;obtain⟨U,Y⟩:=W8 r ps ys T
    refine⟨by simp[gf,U],λi p C=>?_⟩
    cases i with
    |zero=>simp[gf]at C;subst C;exact⟨(b,L),rfl,rfl,lV t 0 L y O⟩
    |succ i=>exact Y i p (by simpa [gf]using C)
   ·cases h
 |[],_::_,x,h=>by simp[xJ]at h
 |_::_,[],x,h=>by simp[xJ]at h
def lJ(l:aa (Bool×TC×Nat)):Bool:=l.all λp=>Nat.ble (full p.2.1) p.2.2
def ad1(t:TC)(g:Nat)(x:T t)(h:full t <= g):(enc t g x).all V.loc=true:=by
 rw[cw];intro y D;have L:=yL t g x y D;have E:=Na t g x y D;cases y with
 | sl O C q l=>
  have U:C=g:=by simpa [V.gr]using L
  subst U;have E:=cQ E;show zh O C=true
  match C,h with
  |0,h=>omega
  |1,h=>omega
  | n+2,h=>
   simp only[zh,eB];left;exact js (by omega)
 |_=>rfl
def W9:∀ (l:aa (Bool×TC×Nat)) (ps:aa Pt) (x:iC l),lJ l=true -> pP l ps=some x -> (tq l x).length=ps.length /\ ∀ (nm:Nat -> Nat) (off:Nat) (D:aa Value),ju w B aj nm off ps D -> ju w B aj nm off (tq l x) D
 |[],[],x,_,h=>⟨rfl,λnm off D E=>E⟩
 | [(b,t,g)],[(L,D)],x,T,h=>by
  unfold pP at h;cases C:b==L with
  |false=>rw[C]at h;cases h
  | true=>
   rw[C]at h;have h:dec t g D=some x:=h;have C:b=L:=by simpa using C
   subst C;have Y:full t <= g:=by simpa [lJ]using T
   refine⟨rfl,λnm off us E=>?_⟩
   match us,E with
   |[u],⟨⟨_,O⟩,_⟩=>exact⟨⟨ad1 t g x Y,O.tC (lV t g D x h)⟩,trivial⟩
 | (b,t,g) :: q :: r,(L,D) :: ps,x,T,h=>by
  unfold pP at h;cases C:b==L with
  |false=>grind
  | true=>
   rw[C,au]at h;have C:b=L:=by simpa using C
   subst C;have U:full t <= g/\lJ (q :: r)=true:=by
    simp only[lJ,List.all_cons,aN]at T ⊢;simp_all
   split at h
   ·rename_i y ys O Z;injection h with h;subst h;obtain⟨k1,k2⟩:=W9 (q :: r) ps ys U.2 Z
    refine⟨by simp[tq,k1],λnm off us E=>?_⟩
    match us,E with
    | u :: us,⟨⟨_,hp⟩,vj⟩=>
     have hlen:=(lV t g D y O).1;refine⟨⟨ad1 t g y U.1,hp.tC (lV t g D y O)⟩,?_⟩;simp_all
   ·cases h
 |[],_::_,x,_,h=>by simp[pP]at h
 |[_],[],x,_,h=>by simp[pP]at h
 |[_],_::_::_,x,_,h=>by simp[pP]at h
 |_::_::_,[],x,_,h=>by simp[pP]at h
def ad2{l:aa (Bool×TC×Nat)}{E:fR}{x:iC l}(O:lJ l=true)(h:lG l E=some x){nm:Nat -> Nat}{v:Value}(D:pO w B aj nm E v):pO w B aj nm (fm l x) v:=by
 cases E with
 | one p=>
  obtain⟨C,L⟩:=W9 (w:=w) (B:=B) (aj:=aj) l [p] x O h;have D:ju w B aj nm 0 [p] [v]:=D;have:=L nm 0 [v] D;unfold fm
  match hm:tq l x,C,this with
  |[q],_,this=>exact this
  |[],C,_=>cases C
  |_::_::_,C,_=>simp at C
 | eS ps=>
  simp only[lG]at h;cases U:Nat.beq ps.length 1 with
  |true=>simp_all
  | false=>
   rw[U,aq]at h;obtain⟨C,L⟩:=W9 (w:=w) (B:=B) (aj:=aj) l ps x O h;obtain⟨T,e,D⟩:=D;have:=L nm 0 _ D;unfold fm
   match hm:tq l x,C,this with
   |[q],C,this=>simp_all
   |[],_,this=>exact⟨T,e,this⟩
   |_::_::_,_,this=>exact⟨T,e,this⟩
def ad3:∀ (l:aa (Bool×TC)) (x:kC l),(gf l x).length=l.length
 |[],x=>rfl
 |(b,t)::l,x=>by simp[gf,ad3 l]
def ad4:∀ (l:aa (Bool×TC)) (x:kC l) (j:Nat) (p:Pt),(gf l x)[j]?=some p->∀ y∈p.2,y.aF=true
 |[],x,j,p,C,_,_=>by simp[gf]at C
 | (b,t) :: l,x,0,p,C,y,D=>by
  simp[gf]at C;subst C;obtain⟨i,hi⟩:=List.mem_iff_getElem?.1 D;exact rJ t 0 x.1 (by omega) i y hi
 |(b,t)::l,x,j+1,p,C,y,D=>ad4 l x.2 j p (by simpa [gf]using C) y D
def Is{f:Nat}{fn:Func}{code:Code}{tM:aa Pt}{ro:aa (Bool×TC×Nat)}{y:iC ro}(hf:P.funcs[f]?=some fn)(L:fn.body=some code)(hN:fn.ntmps=N)(U:tM.length <= N)(eE:lJ ro=true)
  (ei:fL P Φ) (p6:pW P N Λ (occs code)) (aq0:∀(j:Nat) p,tM[j]?=some p -> ∀y∈p.2,y.aF=true) (O:pZ P N Φ Λ code fn.results tM (lG ro)=some y) (nm:Nat -> Nat) (w:World) (bY:Array Value) (Y:oO w tM bY) (Z:Hd w (λ_=>none)):
  Calls P f bY w λe w'=>∃v aA,e = .returned v/\Below w.heap.size w w'/\(∀b k,aA b=some k -> w.heap.size <= b/\b<w'.heap.size/\k≠[])/\pO w' w.heap.size aA nm (fm ro y) v:=by
 have U:bY.size <= N:=by rw[Y.1];exact U
 refine calls_of_wp hf L ?_;unfold pZ at O;have hR:R (.of w Z) N (adZ tM) { tmps:=bY++Array.replicate (fn.ntmps-bY.size) undef,defers:=[] } w:=by
  refine⟨λ_=>none,λ_=>.aC 0 0,.of (Below.refl w.heap.size w) (dM _),(λb k D=>by cases D),(λn y O=>by cases O),λj=>?_,by simp[hN];omega,rfl,(λr l h=>by cases h),(λ_ _=>rfl)⟩
  show RA w w.heap.size _ _ (match tM[j]? with|some p=>W7 p|none=>.undef) _;cases hp:tM[j]? with
  |none=>trivial
  | some p=>
   obtain⟨u,hu,rU⟩:=Y.2 j p hp;have hj:=(iH.1 hu).1;have e:(bY++Array.replicate (fn.ntmps-bY.size) undef).getD j undef=u:=by rw[ir,Array.getElem?_append_left hj,hu];rfl
   rw[e];exact rU.ra (aq0 j p hp)
 refine wp_mono (Il (w0:=.of w Z) ei code _ _ O p6 _ w hR) λe T w' C=>?_
 obtain⟨cS,D,aj,ρ,E⟩:=C;have fin:Hl P cS fn.results (lG ro)=some y -> T.defers=[] /\ ∃ v,(results fn T.tmps).run P w' = .ok v w' /\ ∃ zL aA,Ending.returned v=Ending.returned zL/\Below w.heap.size w w'/\(∀ b k,aA b=some k -> w.heap.size <= b/\b<w'.heap.size/\k≠[])/\pO w' w.heap.size aA nm (fm ro y) zL:=by
  intro ng;obtain⟨res,lF,dB⟩:=aok ng;obtain⟨v,aA,h1,h2,h3⟩:=dB aj ρ T w' E nm;exact⟨E.defers,v,h1,v,aA,rfl,⟨E.below.os,E.below.tape,E.below.output,E.below.size,λk D=>E.below.block k D rfl⟩,λb k L=>⟨(h2 b k L).1.resolve_right (λh=>h rfl),(h2 b k L).2⟩,ad2 eE lF h3⟩
 split at D
 next C=>have C:=vC C;subst C;exact fin D
 next C=>have C:=vC C;subst C;exact fin D
 ·cases D
def aq1{ai:aa (Bool×TC)}{args:aa Pt}{x:kC ai}{bY:Array Value}(E:xJ ai args=some x)(C:oO w args bY):oO w (gf ai x) bY:=by
 obtain⟨L,O⟩:=W8 ai args x E
 refine⟨C.1.trans L.symm,λj p T=>?_⟩
 obtain⟨q,U,D,Y⟩:=O j p T;obtain⟨u,Z,rU⟩:=C.2 j q U;refine⟨u,Z,?_⟩;obtain⟨b,ys⟩:=p;obtain⟨b',xs⟩:=q;simp only at D;subst D;exact rU.tC Y
def Xa{f:Nat}{ai:aa (Bool×TC)}{ro:aa (Bool×TC×Nat)}{F:kC ai->ah (iC ro)}(h:∀ x y,F x=some y->∀ (nm:Nat->Nat) (w:World) (bY:Array Value),oO w (gf ai x) bY->Hd w (λ_=>none)->
  Calls P f bY w λe w'=>∃v aA,e = .returned v/\Below w.heap.size w w'/\(∀b k,aA b=some k->w.heap.size<=b/\b<w'.heap.size/\k≠[])/\pO w' w.heap.size aA nm (fm ro y) v):ig P f (gQ ai ro F):=by
 refine⟨λargs X Y k g=>?_,λargs T C nm w bY D E=>?_⟩
 ·unfold gQ;dsimp only;split
  ·split<;>rfl
  ·rfl
 ·simp only[gQ]at C;split at C
  ·rename_i x L;split at C
   next y O=>injection C with C;subst C;exact h x y O nm w bY (aq1 L D) E
   ·cases C
  ·cases C
def aq2{f:Nat}{fn:Func}{code:Code}{ai:aa (Bool×TC)}{ro:aa (Bool×TC×Nat)}{F:kC ai->ah (iC ro)}(C:P.funcs[f]?=some fn)(D:fn.body=some code)(E:fn.ntmps=N)(L:(fn.name == "runtime.NumGoroutine")=false)(O:Nat.ble ai.length N=true)(T:lJ ro=true)
  (U:fL P Φ) (Y:pW P N Λ (occs code)) (Z:∀x,pZ P N Φ Λ code fn.results (gf ai x) (lG ro)=F x):enters P f/\ig P f (gQ ai ro F):=
 ⟨⟨fn,C,L,by rw[D];rfl⟩,Xa λx y hy nm w bY lE hQ=>Is C D E (by rw[ad3];exact cQ O) T U Y (ad4 ai x) ((Z x).trans hy) nm w bY lE hQ⟩
def aq3{f:Nat}{fn:Func}{code:Code}{t:TC}{g:Nat}{F:aa (T t)->ah (aa (T t))}(E:P.funcs[f]?=some fn)(L:fn.body=some code)(U:fn.ntmps=N)(B5:(fn.name == "runtime.NumGoroutine")=false)(It:Nat.ble 1 N=true)(Y:lJ [(false,.sl t,g)]=true)
  (Z:fL P Φ) (p6:pW P N Λ (occs code)) (hF:∀x:aa (T t),pZ P N Φ Λ code fn.results [(false,[.sl t 0 false x])] (lG [(false,.sl t,g)])=F x)
  (h0:pZ P N Φ Λ code fn.results [(false,[.nil])] (lG [(false,.sl t,g)])=some ([]:aa (T t))) (h1:pZ P N Φ Λ code fn.results [(false,[.sl t 0 true []])] (lG [(false,.sl t,g)])=some ([]:aa (T t))):
  enters P f/\ig P f (gQ [(false,.sl t)] [(false,.sl t,g)] λx=>bif jt x.1 then some ([]:aa (T t))else F x.1):=by
 refine⟨⟨fn,E,B5,by rw[L];rfl⟩,Xa λx y D nm w bY O hQ=>?_⟩
 obtain⟨l,_⟩:=x;have O:oO w [(false,[.sl t 0 false l])] bY:=O;have hle:1<=N:=cQ It;have OG:∀ (v:V),v.aF=true->∀ (j:Nat) p,([(false,[v])]:aa Pt)[j]?=some p->∀ y∈p.2,y.aF=true:=by
  intro v hv j p C y D;rcases j with _|j
  ·injection C with C;subst C;rw[List.mem_singleton.1 D];exact hv
  ·cases C
 obtain⟨u,hu,C⟩:=O.2 0 _ rfl;obtain⟨us,e,_,hv⟩:=C.pv;have e:us = #[u]:=e;subst e;obtain⟨v,g1,hr⟩:=hv 0 _ rfl;have g1:u=v:=by simpa using g1
 subst g1;have one:∀ v:V,RV w w.heap.size (λ_=>none) [] v u->oO w [(false,[v])] bY:=λv hr=>⟨O.1,λj p C=>by
  rcases j with _|j
  ·injection C with C;subst C;exact⟨u,hu,.v _ _ ⟨#[u],rfl,rfl,λi x hx=>by
    rcases i with _|i
    ·injection hx with hx;subst hx;exact⟨u,rfl,hr⟩
    ·cases hx⟩⟩
  ·cases C⟩
 cases l with
 |cons a l=>exact Is (tM:=[(false,[.sl t 0 false (a::l)])]) E L U hle Y Z p6 (OG _ rfl) ((hF _).trans D) nm w bY O hQ
 | nil=>
  have D:some ([]:aa (T t))=some y:=D;injection D with D;subst D;cases hr with
  |ep=>exact Is (tM:=[(false,[.nil])]) E L U hle Y Z p6 (OG _ rfl) h0 nm w bY (one _ (.nil _)) hQ
  |fA _ _ _ A c ho=>exact Is (tM:=[(false,[.sl t 0 true []])]) E L U hle Y Z p6 (OG _ rfl) h1 nm w bY (one _ (.fK _ _ _ _ _ ho)) hQ
  |aF _ _ _ qn l b off cap us ho hl DU hB iJ hc mS=>exact Is (tM:=[(false,[.sl t 0 true []])]) E L U hle Y Z p6 (OG _ rfl) h1 nm w bY (one _ (.fK _ _ _ _ _ ho)) hQ
end
def Iu(N:Nat)(σ:S)(t:Nat):S:=match σ.t t with
 | .view [q] s 0 j=>bif Nat.blt t N then (match σ.m q with
  |some (.sl (.sl C (o+2) D l))=>bif Nat.beq (full C) 0 then (((σ.drop q).drop t).root t (.sl (.sl C 2 false (l.take j)))).set t (.lf (.own [t]))else σ
  |_=>σ)else σ
 |_=>σ
def vD(N:Nat)(σ:S):aa ResultVar->S
 |[]=>σ
 |.tmp t::r=>vD N (Iu N σ t) r
 |_::r=>vD N σ r
def B6{X:Type}(P:Program)(N:Nat)(Φ:ez)(Λ:nc)(code:Code)(C:Array ResultVar)(D:aa In)(args:aa Ar)(k:aa In->fR->ah X):ah X:=
 lI P N Φ Λ code (Bt D args) λe σ=>match B4 e with
  |some 0=>Hu P (vD N σ C.toList) C D k
  |some 1=>Hu P (vD N σ C.toList) C D k
  |_=>none
section
variable {P:Program} {w w':World} {w0:Wd} {B N:Nat} {aj aA:bG} {ρ ρ':Nat->Loc} {σ:S} {a:Act} {X:Type} {d:Nat} {r:X} {o:Oper} {Φ:ez} {Λ:nc}
def Rl.Iu{t:Nat}(h:Rl w0 N aj ρ σ a w):∃ aA ρ',Rl w0 N aA ρ' (Proofs.YtnilicojgkhpnaaGreat.Iu N σ t) a w:=by
 unfold Proofs.YtnilicojgkhpnaaGreat.Iu;split
 ·rename_i q s j ht;cases hN:Nat.blt t N with
  |false=>exact⟨aj,ρ,h⟩
  | true=>
   have hN:t<N:=by have:=cQ hN;omega
   rw[au];split
   ·rename_i E g qn l hm;cases Y:Nat.beq (full E) 0 with
    |false=>exact⟨aj,ρ,h⟩
    | true=>
     have Y:=cD Y;rw[au];have hv:=h.tmp t;rw[ht]at hv;obtain⟨A,n,c,ic,_,hj,hu⟩:=hv;have fW:sliced A 0 j c s = .slice A j c:=by cases A<;>simp[sliced,Addr.add]
     rw[fW]at hu;let D:bG:=λb=>match aj b with
      |some k=>bif cU q k then (bif Nat.beq k.length 1 then some [t]else none)else some k
      |none=>none
     have hrel:Rel q aj D:=⟨h.wT,λb hb=>by simp[D,hb],λb k hb C=>by simp[D,hb,C]⟩
     have h1:=h.rel hrel (λb k C=>by
      simp only[D]at C;cases Z:aj b with
      |none=>rw[Z]at C;cases C
      | some k'=>
       rw[Z]at C;simp only at C;refine⟨⟨_,rfl⟩,?_⟩;cases hq:cU q k' with
       | true=>
        rw[hq,au]at C;cases hlen:Nat.beq k'.length 1 with
        |true=>rw[hlen,au]at C;injection C with C;rw[<- C];simp
        |false=>rw[hlen,aq]at C;cases C
       | false=>
        rw[hq,aq]at C;injection C with C;subst C;exact(h.dg b k' Z).2.2)
     have eE:=h.root q _ hm;generalize O:bg.sl (.sl E (g+2) qn l)=z at eE;cases eE with
     |aC=>cases O
     |mp=>cases O
     |gh=>cases O
     | sl v y cz T=>
      injection O with O;subst O;simp only[c8,cz]at ic;injection ic with ic;subst ic;have hn:n=l.length:=by cases T<;>rfl
      have aq4:RV w w0.heap.size D [t] (.sl E 2 false (l.take j)) (.slice A j c):=by
       cases T with
       | ep=>
        have:j=0:=by simpa using hj
        subst this;exact .ep _ _ _
       |fA _ _ _ _ _ ho=>omega
       |fK _ _ _ _ _ ho=>omega
       |aF _ _ _ _ _ _ _ _ _ ho=>omega
       | own _ _ _ _ _ b cap cs us pM hh hs vf rK hc T=>
        have Z:(l.take j).length=j:=by rw[fJ];omega
        have hle:∀i (hi:i<(l.take j).length),∃rZ:i<l.length,(l.take j)[i]=l[i]:=λi hi=>⟨by omega,List.getElem_take⟩
        have:=RV.own (w:=w) (B:=w0.heap.size) (aj:=D) [t] E 0 false (l.take j) b c cs us (by simp[D,pM,cU]) hh hs (by omega) ⟨rK.1,λh=>by cases h⟩ (λi hi k x U=>by
         obtain⟨rZ,e⟩:=hle i hi;rw[e,DY E Y 0]at U;exact hc i rZ k x U) (λi hi k x U=>by
         obtain⟨rZ,e⟩:=hle i hi;rw[e,DY E Y 0]at U;exact(T i rZ k x U).sW (yK E g _ Y x (gN U)))
        rw[Z]at this;exact this
      have hrm:DV w w D D t:=⟨dM _,λ_ _ _=>rfl,λ_ _=>rfl,h1.wT⟩
      have L:=h1.yT (d:=t) (ρ':=cc ρ t (.dX (.slice A j c))) (x:=.sl (.sl E 2 false (l.take j))) (h.dz t (.inl hN)) ⟨rfl,rfl,rfl,dM _,λ_ _ _=>rfl⟩ hrm (λb k hb C=>by
       have:=(h1.dg b k C).2.1;omega) (λr T=>cM _ _ _ T) (.sl _ _ (cm _ _ _) aq4)
      refine⟨_,_,L.below,L.dg,L.root,λk=>?_,L.size,L.defers,L.fix,L.dz⟩
      show RA w w0.heap.size D _ (cc _ t _ k) _;by_cases C:k=t
      ·subst C;rw[cm,hu];exact⟨rfl,by simp only[c8,cm]⟩
      ·rw[cM _ _ _ C];exact L.tmp k
   ·exact⟨aj,ρ,h⟩
 ·exact⟨aj,ρ,h⟩
def Rl.vD:∀ (l:aa ResultVar) (σ:S) (aj:bG) (ρ:Nat -> Loc),Rl w0 N aj ρ σ a w -> ∃ aA ρ',Rl w0 N aA ρ' (Proofs.YtnilicojgkhpnaaGreat.vD N σ l) a w
 |[],_,aj,ρ,h=>⟨aj,ρ,h⟩
 | .tmp t :: r,_,_,_,h=>by
  obtain⟨C,D,E⟩:=h.Iu;exact Rl.vD r _ C D E
 |.cell _ _::r,_,aj,ρ,h=>Rl.vD r _ aj ρ h
def fnM_core{f:Nat}{fn:Func}{code:Code}{C:aa In}{args:aa Ar}{k:aa In -> fR -> ah X}(hf:P.funcs[f]?=some fn)(U:fn.body=some code)(hN:fn.ntmps=N)(Iv:N <= 20000)(hlen:args.length <= N)
  (ei:fL P Φ) (p6:pW P N Λ (occs code)) (h:B6 P N Φ Λ code fn.results C args k=some r) (nm:Nat -> Nat) (w:World) (aj:bG) (ρ:Nat -> Loc) (bY:Array Value)
  (hE:oR w w.heap.size aj ρ 0 C) (kP:∀b k,aj b=some k -> b<w.heap.size/\k≠[]) (gG:bY.size=args.length) (hv:∀i,RA w w.heap.size aj ρ ((Bt C args).t i) (bY.getD i undef)) (Y:Hd w aj):
  Calls P f bY w λe w'=>∃v aA outs D,k outs D=some r/\e = .returned v/\ja ⟨w,aj,λ_=>none,Y,λ_ _=>rfl⟩ w w'/\(∀b k,aA b=some k -> (w.heap.size <= b \/ aj b≠none)/\b<w'.heap.size/\k≠[])/\pO w' w.heap.size aA nm D v/\qK w w' aA ρ nm 0 D.len C outs:=by
 let W:Wd:=⟨w,aj,λr=>if 20000 <= r/\r<60000 then some (ρ r)else none,Y,λr hr=>bX⟩
 refine calls_of_wp hf U ?_;unfold B6 at h;have hR:R W N (Bt C args) { tmps:=bY++Array.replicate (fn.ntmps-bY.size) undef,defers:=[] } w:=by
  refine⟨aj,ρ,.of (Below.refl w.heap.size w) (dM _),λb k U=>⟨.inr (by rw[show W.L b=aj b from rfl,U];simp),kP b k U⟩,oR.roots C 0 _ hE (λr x hx=>by cases hx),λj=>?_,by simp[hN];omega,rfl,λr l hr=>?_,λr hr=>?_⟩
  ·by_cases hj:j<bY.size
   ·have e:(bY++Array.replicate (fn.ntmps-bY.size) undef).getD j undef=bY.getD j undef:=by
     rw[ir,Array.getElem?_append_left hj,ir]
    rw[e];exact hv j
   ·have e:(Bt C args).t j = .undef:=by
     simp only[Bt,List.getElem?_eq_none (by omega:args.length <= j)]
    rw[e];trivial
  ·grind
  ·grind
 refine wp_mono (Il (w0:=W) ei code _ _ h p6 _ w hR) λe Z w' E=>?_
 obtain⟨cS,T,Hq,td,O⟩:=E;have fin:Hu P (Proofs.YtnilicojgkhpnaaGreat.vD N cS fn.results.toList) fn.results C k=some r -> Z.defers=[] /\ ∃ v,(results fn Z.tmps).run P w' = .ok v w' /\ ∃ zL aA outs D,k outs D=some r/\Ending.returned v=Ending.returned zL/\ja ⟨w,aj,λ_=>none,Y,λ_ _=>rfl⟩ w w'/\(∀ b k,aA b=some k -> (w.heap.size <= b \/ aj b≠none)/\b<w'.heap.size/\k≠[])/\pO w' w.heap.size aA nm D zL/\qK w w' aA ρ nm 0 D.len C outs:=by
  intro ng;obtain⟨outs,D,hko,dB⟩:=aom (w0:=W) rfl (λr h1 h2=>bL ⟨h1,h2⟩) (oR.Vl C 0 hE) ng;obtain⟨dI,eU,oQ⟩:=Rl.vD _ cS Hq td O;obtain⟨v,aA,h1,h2,h3,h4⟩:=dB dI eU Z w' oQ nm;exact⟨O.defers,v,h1,v,aA,outs,D,hko,rfl,⟨O.below.os,O.below.tape,O.below.output,O.below.size,λk T=>O.below.block k T⟩,h2,h3,h4⟩
 split at T
 next E=>have E:=vC E;subst E;exact fin T
 next E=>have E:=vC E;subst E;exact fin T
 ·cases T
end
def qR:(l:aa (Bool×TC×Nat))->aa In->ah (rT l)
 |[],[]=>some ()
 | (true,t,g) :: r,.aC cs :: is=>match dec t g cs,qR r is with
  |some x,some xs=>some (x,xs)
  |_,_=>none
 | (false,t,g) :: r,.sl y :: is=>match (bif Nat.ble 1000000 g then (bif y.jK then none else y.ff t (g+2))else bif y.jK then y.ff t (g+2)else none),qR r is with
  |some x,some xs=>some (x,xs)
  |_,_=>none
 |_,_=>none
def OH:aa In->aa In->aa In->Prop
 |[],[],[]=>True
 |.aC L::C,.aC cs::r,.aC eA::D=>(kO cs eA/\L.map (λv=>(v.plain,v.aF))=eA.map (λv=>(v.plain,v.aF))/\∀x∈eA,x.jK=true)/\OH C r D
 |.sl _::C,.sl y::r,.sl E::D=>(Wk y E/\(y = .nil->E = .nil))/\OH C r D
 |_,_,_=>False
def OI:∀ (ps:aa PK) (C:lZ ps) (is:aa In) (x:rT (fh ps)),qR (fh ps) is=some x -> OH (mW ps C) is (kR (fh ps) x)
 |[],_,[],x,_=>trivial
 |[],_,_::_,x,h=>by simp[qR,fh]at h
 |.v b t::ps,C,is,x,h=>OI ps C.2 is x h
 |.p t g off::ps,C,[],x,h=>by simp[qR,fh]at h
 |.s t g::ps,C,[],x,h=>by simp[qR,fh]at h
 |.p t g off::ps,C,.sl _::_,x,h=>by simp[qR,fh]at h
 |.s t g::ps,C,.aC _::_,x,h=>by simp[qR,fh]at h
 | .p t g off :: ps,C,.aC cs :: is,x,h=>by
  have h:qR ((true,t,g)::fh ps) (.aC cs::is)=some x:=h;unfold qR at h;split at h
  next y ys D L=>injection h with h;subst h;exact⟨⟨lV t g cs y D,ano t g C.1 y,λz O=>Ug t g y z O⟩,OI ps C.2 is ys L⟩
  ·cases h
 | .s t g :: ps,C,.sl y :: is,x,h=>by
  have h:qR ((false,t,g)::fh ps) (.sl y::is)=some x:=h;unfold qR at h;split at h
  ·rename_i z T D L;injection h with h;subst h;refine⟨?_,OI ps C.2 is T L⟩;cases U:Nat.ble 1000000 g with
   | true=>
    cases E:y.jK with
    |true=>simp_all
    | false=>
     have:y = .nil:=by cases y<;>first|rfl|cases E
     subst this;exact⟨.same _,λ_=>rfl⟩
   | false=>
    cases E:y.jK with
    |false=>simp_all
    | true=>
     rw[U,E]at D;exact⟨V.GF D,λe=>by subst e;cases E⟩
  ·cases h
def qK.typed{w w':World}{aA:bG}{ρ:Nat -> Loc}{nm:Nat -> Nat}:∀ (E:aa In) (i Y:Nat) (outs T:aa In),qK w w' aA ρ nm i Y E outs -> OH E outs T -> Ht w w' aA ρ nm i Y E T
 |[],i,Y,[],[],h,C=>trivial
 | .aC cs0 :: E,i,Y,.aC cs1 :: outs,.aC cs2 :: T,h,C=>by
  obtain⟨⟨b,off,cells,xd,e,e',Z,h2,h3,h4,h5,h6,h7⟩,hr⟩:=h;obtain⟨⟨U,Xb,hnn⟩,oL⟩:=C
  refine⟨⟨b,off,cells,xd,e,e',Z,h2,h3,h4,by rw[<- U.1];exact h5,by rw[<- U.1];exact h6,λj x hx=>?_⟩,qK.typed E _ _ outs T hr oL⟩
  have hj:j<cs1.length:=by rw[U.1];exact(dQ.1 hx).1
  obtain⟨u,hu,hc⟩:=h7 j _ (bZ hj);have C:=U.2 j _ x (bZ hj) hx;have Xc:∀ L,cs0[j]?=some L -> L.plain=x.plain/\L.aF=x.aF:=by
   intro L h0;have e1:(cs0.map (λv=>(v.plain,v.aF)))[j]?=(cs2.map (λv=>(v.plain,v.aF)))[j]?:=by rw[Xb]
   grind
  have hxn:=hnn x (gN hx);generalize cs1[j]=y at hc C;refine⟨u,hu,?_⟩;rcases hc with ⟨D,O⟩|⟨D,O,L,c3,c4⟩|⟨D,O,c6,⟨L,c3,c4⟩,c5⟩|⟨D,O⟩
  ·cases C with
   |same=>grind
   |nil t o=>cases D
   |q t o l=>cases D
   |gr=>cases D
  ·subst D O;have hf:x.aF=false:=by rw[<- (Xc L c3).2];exact c4
   cases C with
   |same=>cases hxn
   |nil t o=>exact .inr (.inr ⟨hf,.ep _ _ _⟩)
  ·cases C with
   |same=>grind
   |nil t o=>cases c6
   |q t o l=>exact .inr (.inl ⟨rfl,O,c5⟩)
   |gr t o o' qn l Z h2=>simp[V.aF]at O;omega
  ·have hf:=C.acd D;exact .inr (.inr ⟨hf,O.wk C⟩)
 | .sl y0 :: E,i,Y,.sl y1 :: outs,.sl y2 :: T,h,C=>by
  obtain⟨h,hr⟩:=h;obtain⟨⟨U,hn⟩,oL⟩:=C;exact⟨h.imp hn (λ⟨v,Z,h2⟩=>⟨v,Z,h2.wk U⟩),qK.typed E _ _ outs T hr oL⟩
 |[],_,_,_::_,_,h,_=>h.elim
 |[],_,_,[],_::_,_,h=>h.elim
 |.aC _::_,_,_,[],_,h,_=>h.elim
 |.sl _::_,_,_,[],_,h,_=>h.elim
 |.aC _::_,_,_,.sl _::_,_,h,_=>h.elim
 |.sl _::_,_,_,.aC _::_,_,h,_=>h.elim
 |.aC _::_,_,_,.aC _::_,[],_,h=>h.elim
 |.aC _::_,_,_,.aC _::_,.sl _::_,_,h=>h.elim
 |.sl _::_,_,_,.sl _::_,[],_,h=>h.elim
 |.sl _::_,_,_,.sl _::_,.aC _::_,_,h=>h.elim
def ad5:∀ (l:aa (Bool×TC×Nat)) (ps:aa Pt) (x:iC l),pP l ps=some x -> (ps.map λp=>p.2.length)=((tq l x).map λp=>p.2.length)
 |[],[],x,h=>rfl
 | [(b,t,g)],[(D,E)],x,h=>by
  unfold pP at h;cases C:b==D with
  |false=>rw[C]at h;cases h
  | true=>
   rw[C]at h;simp[tq,(lV t g E x h).1]
 | (b,t,g) :: q :: r,(D,E) :: ps,x,h=>by
  unfold pP at h;cases C:b==D with
  |false=>simp_all
  | true=>
   rw[C]at h;split at h
   next y ys L O=>injection h with h;subst h;simp only[tq,List.map_cons];rw[ad5 _ ps ys O,(lV t g E y L).1]
   ·cases h
def aq5{l:aa (Bool×TC×Nat)}{C:fR}{x:iC l}(h:lG l C=some x):C.len=(fm l x).len:=by
 have key:∀ ps,pP l ps=some x -> (ps.map λp=>p.2.length).sum=(fm l x).len:=by
  intro ps h;rw[ad5 l ps x h];unfold fm
  match hm:tq l x with
  |[q]=>simp[fR.len]
  |[]=>rfl
  |_::_::_=>rfl
 cases C with
 |one p=>have:=key [p] h;simpa [fR.len]using this
 | eS ps=>
  simp only[lG]at h;cases D:Nat.beq ps.length 1 with
  |true=>simp_all
  |false=>rw[D]at h;exact key ps h
section
variable {P:Program} {w w':World} {w0:Wd} {B N:Nat} {aj aA:bG} {ρ ρ':Nat->Loc} {σ:S} {a:Act} {X:Type} {d:Nat} {r:X} {o:Oper} {Φ:ez} {Λ:nc}
def EA(l ro:aa (Bool×TC×Nat))(outs:aa In)(C:fR):ah (iC ro×rT l):=
 match lG ro C,qR l outs with
 |some x,some y=>some (x,y)
 |_,_=>none
def OJ{f:Nat}{fn:Func}{code:Code}{ps:aa PK}{ro:aa (Bool×TC×Nat)}{F:lZ ps->ah (iC ro×rT (fh ps))}(L:P.funcs[f]?=some fn)(O:fn.body=some code)(U:fn.ntmps=N)(Y:(fn.name == "runtime.NumGoroutine")=false)(Z:Nat.ble ps.length N=true)(Iv:Nat.ble N 20000=true)(eE:lJ ro=true)
  (ei:fL P Φ) (p6:pW P N Λ (occs code)) (hF:∀x,B6 P N Φ Λ code fn.results (mW ps x) (jO ps 0 x) (EA (fh ps) ro)=F x):enters P f/\tu P f ⟨ps,ro,F⟩:=by
 refine⟨⟨fn,L,Y,by rw[O];rfl⟩,λx y h nm w aj ρ bY hE kP D hv hQ=>?_⟩
 have h:F x=some y:=h;rw[<-hF x]at h;have hlen:∀ (ps:aa PK) (i:Nat) (x:lZ ps),(jO ps i x).length=ps.length:=by
  intro ps
  induction ps with
  |nil=>intro i x;rfl
  | cons p ps E=>
   intro i x;cases p with
   |v=>exact aY (· + 1) (E _ _)
   |p=>exact aY (· + 1) (E _ _)
   |s=>exact aY (· + 1) (E _ _)
 have D:bY.size=(jO ps 0 x).length:=by rw[hlen];exact D
 refine(fnM_core L O U (cQ Iv) (by rw[hlen];exact cQ Z) ei p6 h nm w aj ρ bY hE kP D hv hQ).mono λe w' tf=>?_
 obtain⟨v,aA,outs,res,C,he,kz,hl,lF,VA⟩:=tf;unfold EA at C;split at C
 next y1 y2 T h2=>injection C with C;subst C;refine⟨v,aA,he,kz,hl,ad2 eE T lF,?_⟩;rw[<-aq5 T];exact qK.typed _ _ _ _ _ VA (OI ps x outs y2 h2)
 ·cases C
end
set_option maxRecDepth 100000
section
variable {P:Program} {w w':World} {w0:Wd} {B N:Nat} {aj aA:bG} {ρ ρ':Nat->Loc} {σ:S} {a:Act} {X:Type} {d:Nat} {r:X} {o:Oper} {Φ:ez} {Λ:nc}
end
def nV(i j:Nat):Nat:=20001+1000*i+j
def EB(i j:Nat)(x:V):Lf:=match x with
 |.sl ..=>.own [nV i j]
 |x=>.v x
def xK(i:Nat):Nat->aa V->aa Lf
 |_,[]=>[]
 |j,x::xs=>EB i j x::xK i (j+1) xs
def Xd(args:aa Pt)(n:Nat):ah bg:=bif Nat.ble 20001 n&&Nat.blt n 60000 then (match args[(n-20001) / 1000]? with
 | some (_,xs)=>(match xs[(n-20001) % 1000]? with
  |some (.sl t g q l)=>some (.sl (.sl t g q l))
  |_=>none)
 |none=>none)else none
def ad6(args:aa Pt):S:=⟨λi=>match args[i]? with
 |some (false,[x])=>.lf (EB i 0 x)
 |some (true,xs)=>.agg (xK i 0 xs)
 |_=>.undef,Xd args⟩
def OL(σ:S)(C:Array ResultVar)(a j:Nat)(t:TC):ah (Nat×Nat):=match C.toList with
 | [.tmp s]=>(match σ.t s with
  |.view [n] D i k=>bif Nat.beq n (nV a j)&&Nat.beq D (aD t)then some (i,k)else none
  |_=>none)
 |_=>none
def ad7(P:Program)(N:Nat)(Φ:ez)(Λ:nc)(code:Code)(C:Array ResultVar)(a j:Nat)(t:TC)(args:aa Pt):ah (Nat×Nat):=
 lI P N Φ Λ code (ad6 args) λe σ=>match B4 e with
  |some 0=>OL σ C a j t
  |some 1=>OL σ C a j t
  |_=>none
def Xe(ai:aa (Bool×TC))(a j:Nat)(t:TC)(F:kC ai->ah (Nat×Nat)):BI:=⟨a,j,t,λargs=>match xJ ai args with
 |some x=>F x
 |none=>none⟩
section
variable {P:Program} {w w':World} {w0:Wd} {B N:Nat} {aj aA:bG} {ρ ρ':Nat->Loc} {σ:S} {a:Act} {X:Type} {d:Nat} {r:X} {o:Oper} {Φ:ez} {Λ:nc}
def ad8(i:Nat):∀ (xs:aa V) (C j:Nat),(xK i C xs)[j]?=(xs[j]?).map λx=>EB i (C+j) x
 |[],C,j=>by simp[xK]
 |x::xs,C,0=>by simp[xK]
 | x :: xs,C,j+1=>by
  simp[xK,List.getElem?_cons_succ,ad8]
  grind
def ad9(i:Nat):∀ (xs:aa V) (C:Nat),(xK i C xs).length=xs.length
 |[],_=>rfl
 |x::xs,C=>by simp[xK,ad9 i xs (C+1)]
def aea{i j:Nat}(h:j<1000):(nV i j-20001) / 1000=i/\(nV i j-20001) % 1000=j:=by
 unfold nV;omega
def zM(bY:Array Value)(n:Nat):Loc:=.dX ((tE bY ((n-20001) / 1000) ((n-20001) % 1000)).getD undef)
def aeb{bY:Array Value}{i j:Nat}{x:V}{u:Value}(D:j<1000)(E:tE bY i j=some u)(L:x.aF=true)(C:RV w B (λ_=>none) [] x u):dU w B (λ_=>none) (zM bY) (EB i j x) u:=by
 unfold EB;split
 ·refine⟨C.mP rfl rfl,?_⟩;obtain⟨O,T⟩:=aea (i:=i) D;simp only[c8,zM,O,T,E];rfl
 ·exact⟨L,C⟩
def aq6{f:Nat}{fn:Func}{code:Code}{ai:aa (Bool×TC)}{O T:Nat}{t:TC}{F:kC ai -> ah (Nat×Nat)}(hf:P.funcs[f]?=some fn)(hb:fn.body=some code)(hN:fn.ntmps=N)(B5:(fn.name == "runtime.NumGoroutine")=false)(It:Nat.ble ai.length N=true)(Iv:Nat.ble N 20000=true)(gG:(ai.all λp=>Nat.blt (aD p.2) 1000&&(p.1 || Nat.beq (aD p.2) 1))=true)(hjj:Nat.blt T 1000=true)(haa:Nat.blt O 30=true)
  (ei:fL P Φ) (p6:pW P N Λ (occs code)) (hF:∀x,ad7 P N Φ Λ code fn.results O T t (gf ai x)=F x):enters P f/\N1 P f (Xe ai O T t F):=by
 refine⟨⟨fn,hf,B5,by rw[hb];rfl⟩,λargs p h w bY lE hQ=>?_⟩
 simp only[Xe]at h;split at h
 ·rename_i x hx;obtain⟨k1,k2⟩:=W8 ai args x hx;have hlen:∀ (l:aa (Bool×TC)) (x:kC l),(gf l x).length=l.length:=by
   intro l
   induction l with
   |nil=>intro x;rfl
   |cons p l ih=>obtain⟨b,t⟩:=p;intro x;simp[gf,ih]
  have ic:bY.size=ai.length:=by rw[lE.1,<- k1,hlen]
  have hle:bY.size <= N:=by rw[ic];exact cQ It
  have Iv:=cQ Iv;have xz:∀ (l:aa (Bool×TC)) (x:kC l),(l.all λp=>Nat.blt (aD p.2) 1000&&(p.1 || Nat.beq (aD p.2) 1))=true -> ∀ (j:Nat) p,(gf l x)[j]?=some p -> (∀ y∈p.2,y.aF=true)/\p.2.length<1000/\(p.1=true \/ p.2.length=1):=by
   intro l
   induction l with
   |nil=>intro x _ j p U;simp[gf]at U
   | cons c l ih=>
    obtain⟨b,t⟩:=c;intro x hs j p U;rw[List.all_cons,aN]at hs;cases j with
    | zero=>
     simp[gf]at U;subst U
     refine⟨λy C=>?_,?_⟩
     ·obtain⟨i,hi⟩:=List.mem_iff_getElem?.1 C;exact rJ t 0 x.1 (by omega) i y hi
     ·show (enc t 0 x.1).length<1000/\(b=true \/ (enc t 0 x.1).length=1);rw[ko];have h8:=hs.1;rw[aN,eB]at h8;have h9:=cQ h8.1;exact⟨h9,h8.2.imp id cD⟩
    |succ j=>exact ih x.2 hs.2 j p (by simpa [gf]using U)
  have pL:∀ (i:Nat) (p:Pt),(gf ai x)[i]?=some p -> ∃ u:Value,bY[i]?=some u/\PV w w.heap.size (λ_=>none) (λ_=>[]) p u/\(∀ y∈p.2,y.aF=true)/\p.2.length<1000:=by
   intro i p U;obtain⟨q,hq,DZ,Bk⟩:=k2 i p U;obtain⟨u,Y,rU⟩:=lE.2 i q hq;obtain⟨g1,g2,g3⟩:=xz ai x gG i p U;refine⟨u,Y,?_,g1,g2⟩;obtain⟨b,ys⟩:=p;obtain⟨b',xs⟩:=q;simp only at DZ;subst DZ;have hw:=rU.tC Bk;rcases g3 with g3|g3
   ·simp only at g3;subst g3;exact hw.pvS
   ·obtain⟨y,rfl⟩:=List.length_eq_one_iff.1 g3;cases b' with
    |true=>exact hw.pvS
    |false=>exact hw.pv
  have Xf:∀ (i:Nat) (p:Pt),(gf ai x)[i]?=some p -> ∀ (j:Nat) y,p.2[j]?=some y -> ∃ u,tE bY i j=some u/\RV w w.heap.size (λ_=>none) [] y u/\y.aF=true/\j<1000:=by
   intro i p U j y C;obtain⟨u,Y,⟨us,D,h2,h3⟩,h4,h5⟩:=pL i p U;obtain⟨v,E,L⟩:=h3 j y C;refine⟨v,?_,L,h4 y (gN C),by have:=(dQ.1 C).1;omega⟩;unfold tE;rw[Y];obtain⟨b,ys⟩:=p;cases b with
   | true=>
    have D:u = .agg us:=D;subst D;exact E
   | false=>
    have D:us = #[u]:=D;subst D;have hj:j=0:=by
     have:=(iH.1 E).1
     simpa using this
    subst hj;have:u=v:=by simpa using E
    subst this;have vu:∀ us,u ≠ .agg us:=by
     rintro us rfl;cases L
    cases u<;>first|exact absurd rfl (vu _)|rfl
  let W:Wd:=⟨w,λ_=>none,λr=>if 20000 <= r/\r<60000 then some (zM bY r)else none,hQ,λr L=>bX⟩
  refine calls_of_wp hf hb ?_;rw[<- hF x]at h;unfold ad7 at h;have hR:R W N (ad6 (gf ai x)) { tmps:=bY++Array.replicate (fn.ntmps-bY.size) undef,defers:=[] } w:=by
   refine⟨λ_=>none,zM bY,.of (Below.refl w.heap.size w) (dM _),(λb k hk=>by cases hk),(λn y C=>?_),λi=>?_,by simp[hN];omega,rfl,λr l L=>?_,λr L=>?_⟩
   ·have C:Xd (gf ai x) n=some y:=C;unfold Xd at C;cases hb:(Nat.ble 20001 n&&Nat.blt n 60000)with
    |false=>rw[hb]at C;cases C
    | true=>
     rw[hb,au]at C;split at C
     ·rename_i b xs U;split at C
      next t' g q l hl=>injection C with C;subst C;obtain⟨u,Y,L,vb,_⟩:=Xf _ _ U _ _ hl;refine .sl u _ ?_ (L.key vb);unfold zM;simp[*]
      ·cases C
     ·cases C
   ·show RA w w.heap.size _ _ (match (gf ai x)[i]? with | some (false,[x])=>A.lf (EB i 0 x) | some (true,xs)=>.agg (xK i 0 xs) | _=>.undef) _;have DN:∀ p:Pt,(gf ai x)[i]?=some p -> ∃ u:Value,bY[i]?=some u/\(bY++Array.replicate (fn.ntmps-bY.size) undef).getD i undef=u:=by
     intro p U;obtain⟨u,Y,_⟩:=pL i p U;have hi:=(iH.1 Y).1;exact⟨u,Y,by rw[ir,Array.getElem?_append_left hi,Y];rfl⟩
    split
    ·rename_i x' lC;obtain⟨u,Y,e⟩:=DN _ lC;rw[e];obtain⟨v,E,L,vb,_⟩:=Xf i _ lC 0 x' rfl;have Hr:u=v:=by
      unfold tE at E;rw[Y]at E;obtain⟨u2,qH,⟨us,D,h2,h3⟩,_⟩:=pL i _ lC;rw[Y]at qH;injection qH with qH;subst qH;have D:us = #[u]:=D;subst D;obtain⟨v3,hv3,hr3⟩:=h3 0 x' rfl;have:u=v3:=by simpa using hv3
      subst this;have vu:∀ us,u ≠ .agg us:=by
       rintro us rfl;cases hr3
      cases u<;>first|exact absurd rfl (vu _)|(simp only[show Nat.beq 0 0=true from rfl,au,iu]at E;exact E)
     subst Hr;exact aeb (by omega) E vb L
    ·rename_i xs lC;obtain⟨u,Y,e⟩:=DN _ lC;rw[e];obtain⟨u2,qH,⟨us,D,h2,h3⟩,_⟩:=pL i _ lC;rw[Y]at qH;injection qH with qH;subst qH;have D:u = .agg us:=D
     refine⟨us,D,by rw[ad9];exact h2,λj y C=>?_⟩
     rw[ad8]at C;cases hz:xs[j]? with
     |none=>rw[hz]at C;cases C
     | some z=>
      rw[hz]at C;injection C with C;subst C;obtain⟨v,E,L,vb,hj⟩:=Xf i _ lC j z hz;have huj:us[j]?=some v:=by
       unfold tE at E;rw[Y,D]at E;exact E
      refine⟨v,huj,?_⟩;rw[fk];exact aeb hj E vb L
    ·trivial
   ·have L:(if 20000 <= r/\r<60000 then some (zM bY r)else none)=some l:=L;split at L
    ·injection L
    ·cases L
   ·show (if 20000 <= r/\r<60000 then some (zM bY r)else none)=none;rw[bX]
  refine wp_mono (Il (w0:=W) ei code _ _ h p6 _ w hR) λe a' w' he=>?_
  obtain⟨cS,hk,Hq,td,dD⟩:=he;have fin:OL cS fn.results O T t=some p -> a'.defers=[] /\ ∃ u,(results fn a'.tmps).run P w' = .ok u w' /\ ∃ A n cap,tE bY O T=some (.slice A n cap)/\p.1 <= p.2/\p.2 <= n/\Ending.returned u = .returned (sliced A p.1 p.2 cap (aD t))/\Below w.heap.size w w':=by
   intro ng;unfold OL at ng;split at ng
   ·rename_i s hs;split at ng
    ·rename_i n sz i k E;cases gJ:(Nat.beq n (nV O T)&&Nat.beq sz (aD t))with
     |false=>rw[gJ]at ng;cases ng
     | true=>
      rw[gJ,au]at ng;injection ng with ng;subst ng;rw[aN]at gJ;have hn:=cD gJ.1;have aq7:=cD gJ.2;subst hn aq7;have D:=dD.tmp s;rw[E]at D;obtain⟨A,m,c,Z,e2,e3,e4⟩:=D;have hjj:=cQ hjj;have vu:20000 <= nV O T:=by unfold nV;omega
      by_cases dA:nV O T<60000
      ·have aq8:=dD.fix (nV O T) (zM bY (nV O T)) (bL ⟨vu,dA⟩);have Z:(match td (nV O T)with | .dX v=>some v | _=>none)=some (Value.slice A m c):=Z;rw[aq8]at Z;obtain⟨d1,d2⟩:=aea (i:=O) (j:=T) (by omega);have Z:some ((tE bY ((nV O T-20001) / 1000) ((nV O T-20001) % 1000)).getD undef)=some (Value.slice A m c):=Z;rw[d1,d2]at Z;injection Z with Z
       refine⟨dD.defers,_,?_,A,m,c,?_,e2,e3,aY Ending.returned e4,⟨dD.below.os,dD.below.tape,dD.below.output,dD.below.size,λk hk=>dD.below.block k hk rfl⟩⟩
       ·have lF:results fn a'.tmps=(do let vs <- fn.results.mapM (th a'.tmps);pure (if h:vs.size=1 then vs[0]else .tuple vs)):=by
         unfold results;congr 1
        have xz:fn.results = #[.tmp s]:=by apply Array.ext';exact hs
        rw[lF,xz];simp[th]
       ·cases hl:tE bY O T with
        |none=>rw[hl]at Z;cases Z
        |some u=>rw[hl]at Z;exact aY some Z
      ·exfalso;have:=cQ haa;unfold nV at dA;omega
    ·cases ng
   ·cases ng
  split at hk
  next he=>have he:=vC he;subst he;exact fin hk
  next he=>have he:=vC he;subst he;exact fin hk
  ·cases hk
 ·cases h
end
def Wd.pin(d:Wd)(g:Nat)(l:ah Loc)(D:20000<=g):Wd:=⟨d.w,d.L,λr=>if r=g then l else d.F r,d.held,λr C=>by
 show (if r=g then l else d.F r)=none;rw[bX];exact d.low r C⟩
def B7(g:Nat):aa (Bool×aa Lf)->A
 |[(false,[x])]=>.lf (x.drop g)
 |[(true,cs)]=>.agg (cs.map (Lf.drop g))
 |[(false,_)]=>.undef
 |ps=>.eS (ps.map λp=>(p.1,p.2.map (Lf.drop g)))
def B8{X:Type}(P:Program)(g:Nat)(D:Array ResultVar)(C:S)(k:S->A->ah X):ah X:=
 rS P C D.toList λps=>match C.m g with
  |some (.gh ys)=>k ⟨λj=>((ys.map (A.drop g))[j]?).getD .undef,(C.drop g).m⟩ (B7 g ps)
  |_=>none
def aec(g N:Nat)(σ:S)(xs:aa A):S:=⟨λj=>((xs.map (A.drop g))[j]?).getD .undef,cc (σ.drop g).m g (some (.gh ((List.range N).map λj=>(σ.t j).drop g)))⟩
def noB:nc:=λ_=>none
def Iw{X:Type}(P:Program)(M g:Nat)(Φ:ez)(code:Code)(C:Array ResultVar)(N:Nat)(σ:S)(xs:aa A)(k:S->A->ah X):ah X:=
 bif Nat.ble xs.length M then lI P M Φ noB code (aec g N σ xs) λe D=>match B4 e with
  |some 0=>B8 P g C D k
  |some 1=>B8 P g C D k
  |_=>none
 else none
def aed(P:Program)(M g:Nat)(Φ:ez)(code:Code)(C:Array ResultVar):tF:=⟨λX N σ xs k=>Iw P M g Φ code C N σ xs k⟩
section
variable {P:Program} {w w':World} {w0:Wd} {B M N g:Nat} {aj aA:bG} {ρ ρ':Nat->Loc} {σ:S} {a:Act} {X:Type} {d:Nat} {r:X} {o:Oper} {Φ:ez} {Λ:nc}
def Xg{C:ah Tmp}{D:Bool}:cL λX k=>sg (X:=X) σ C D k:=λX Y k g=>by
 unfold sg
 repeat' first|rfl|refine dj ?_ ?_|split
def aq9{ops:Array Oper}{L i:Nat}:cL λX k=>HY (X:=X) P N Φ ops L i σ o k:=λX Y k g=>by
 unfold HY;split
 ·refine(Wa _ _ _ _).trans (aY _ (funext λv=>?_))
  exact dj (xl _ _ _ _) rfl
 ·exact xl _ _ _ _
 ·rfl
def Xh(D:fL P Φ){ops:Array Oper}:∀ (f L:Nat) (σ:S),cL λX k=>qM (X:=X) P N Φ ops f L σ k
 | 0,L,σ=>λX Y k g=>by
  unfold qM;split<;>rfl
 | f+1,L,σ=>λX Y k g=>by
  have st:∀E o T,cL λX k=>dH (X:=X) P N Φ ops σ o λO=>sg O o.dst T λC=>qM P N Φ ops f E C k:=λE o T=>(adb D).comp λO=>Xg.comp λC=>Xh D f E C
  unfold qM
  repeat' first
   |rfl
   |exact st _ _ _ _ _ _ _
   |exact(aq9.comp λO=>Xg.comp λC=>Xh D f _ C) X Y k g
   |split
def ara{t:TypeId}{x lo hi C:A}{X Y:Type}(k:ah X)(g:X->ah Y):(Em P σ t x lo hi C k).bind g=Em P σ t x lo hi C (k.bind g):=by
 unfold Em
 repeat' first
  |rfl
  |refine(xk _ _ _ _ _).trans (aY _ (funext λy=>?_))
  |split
def arb(C:fL P Φ):cL λX k=>HU (X:=X) P N Φ σ o k:=λX Y k g=>by
 unfold HU
 repeat' first
  |exact ac7 C _ _ _ _
  |exact apE _ _ _ _
  |exact(ara _ _).trans (aY _ (dj rfl rfl))
  |split
def Xi(C:fL P Φ){ops:Array Oper}:∀ (rest:aa Oper) (j:Nat) (σ:S),cL λX k=>BP (X:=X) P N Φ ops j rest σ k
 |[],j,σ=>λ_ _ _ _=>rfl
 | o :: rest,j,σ=>λX Y k g=>by
  unfold BP;split
  ·exact((arb C).comp λD=>Xg.comp λE=>Xi C rest _ E) X Y k g
  ·exact(xl.comp λD=>Xi C rest _ D) X Y k g
  ·rfl
def aee(E:fL P Φ):∀ (c:Code) (σ:S),El λX k=>lI (X:=X) P N Φ noB c σ k:=by
 intro c
 induction c with
 | region id ops draw=>
  intro σ X Y k g;cases draw with
  |true=>exact dj (Xh E _ _ _ _ _ _ _) rfl
  |false=>exact Xi E _ _ _ _ _ _ _
 | seq x y C D=>
  intro σ X Y k g
  refine(C σ _ _ _ _).trans (aY _ (funext λe=>funext λL=>?_))
  cases e with
  |normal=>exact D L _ _ _ _
  |_=>rfl
 | cond c x y C D=>
  intro σ X Y k g;simp only[lI];split
  ·exact dj (C σ _ _ _ _) (D σ _ _ _ _)
  ·rfl
 | block id c O=>
  intro σ X Y k g
  refine(O σ _ _ _ _).trans (aY _ (funext λe=>funext λL=>?_))
  cases e with
  | exit T=>
   simp only;split<;>rfl
  |_=>rfl
 |_=>intro σ X Y k g;rfl
def OM:∀ (l:aa ResultVar),cL λX k=>rS (X:=X) P σ l k
 |[]=>λ_ _ _ _=>rfl
 | .tmp t :: rest=>λX Y k g=>by
  simp only[rS];split
  ·exact OM rest _ _ _ _
  ·rfl
 | .cell c ty :: rest=>λX Y k g=>by
  simp only[rS]
  refine(acw _ _ _ _).trans (aY _ (funext λy=>?_))
  split
  ·exact OM rest _ _ _ _
  ·rfl
def aef{C:Array ResultVar}:El λX k=>B8 (X:=X) P g C σ k:=λX Y k f=>by
 unfold B8
 refine(OM _ _ _ _ _).trans (aY _ (funext λps=>?_))
 split<;>rfl
def arc(C:fL P Φ){code:Code}{D:Array ResultVar}{xs:aa A}:El λX k=>Iw (X:=X) P M g Φ code D N σ xs k:=λX Y k f=>by
 unfold Iw
 refine dj ((aee C _ _ _ _ _ _).trans (aY _ (funext λe=>funext λE=>?_))) rfl
 split
 ·exact aef _ _ _ _
 ·exact aef _ _ _ _
 ·rfl
def ard{D:Array ResultVar}{E:S}{y:A}(h:B8 P g D σ (λσ y=>some (σ,y))=some (E,y)):∃ ys ps,σ.m g=some (.gh ys)/\rS P σ D.toList some=some ps/\⟨λj=>((ys.map (A.drop g))[j]?).getD .undef,(σ.drop g).m⟩=E/\B7 g ps=y:=by
 unfold B8 at h;obtain⟨ps,C,L⟩:=(OM _).mT h;split at C
 next ys O=>injection C with C;injection C with T U;exact⟨ys,ps,O,L.at_ _,T,U⟩
 ·cases C
def List.aeg(xs:aa A)(g j:Nat):((xs.map (A.drop g))[j]?).getD .undef=A.drop g ((xs[j]?).getD .undef):=by
 rw[eF];cases xs[j]?<;>rfl
def RP.B7{ps:aa (Bool×aa Lf)}{C:aa Value}(O:∀ r,r≠g->ρ' r=ρ r)(E:C.length=ps.length)(h:∀ (i:Nat) p v,ps[i]?=some p->C[i]?=some v->RP w B aj ρ p v):
  RA w B aj ρ' (B7 g ps) (if h:C.toArray.size=1 then C.toArray[0]else .tuple C.toArray):=by
 have eS:ps.length≠1->RA w B aj ρ' (.eS (ps.map λp=>(p.1,p.2.map (Lf.drop g)))) (if h:C.toArray.size=1 then C.toArray[0]else .tuple C.toArray):=by
  intro U;rw[dif_neg (by simpa [E]using U)]
  refine⟨C.toArray,rfl,by simpa using E,λj p D=>?_⟩
  rw[eF]at D;cases L:ps[j]? with
  |none=>rw[L]at D;cases D
  | some q=>
   rw[L]at D;injection D with D;subst D;have T:j<C.length:=by rw[E];exact(dQ.1 L).1
   exact⟨C[j],by simp[T],(h j q C[j] L (bZ T)).eT O⟩
 unfold Proofs.YtnilicojgkhpnaaGreat.B7;split
 ·rename_i x
  match C,E,h with
  | [v],_,h=>
   have:=h 0 _ v rfl rfl;obtain⟨u,Y,Z⟩:=this.2 0 x rfl;have:v=u:=by simpa using Y
   subst this;exact Z.eT O
 ·rename_i cs
  match C,E,h with
  |[v],_,h=>exact RP.eT O (p:=(true,cs)) (h 0 _ v rfl rfl)
 ·trivial
 ·rename_i h1 h2 h3
  refine eS λe=>?_
  obtain⟨⟨b,cs⟩,rfl⟩:=List.length_eq_one_iff.1 e;cases b with
  |true=>exact h2 cs rfl
  |false=>exact h3 cs rfl
def arf{f:Nat}{fn:Func}{code:Code}(hf:P.funcs[f]?=some fn)(O:fn.body=some code)(hN:fn.ntmps=M)(hM:M<=20000)(B5:(fn.name == "runtime.NumGoroutine")=false)(hg:20000<=g/\g<60000)(ei:fL P Φ):
  enters P f/\kA P f (aed P M g Φ code fn.results):=by
 refine⟨⟨fn,hf,B5,by rw[O];rfl⟩,λN σ xs=>arc ei,λN σ xs τ0 y0 h w0 aj ρ a w bY E gG hv=>?_⟩
 have h:Iw P M g Φ code fn.results N σ xs _=_:=h;unfold Iw at h;cases hl:Nat.ble xs.length M with
 |false=>rw[hl]at h;cases h
 | true=>
  rw[hl,au]at h;have wY:=cQ hl;obtain⟨e,τ,h1,h2⟩:=(aee ei _ _).mT h;have h3:(e = .normal\/e = .ret)/\B8 P g fn.results τ (λσ y=>some (σ,y))=some (τ0,y0):=by
   split at h1
   next Z=>exact⟨.inl (vC Z),h1⟩
   next Z=>exact⟨.inr (vC Z),h1⟩
   ·cases h1
  obtain⟨hex,h3⟩:=h3;obtain⟨ys,ps,hy,qJ,rfl,rfl⟩:=ard h3;let us:=a.tmps.toList
  let W:Wd:=w0.pin g (some (.bY us)) hg.1
  let td:=cc ρ g (.bY us)
  have cz:∀r,r≠g->td r=ρ r:=λr hr=>cM _ _ _ hr
  have kr:∀ j,us.getD j undef=a.tmps.getD j undef:=λj=>by
   show a.tmps.toList.getD j undef=_;rw[eY,Array.getElem?_toList,ir]
  have hle:bY.size<=M:=by rw[gG];exact wY
  have vr:Rl W M aj td (aec g N σ xs) { tmps:=bY++Array.replicate (fn.ntmps-bY.size) undef,defers:=[] } w:=by
   refine⟨⟨E.below.os,E.below.tape,E.below.output,E.below.size,E.below.block⟩,E.dg,λr x C=>?_,λj=>?_,by simp[hN];omega,rfl,λr l hr=>?_,λr hr=>?_⟩
   ·have C:cc (σ.drop g).m g (some (.gh ((List.range N).map λj=>(σ.t j).drop g))) r=some x:=C;by_cases D:r=g
    ·subst D;rw[cm]at C;injection C with C;subst C
     refine .gh us _ (cm _ _ _) λj x T=>?_
     rw[eF]at T;cases hr:(List.range N)[j]? with
     |none=>rw[hr]at T;cases T
     | some j'=>
      rw[hr]at T;injection T with T;obtain⟨dA,nO⟩:=dQ.1 hr;rw[iU]at nO;subst nO T;rw[kr];exact(E.tmp j).eT cz
    ·rw[cM _ _ _ D]at C;have C:(bif Nat.beq r g then none else (σ.m r).map (bg.drop g))=some x:=C;cases O:Nat.beq r g with
     |true=>rw[O]at C;cases C
     | false=>
      rw[O,aq]at C;cases hm:σ.m r with
      |none=>rw[hm]at C;cases C
      | some y=>
       rw[hm]at C;injection C with C;subst C;exact(E.root r y hm).eT cz D
   ·show RA w w0.heap.size aj td (((xs.map (A.drop g))[j]?).getD .undef) _;rw[List.aeg];by_cases T:j<bY.size
    ·have e1:(bY++Array.replicate (fn.ntmps-bY.size) undef).getD j undef=bY.getD j undef:=by
      rw[ir,Array.getElem?_append_left T,ir]
     show RA w w0.heap.size aj td _ ((bY++Array.replicate (fn.ntmps-bY.size) undef).getD j undef);rw[e1];exact(hv j).eT cz
    ·rw[List.getElem?_eq_none (by omega:xs.length<=j)];trivial
   ·have hr:(if r=g then some (Loc.bY us)else w0.F r)=some l:=hr;by_cases D:r=g
    ·rw[bL D]at hr;injection hr with hr;rw[D,<-hr];exact cm _ _ _
    ·rw[bX D]at hr;rw[cz r D];exact E.fix r l hr
   ·show (if r=g then some (Loc.bY us)else w0.F r)=none;rw[bX];rcases hr with hr | hr
    ·exact w0.low r (by omega)
    ·exact E.dz r (.inr hr)
  refine calls_of_wp hf O ?_
  refine wp_mono (Il (w0:=W) ei code _ (λe τ=>some (e,τ)) (h2 _ _) (λp hp b O=>by cases O) _ w ⟨aj,td,vr⟩) λe' U w' Z=>?_
  obtain⟨cS,oL,aA,ρ',L⟩:=Z;injection oL with oL;injection oL with k1 k2;subst k1 k2;have HE:ρ' g = .bY us:=L.fix g _ (bL rfl);let eU:=cc ρ' g ((w0.F g).getD (.aC 0 0))
  have Ec:∀r,r≠g->eU r=ρ' r:=λr hr=>cM _ _ _ hr
  obtain⟨w8,Xj,jL⟩:=Hs (w0:=W) (N:=M) _ _ qJ;injection Xj with Xj;subst Xj;obtain⟨vs,dB,hlen,jM⟩:=jL aA ρ' U w' L;have arh:(fn.results.mapM (th U.tmps)).run P w' = .ok vs.toArray w':=by
   rw[Array.mapM_eq_mapM_toList];simp[dB]
  have lF:results fn U.tmps=(do let vs <-fn.results.mapM (th U.tmps);pure (if h:vs.size=1 then vs[0]else .tuple vs)):=by
   unfold results;congr 1
  have hRf:Rl w0 N aA eU ⟨λj=>((ys.map (A.drop g))[j]?).getD .undef,(cS.drop g).m⟩ a w':=by
   refine⟨⟨L.below.os,L.below.tape,L.below.output,L.below.size,L.below.block⟩,L.dg,λr x C=>?_,λj=>?_,E.size,E.defers,λr l hr=>?_,E.dz⟩
   ·have C:(bif Nat.beq r g then none else (cS.m r).map (bg.drop g))=some x:=C;cases O:Nat.beq r g with
    |true=>rw[O]at C;cases C
    | false=>
     have D:r≠g:=by rintro rfl;simp at O
     rw[O,aq]at C;cases hm:cS.m r with
     |none=>rw[hm]at C;cases C
     | some y=>
      rw[hm]at C;injection C with C;subst C;exact(L.root r y hm).eT Ec D
   ·show RA w' w0.heap.size aA eU (((ys.map (A.drop g))[j]?).getD .undef) _;rw[List.aeg];cases hyj:ys[j]? with
    |none=>trivial
    | some y=>
     have eE:=L.root g _ hy;generalize Y:bg.gh ys=z at eE;cases eE with
     |aC=>cases Y
     |sl=>cases Y
     |mp=>cases Y
     | gh Np xs' xj hx3=>
      injection Y with Y;subst Y;rw[HE]at xj;injection xj with xj;subst xj;have:=hx3 j y hyj;rw[kr]at this;exact this.eT Ec
   ·by_cases D:r=g
    ·subst D;show cc ρ' r ((w0.F r).getD (.aC 0 0)) r=l;rw[cm,hr];rfl
    ·rw[Ec r D];exact L.fix r l ((bX D).trans hr)
  have fin:U.defers=[]/\∃ v,(results fn U.tmps).run P w' = .ok v w'/\∃ zL aA ρ',Ending.returned v=Ending.returned zL/\Rl w0 N aA ρ' ⟨λj=>((ys.map (A.drop g))[j]?).getD .undef,(cS.drop g).m⟩ a w'/\RA w' w0.heap.size aA ρ' (B7 g w8) zL:=
   ⟨L.defers,_,by rw[lF,fV,arh,lS,Sem.run_pure],_,aA,eU,rfl,hRf,RP.B7 Ec hlen jM⟩
  rcases hex with rfl|rfl
  ·exact fin
  ·exact fin
end
def tN:Nat:=1000000000
def stays(n:Nat):Bool:=Nat.ble 20000 (n % tN)
def ari:60000<=tN:=cQ rfl
def p7(n:Nat):Nat:=bif stays n then n else n+tN
def zN(n:Nat):ah Nat:=bif stays n then some n else bif Nat.ble tN n && !stays (n-tN)then some (n-tN)else none
def kT:aa Nat->aa Nat
 |[]=>[]
 |[r]=>[p7 r]
 |x::y::k=>x::kT (y::k)
def Lf.up:Lf->Lf
 |.v x=>.v x
 |.own k=>.own (kT k)
 |.dead=>.dead
def A.up:A->A
 |.undef=>.undef
 |.skip=>.skip
 |.lf x=>.lf x.up
 |.agg cs=>.agg (cs.map Lf.up)
 |.eS xs=>.eS (xs.map λp=>(p.1,p.2.map Lf.up))
 |.ptr k=>.ptr (kT k)
 |.aJ r j=>.aJ (p7 r) j
 |.iZ cs=>.iZ cs
 |.mQ f cs=>.mQ f cs
 |.pk r n=>.pk (p7 r) n
 |.view k s i j=>.view (kT k) s i j
 |.fn f cap=>.fn f (cap.map λp=>(p7 p.1,p.2))
def bg.up:bg->bg
 |.aC cs=>.aC (cs.map Lf.up)
 |.sl y=>.sl y
 |.mp l=>.mp l
 |.gh xs=>.gh (xs.map A.up)
def S.up(σ:S):S:=⟨λk=>(σ.t k).up,λn=>match zN n with
 |some r=>(σ.m r).map bg.up
 |none=>none⟩
def upI(c:tF):tF:=⟨λX N σ xs k=>c.run X N σ.up (xs.map A.up) λC y=>k C.up y.up⟩
section
variable {P:Program} {w w':World} {w0:Wd} {B N:Nat} {aj aA:bG} {ρ ρ':Nat->Loc} {σ:S} {a:Act} {X:Type}
def arj(r:Nat):zN (p7 r)=some r:=by
 unfold zN p7;cases h:stays r with
 |true=>simp_all
 | false=>
  have C:stays (r+tN)=false:=by
   unfold stays at h ⊢;simp_all
  have D:Nat.ble tN (r+tN)=true:=js (Nat.le_add_left _ _);simp[*]
def ark{n r:Nat}(h:zN n=some r):n=p7 r:=by
 unfold zN at h;cases D:stays n with
 | true=>
  rw[D]at h;injection h with h;subst h;simp[p7,D]
 | false=>
  rw[D,aq]at h;cases C:(Nat.ble tN n && !stays (n-tN))with
  |false=>simp_all
  | true=>
   rw[C]at h;have h:=Option.some.inj h;rw[aN]at C;have L:=cQ C.1;have E:stays r=false:=by rw[<- h];simpa using C.2
   simp[p7,E,aq];omega
def mq(aj:bG):bG:=λb=>(aj b).map kT
def vE(ρ:Nat->Loc):Nat->Loc:=λn=>match zN n with
 |some r=>ρ r
 |none=>ρ n
def B9(r:Nat):vE ρ (p7 r)=ρ r:=by unfold vE;rw[arj]
def arl{k:aa Nat}(h:k≠[]):kT k≠[]:=by
 match k with
 |[r]=>simp[kT]
 |x::y::k=>simp[kT]
def EC{x:Nat}{k:aa Nat}(h:k≠[]):kT (x :: k)=x :: kT k:=by
 match k with
 |[]=>exact absurd rfl h
 |y::k=>rfl
def aeh(x y:Nat)(k:aa Nat):∃ C D,kT (x :: y :: k)=x :: C :: D:=by
 match k with
 |[]=>exact⟨_,_,rfl⟩
 |z::k=>exact⟨y,_,rfl⟩
def Xk:∀ (k:aa Nat) (ad:Addr),addrAt w aj ρ k=some ad -> addrAt w (mq aj) (vE ρ) (kT k)=some ad
 |[],_,h=>by simp[addrAt]at h
 | [j,i,s,r],ad,h=>by
  simp only[addrAt]at h;simp only[kT,addrAt,B9];split at h
  ·rename_i b n c C;split at h
   next D=>rw[bL (by simp[mq,D,kT])];exact h
   ·cases h
  ·cases h
 | j :: i :: s :: x :: y :: q,ad,h=>by
  simp only[addrAt]at h;split at h
  ·rename_i b n c C;split at h
   ·rename_i D;cases E:addrAt w aj ρ (x :: y :: q)with
    |none=>simp_all
    | some O=>
     have L:=Xk (x::y::q) O E;have e:mq aj b=some (kT (x::y::q)):=by simp[mq,D]
     rw[EC (by simp),EC (by simp),EC (by simp)];rw[E]at C;obtain⟨U,Y,T⟩:=aeh x y q;rw[T]at L e ⊢;simp only[addrAt,L,C,e,if_true];exact h
   ·cases h
  ·cases h
def aei{k:aa Nat}{u:Value}(h:c8 w aj ρ k=some u):c8 w (mq aj) (vE ρ) (kT k)=some u:=by
 match k with
 | [r]=>
  simp[kT,c8,B9];exact h
 | x :: y :: k=>
  simp[c8]at h;cases C:addrAt w aj ρ _ with
  |none=>rw[C]at h;cases h
  | some ad=>
   have:=Xk _ _ C;obtain⟨E,L,D⟩:=aeh x y k;rw[D]at this ⊢;simp[c8,this];simp_all
def Xl{b:Nat}(h:aj b=none):mq aj b=none:=by simp[mq,h]
def RV.up(E:∀ b k,aj b=some k->k≠[]){k:aa Nat}{x:V}{v:Value}(h:RV w B aj k x v):RV w B (mq aj) (kT k) x v:=
 h.map (Q:=λk C=>C=kT k) (dM _) (λb _ h=>⟨rfl,Xl h⟩) (λb k C _ D e=>by
  subst e;exact⟨rfl,by simp[mq,D],λj i s=>by rw[EC (by simp),EC (by simp),EC (E b k D)]⟩) (.inr rfl)
def dU.up(C:∀ b k,aj b=some k->k≠[]){x:Lf}{u:Value}(h:dU w B aj ρ x u):dU w B (mq aj) (vE ρ) x.up u:=by
 cases x with
 |v x=>exact⟨h.1,RV.up C h.2⟩
 |own k=>exact⟨h.1,aei h.2⟩
 |dead=>trivial
def eD.up(E:∀ b k,aj b=some k -> k≠[]){cs:aa Lf}{us:Array Value}(h:eD w B aj ρ cs us):eD w B (mq aj) (vE ρ) (cs.map Lf.up) us:=by
 refine⟨by rw[eG];exact h.1,λj x C=>?_⟩
 rw[eF]at C;cases D:cs[j]? with
 |none=>simp_all
 | some z=>
  rw[D]at C;injection C with C;subst C;obtain⟨u,L,O⟩:=h.2 j z D;exact⟨u,L,O.up E⟩
def RP.up(C:∀ b k,aj b=some k->k≠[]){p:Bool×aa Lf}{u:Value}(h:RP w B aj ρ p u):RP w B (mq aj) (vE ρ) (p.1,p.2.map Lf.up) u:=by
 obtain⟨b,cs⟩:=p;cases b with
 | true=>
  obtain⟨us,rfl,h⟩:=h;exact⟨us,rfl,eD.up C h⟩
 |false=>exact eD.up C h
def RA.up(L:∀ b k,aj b=some k -> k≠[]){x:A}{u:Value}(h:RA w B aj ρ x u):RA w B (mq aj) (vE ρ) x.up u:=by
 cases x with
 |undef=>trivial
 |skip=>exact h
 |lf x=>exact dU.up L h
 |agg cs=>exact RP.up L (p:=(true,cs)) h
 | eS xs=>
  obtain⟨us,rfl,D,E⟩:=h
  refine⟨us,rfl,by rw[eG];exact D,λj p C=>?_⟩
  rw[eF]at C;cases O:xs[j]? with
  |none=>simp_all
  | some z=>
   rw[O]at C;injection C with C;subst C;obtain⟨v,T,U⟩:=E j z O;exact⟨v,T,U.up L⟩
 | ptr k=>
  obtain⟨ad,rfl,h⟩:=h;exact⟨ad,rfl,Xk _ _ h⟩
 | aJ r j=>
  obtain⟨b,off,D,E⟩:=h;exact⟨b,off,(B9 r).trans D,E⟩
 | iZ cs=>
  obtain⟨b,off,Y,Z,g3,g4⟩:=h
  refine⟨b,off,Y,Z,Xl g3,λj x hx=>?_⟩
  obtain⟨f1,v,f2,f3⟩:=g4 j x hx;exact⟨f1,v,f2,RV.up L f3⟩
 | mQ f cs=>
  obtain⟨pv,e0,h⟩:=h;refine⟨pv,e0,?_⟩;obtain⟨b,off,Y,Z,g3,g4⟩:=h
  refine⟨b,off,Y,Z,Xl g3,λj x hx=>?_⟩
  obtain⟨f1,v,f2,f3⟩:=g4 j x hx;exact⟨f1,v,f2,RV.up L f3⟩
 | pk r n=>
  obtain⟨b,D,E⟩:=h;exact⟨b,(B9 r).trans D,E⟩
 | view k s i j=>
  obtain⟨A,n,c,D,E⟩:=h;exact⟨A,n,c,aei D,E⟩
 | fn f cap=>
  obtain⟨vs,rfl,D,E⟩:=h
  refine⟨vs,rfl,by rw[eG];exact D,λj p C=>?_⟩
  rw[eF]at C;cases O:cap[j]? with
  |none=>simp_all
  | some z=>
   rw[O]at C;injection C with C;subst C;obtain⟨b,off,T,U⟩:=E j z O;exact⟨b,off,(B9 _).trans T,U⟩
def dY.up(U:∀ b k,aj b=some k -> k≠[]){r:Nat}{x:bg}(h:dY w B aj ρ r x):dY w B (mq aj) (vE ρ) (p7 r) x.up:=by
 have T:=B9 (ρ:=ρ) r;have Z:∀{b},aj b=some [r] -> mq aj b=some [p7 r]:=λh=>by simp[mq,h,kT]
 cases h with
 | aC b off cells e cs us C L Y hs hc=>
  refine .aC b off cells e _ us (T.trans C) (Z L) Y (by rw[eG];exact hs) λj x D=>?_
  rw[eF]at D;cases E:cs[j]? with
  |none=>simp_all
  | some z=>
   rw[E]at D;injection D with D;subst D;exact⟨(hc j z E).1,(hc j z E).2.up U⟩
 |sl v y C L=>exact .sl v y (T.trans C) (RV.up U L)
 |mp b c es l C L Y he=>exact .mp b c es l (T.trans C) (Z L) Y he
 | gh us xs C D=>
  refine .gh us _ (T.trans C) λj x O=>?_
  rw[eF]at O;cases E:xs[j]? with
  |none=>simp_all
  | some z=>
   rw[E]at O;injection O with O;subst O;exact RA.up U (D j z E)
def Rl.up(h:Rl w0 N aj ρ σ a w):Rl w0 N (mq aj) (vE ρ) σ.up a w:=by
 have T:=λb k D=>(h.dg b k D).2.2
 refine⟨h.below,λb k D=>?_,λn x C=>?_,λk=>RA.up T (h.tmp k),h.size,h.defers,λr l E=>?_,h.dz⟩
 ·unfold mq at D;cases U:aj b with
  |none=>simp_all
  | some q=>
   rw[U]at D;injection D with D;obtain⟨L,O,Z⟩:=h.dg b q U;exact⟨L,O,by rw[<- D];exact arl Z⟩
 ·have C:(match zN n with | some r=>(σ.m r).map _ | none=>none)=some x:=C;cases Y:zN n with
  |none=>simp_all
  | some r=>
   rw[Y]at C;have C:(σ.m r).map _=some x:=C;cases hm:σ.m r with
   |none=>simp_all
   | some y=>
    rw[hm]at C;injection C with C;subst C;rw[ark Y];exact(h.root r y hm).up T
 ·have hs:stays r=true:=by
   have L:20000 <= r:=Nat.le_of_not_lt λdA=>by rw[w0.low r dA]at E;cases E
   have O:r<60000:=Nat.lt_of_not_le λhle=>by rw[h.dz r (.inr hle)]at E;cases E
   unfold stays;rw[Nat.mod_eq_of_lt (Nat.lt_of_lt_of_le O ari)];exact js L
  have hu:p7 r=r:=by simp[p7,hs]
  have:=B9 (ρ:=ρ) r;rw[hu]at this;rw[this];exact h.fix r l E
def arn{f:Nat}{c:tF}(h:kA P f c):kA P f (upI c):=by
 refine⟨λN σ xs X Y k g=>h.1 N σ.up (xs.map A.up) X Y _ g,λN σ xs τ z O w0 aj ρ a w bY E T U=>?_⟩
 obtain⟨Z,y,C,h2⟩:=(h.1 N σ.up (xs.map A.up)).mT O;injection C with C;injection C with h4 h5;subst h4 h5;have h3:=h.2 N σ.up (xs.map A.up) Z y (h2 _ _);have dc:∀b k,aj b=some k->k≠[]:=λb k D=>(E.dg b k D).2.2
 refine(h3 w0 _ _ a w bY E.up (by rw[eG];exact T) λi=>?_).mono λe w' hp=>?_
 ·rw[eF];have:=U i;cases hx:xs[i]? with
  |none=>trivial
  | some x=>
   rw[hx]at this;exact RA.up dc this
 ·obtain⟨v,aA,ρ',he,L,hy⟩:=hp;exact⟨v,_,_,he,L.up,RA.up (λb k D=>(L.dg b k D).2.2) hy⟩
end
def aS:Nat:=4611686018427387904
def qS(c:Code)(id:Nat):Code:=match (occs c).lookup id with
 |some (.loop b)=>b
 |_=>.skip
def aR(fn:Func):Code:=fn.body.getD .skip
def mw(l:aa (Nat×pV)):ez:=λf=>l.lookup f
def Ca(P:Program):aa (Nat×pV)->Prop
 |[]=>True
 |(f,c)::l=>(enters P f/\VU P f c)/\Ca P l
def vF{P:Program}:∀ (l:aa (Nat×pV)),Ca P l -> fL P (mw l)
 |[],_=>λf c h=>by cases h
 | (E,L) :: l,⟨O,D⟩=>λf c h=>by
  have C:List.lookup f _=some c:=h;rw[List.lookup_cons]at C;split at C
  ·simp_all
  ·exact vF l D f c C
def jR(l:aa (Nat×sk)):nc:=λid=>l.lookup id
def Xm(P:Program)(N:Nat)(code:Code):aa (Nat×sk)->Prop
 |[]=>True
 |(id,b)::l=>(∃c,(occs code).lookup id=some c/\BU P N (.block id c) b)/\Xm P N code l
def ids(l:aa (Nat×Code)):Bool:=(l.map (·.1)).all λi=>Nat.beq ((l.filter λp=>Nat.beq p.1 i).length) 1
def aej:∀ (l:aa (Nat×Code)) (p:Nat×Code),(∀ q∈l,q.1=p.1 -> q=p) -> p∈l -> l.lookup p.1=some p.2
 |[],p,_,h=>by cases h
 | q :: l,p,C,h=>by
  rw[List.lookup_cons];by_cases D:p.1=q.1
  ·simp_all
  ·have E:(p.1==q.1)=false:=by simpa using D
   rw[E];rcases gW.1 h with rfl|h
   ·simp_all
   ·exact aej l p (λq L=>C q (.tail _ L)) h
def aro{l:aa (Nat×Code)}(h:ids l=true){p q:Nat×Code}(D:p∈l)(E:q∈l)(L:q.1=p.1):q=p:=by
 have C:=cw.1 h p.1 (List.mem_map_of_mem D);have C:=cD C;have O:p∈l.filter λr=>Nat.beq r.1 p.1:=List.mem_filter.2 ⟨D,by simp⟩
 have T:q∈l.filter λr=>Nat.beq r.1 p.1:=List.mem_filter.2 ⟨E,by simp[L]⟩
 obtain⟨z,U⟩:=List.length_eq_one_iff.1 C
 grind
def aek{P:Program}{N:Nat}{code:Code}(hi:ids (occs code)=true):∀ (l:aa (Nat×sk)),Xm P N code l -> pW P N (jR l) (occs code)
 |[],_=>λp D b h=>by cases h
 | (id,T) :: l,⟨⟨c,U,Y⟩,L⟩=>λp D b h=>by
  have C:List.lookup p.1 _=some b:=h;rw[List.lookup_cons]at C;split at C
  ·rename_i E;have E:p.1=id:=by simpa using E
   injection C with C;subst C;have:=aej _ p (λq O e=>aro hi D O e) D;simp_all
  ·exact aek hi l L p D b C
def qT{P:Program}{N:Nat}{l:aa (Nat×Code)}:pW P N (jR []) l:=λp C b h=>by cases h
def ci(P:Program)(fn:Func)(C:Nat)(l:aa (Nat×pV)):tF:=aed P fn.ntmps (59000+C) (mw l) (aR fn) fn.results
def qU{P:Program}{f:Nat}{fn:Func}(C:Nat)(l:aa (Nat×pV))(D:P.funcs[f]?=some fn)(E:Ca P l)(L:fn.body=some (aR fn):=by kernel_rfl)(O:Nat.ble fn.ntmps 20000=true:=by kernel_rfl)(T:Nat.ble C 900=true:=by kernel_rfl)(U:(fn.name == "runtime.NumGoroutine")=false:=by kernel_rfl):enters P f/\kA P f (ci P fn C l):=
 arf D L rfl (cQ O) U ⟨by omega,by have:=cQ T;omega⟩ (vF l E)
def cj(P:Program)(fn:Func)(C:Nat)(l:aa (Nat×pV)):tF:=upI (ci P fn C l)
def su{P:Program}{f:Nat}{fn:Func}{C:Nat}{l:aa (Nat×pV)}(h:enters P f/\kA P f (ci P fn C l)):enters P f/\kA P f (cj P fn C l):=⟨h.1,arn h.2⟩
def ON{P:Program}{f:Nat}{fn:Func}{ai:aa (Bool×TC)}{ro:aa (Bool×TC×Nat)}{F:kC ai->ah (iC ro)}(N:Nat)(l:aa (Nat×pV))(b:aa (Nat×sk))(C:P.funcs[f]?=some fn)(D:Ca P l)(E:pW P N (jR b) (occs (aR fn)))(L:∀x,pZ P N (mw l) (jR b) (aR fn) fn.results (gf ai x) (lG ro)=F x)(O:fn.body=some (aR fn):=by kernel_rfl)(T:fn.ntmps=N:=by kernel_rfl)(U:(fn.name == "runtime.NumGoroutine")=false:=by kernel_rfl)(Y:Nat.ble ai.length N=true:=by kernel_rfl)(Z:lJ ro=true:=by kernel_rfl):enters P f/\ig P f (gQ ai ro F):=aq2 C O T U Y Z (vF l D) E L
def Cb{P:Program}{f:Nat}{fn:Func}{t:TC}{g:Nat}{F:aa (T t)->ah (aa (T t))}(N:Nat)(l:aa (Nat×pV))(b:aa (Nat×sk))(C:P.funcs[f]?=some fn)(D:Ca P l)(E:pW P N (jR b) (occs (aR fn)))(L:∀ x:aa (T t),pZ P N (mw l) (jR b) (aR fn) fn.results [(false,[.sl t 0 false x])] (lG [(false,.sl t,g)])=F x)
  (O:pZ P N (mw l) (jR b) (aR fn) fn.results [(false,[.nil])] (lG [(false,.sl t,g)])=some ([]:aa (T t)):=by kernel_rfl) (U:pZ P N (mw l) (jR b) (aR fn) fn.results [(false,[.sl t 0 true []])] (lG [(false,.sl t,g)])=some ([]:aa (T t)):=by kernel_rfl)
  (Y:fn.body=some (aR fn):=by kernel_rfl) (Z:fn.ntmps=N:=by kernel_rfl) (B5:(fn.name == "runtime.NumGoroutine")=false:=by kernel_rfl) (It:Nat.ble 1 N=true:=by kernel_rfl) (eE:lJ [(false,.sl t,g)]=true:=by kernel_rfl):enters P f/\ig P f (gQ [(false,.sl t)] [(false,.sl t,g)] λx=>bif jt x.1 then some ([]:aa (T t))else F x.1):=aq3 C Y Z B5 It eE (vF l D) E L O U
def jc{α β:Type}(a:α)(f:α->β):β:=f a
def ael{P:Program}{id:Nat}{body:Code}{C:bM}{D:aa (Nat×bM)}{F:C.St->ah (C.St⊕tL D)}{fuel:C.St->Nat}(N:Nat)(l:aa (Nat×pV))(b:aa (Nat×sk))(E:Ca P l)(L:pW P N (jR b) (occs body))(O:∀x,Ez P N (mw l) (jR b) body C D x=F x):BU P N (.block id (.loop body)) (OF id C D F fuel):=aqY (vF l E) L O
abbrev W6 (x:Int):Int:=IntKind.i64.wrap x
/-! Words for what printed functions say often. -/
def xI{α β:Type}(l:aa α)(i:Int)(k:α->ah β):ah β:=if h:0<=i/\i.toNat<l.length then (let e:=l[i.toNat]'h.2;k e)else none
def xC{α β:Type}(l:aa α)(i:Int)(k:ah β):ah β:=if h:0<=i/\i.toNat<l.length then k else none
def xM{α β:Type}(l:aa α)(i:Int)(k:α->ah β):ah β:=if h:i.toNat<l.length then (let e:=l[i.toNat]'h;k e)else none
def xL{α β:Type}(l:aa α)(i:Int)(k:α->ah β):ah β:=if h:0<=i/\i.toNat<l.length then (if h:i.toNat<l.length then (let e:=l[i.toNat]'h;k e)else none)else none
def xZ{α:Type}(l:aa α):Bool:=bO (([]:aa α).length+l.length)
def xA{α:Type}(l:aa α):aa α:=([]:aa α)++l
def bk{S A C:Type}(L:S->ah (S⊕(A⊕Empty)))(s:S)(f:A->ah C):ah C:=(iter L aS s).bind (Sum.elim f (λz=>nomatch z))
def bE{S A B C:Type}(L:S->ah (S⊕(A⊕(B⊕Empty))))(s:S)(f:A->ah C)(g:B->ah C):ah C:=(iter L aS s).bind (Sum.elim f (Sum.elim g (λz=>nomatch z)))
def xG{S E:Type}(s:S):ah (S⊕E):=some (.inl s)
def av{S A E:Type}(v:A):ah (S⊕(A⊕E)):=some (.inr (.inl v))
def aQ{S A B E:Type}(v:B):ah (S⊕(A⊕(B⊕E))):=some (.inr (.inr (.inl v)))
abbrev tI:Tm:=.lf (.int .i64)
abbrev tB:Tm:=.lf (.bool)
structure KC (P:Program) where
 f:Nat
 c:pV
 ok:enters P f/\VU P f c
def KL{P:Program}(l:aa (KC P)):aa (Nat×pV):=l.map λk=>(k.f,k.c)
def tO{P:Program}:∀ l:aa (KC P),Ca P (KL l)
 |[]=>trivial
 |k::l=>⟨k.ok,tO l⟩
structure BK (P:Program) (N:Nat) (code:Code) where
 id:Nat
 b:sk
 ok:BU P N (.block id (.loop (qS code id))) b
section
variable {P:Program} {f N:Nat} {fn:Func} {code:Code}
def BL(l:aa (BK P N code)):aa (Nat×sk):=l.map λk=>(k.id,k.b)
def BC(l:aa (BK P N code)):aa (ah Code):=l.map λk=>(occs code).lookup k.id
def BD(l:aa (BK P N code)):aa (ah Code):=l.map λk=>some (.loop (qS code k.id))
def aem:∀ l:aa (BK P N code),BC l=BD l -> Xm P N code (BL l)
 |[],_=>trivial
 | k :: l,h=>by
  unfold BC BD at h;injection h with C D;exact⟨⟨_,C,k.ok⟩,aem l D⟩
def BT(l:aa (BK P N code))(C:BC l=BD l)(hi:ids (occs code)=true):pW P N (jR (BL l)) (occs code):=aek hi _ (aem l C)
def lB(id:Nat)(C:bM)(D:aa (Nat×bM))(F:C.St->ah (C.St⊕tL D)):sk:=OF id C D F λ_=>aS
def lp{body:Code}{id:Nat}{C:bM}{D:aa (Nat×bM)}{F:C.St->ah (C.St⊕tL D)}(l:aa (KC P))(E:∀x,Ez P N (mw (KL l)) (jR []) body C D x=F x:=by intro x;kernel_rfl):BU P N (.block id (.loop body)) (lB id C D F):=ael N (KL l) [] (tO l) qT E
def lq{id:Nat}{C:bM}{D:aa (Nat×bM)}{F:C.St->ah (C.St⊕tL D)}(l:aa (KC P))(b:aa (BK P N code))(E:BC b=BD b:=by kernel_rfl)(hi:ids (occs code)=true:=by kernel_rfl)(L:∀x,Ez P N (mw (KL l)) (jR (BL b)) code C D x=F x:=by intro x;kernel_rfl):BU P N (.block id (.loop code)) (lB id C D F):=ael N (KL l) (BL b) (tO l) (BT b E hi) L
def kp{ai:aa (Bool×TC)}{ro:aa (Bool×TC×Nat)}{F:kC ai->ah (iC ro)}(N:Nat)(l:aa (KC P))(C:P.funcs[f]?=some fn)(D:∀x,pZ P N (mw (KL l)) (jR []) (aR fn) fn.results (gf ai x) (lG ro)=F x:=by intro x;kernel_rfl)(E:fn.body=some (aR fn):=by kernel_rfl)(L:fn.ntmps=N:=by kernel_rfl)(O:(fn.name == "runtime.NumGoroutine")=false:=by kernel_rfl)(T:Nat.ble ai.length N=true:=by kernel_rfl)(U:lJ ro=true:=by kernel_rfl):enters P f/\ig P f (gQ ai ro F):=ON N (KL l) [] C (tO l) qT D E L O T U
def kq{ai:aa (Bool×TC)}{ro:aa (Bool×TC×Nat)}{F:kC ai->ah (iC ro)}(N:Nat)(l:aa (KC P))(b:aa (BK P N (aR fn)))(C:P.funcs[f]?=some fn)(D:BC b=BD b:=by kernel_rfl)(hi:ids (occs (aR fn))=true:=by kernel_rfl)(E:∀x,pZ P N (mw (KL l)) (jR (BL b)) (aR fn) fn.results (gf ai x) (lG ro)=F x:=by intro x;kernel_rfl)(L:fn.body=some (aR fn):=by kernel_rfl)(O:fn.ntmps=N:=by kernel_rfl)(T:(fn.name == "runtime.NumGoroutine")=false:=by kernel_rfl)(U:Nat.ble ai.length N=true:=by kernel_rfl)(Y:lJ ro=true:=by kernel_rfl):enters P f/\ig P f (gQ ai ro F):=ON N (KL l) (BL b) C (tO l) (BT b D hi) E L O T U Y
def km{ps:aa PK}{ro:aa (Bool×TC×Nat)}{F:lZ ps->ah (iC ro×rT (fh ps))}(N:Nat)(l:aa (KC P))(C:P.funcs[f]?=some fn)(D:∀x,B6 P N (mw (KL l)) (jR []) (aR fn) fn.results (mW ps x) (jO ps 0 x) (EA (fh ps) ro)=F x:=by intro x;kernel_rfl)(E:fn.body=some (aR fn):=by kernel_rfl)(L:fn.ntmps=N:=by kernel_rfl)(O:(fn.name == "runtime.NumGoroutine")=false:=by kernel_rfl)(T:Nat.ble ps.length N=true:=by kernel_rfl)(U:Nat.ble N 20000=true:=by kernel_rfl)(Y:lJ ro=true:=by kernel_rfl):enters P f/\tu P f ⟨ps,ro,F⟩:=OJ C E L O T U Y (vF _ (tO l)) qT D
def kn{ps:aa PK}{ro:aa (Bool×TC×Nat)}{F:lZ ps->ah (iC ro×rT (fh ps))}(N:Nat)(l:aa (KC P))(b:aa (BK P N (aR fn)))(C:P.funcs[f]?=some fn)(D:BC b=BD b:=by kernel_rfl)(hi:ids (occs (aR fn))=true:=by kernel_rfl)(E:∀x,B6 P N (mw (KL l)) (jR (BL b)) (aR fn) fn.results (mW ps x) (jO ps 0 x) (EA (fh ps) ro)=F x:=by intro x;kernel_rfl)(L:fn.body=some (aR fn):=by kernel_rfl)(O:fn.ntmps=N:=by kernel_rfl)(T:(fn.name == "runtime.NumGoroutine")=false:=by kernel_rfl)(U:Nat.ble ps.length N=true:=by kernel_rfl)(Y:Nat.ble N 20000=true:=by kernel_rfl)(Z:lJ ro=true:=by kernel_rfl):enters P f/\tu P f ⟨ps,ro,F⟩:=OJ C L O T U Y Z (vF _ (tO l)) (BT b D hi) E
def aM(ai:aa (Bool×TC))(ro:aa (Bool×TC×Nat))(F:kC ai->ah (iC ro))(N:Nat)(l:aa (KC P))(C:P.funcs[f]?=some fn)(D:∀x,pZ P N (mw (KL l)) (jR []) (aR fn) fn.results (gf ai x) (lG ro)=F x:=by intro x;kernel_rfl)(E:fn.body=some (aR fn):=by kernel_rfl)(L:fn.ntmps=N:=by kernel_rfl)(O:(fn.name == "runtime.NumGoroutine")=false:=by kernel_rfl)(T:Nat.ble ai.length N=true:=by kernel_rfl)(U:lJ ro=true:=by kernel_rfl):KC P:=⟨f,.p (gQ ai ro F),ON N (KL l) [] C (tO l) qT D E L O T U⟩
def bT(ai:aa (Bool×TC))(ro:aa (Bool×TC×Nat))(F:kC ai->ah (iC ro))(N:Nat)(l:aa (KC P))(b:aa (BK P N (aR fn)))(C:P.funcs[f]?=some fn)(D:BC b=BD b:=by kernel_rfl)(hi:ids (occs (aR fn))=true:=by kernel_rfl)(E:∀x,pZ P N (mw (KL l)) (jR (BL b)) (aR fn) fn.results (gf ai x) (lG ro)=F x:=by intro x;kernel_rfl)(L:fn.body=some (aR fn):=by kernel_rfl)(O:fn.ntmps=N:=by kernel_rfl)(T:(fn.name == "runtime.NumGoroutine")=false:=by kernel_rfl)(U:Nat.ble ai.length N=true:=by kernel_rfl)(Y:lJ ro=true:=by kernel_rfl):KC P:=⟨f,.p (gQ ai ro F),ON N (KL l) (BL b) C (tO l) (BT b D hi) E L O T U Y⟩
def xN(ps:aa PK)(ro:aa (Bool×TC×Nat))(F:lZ ps->ah (iC ro×rT (fh ps)))(N:Nat)(l:aa (KC P))(C:P.funcs[f]?=some fn)(D:∀x,B6 P N (mw (KL l)) (jR []) (aR fn) fn.results (mW ps x) (jO ps 0 x) (EA (fh ps) ro)=F x:=by intro x;kernel_rfl)(E:fn.body=some (aR fn):=by kernel_rfl)(L:fn.ntmps=N:=by kernel_rfl)(O:(fn.name == "runtime.NumGoroutine")=false:=by kernel_rfl)(T:Nat.ble ps.length N=true:=by kernel_rfl)(U:Nat.ble N 20000=true:=by kernel_rfl)(Y:lJ ro=true:=by kernel_rfl):KC P:=⟨f,.m ⟨ps,ro,F⟩,OJ C E L O T U Y (vF _ (tO l)) qT D⟩
def jS(ps:aa PK)(ro:aa (Bool×TC×Nat))(F:lZ ps->ah (iC ro×rT (fh ps)))(N:Nat)(l:aa (KC P))(b:aa (BK P N (aR fn)))(C:P.funcs[f]?=some fn)(D:BC b=BD b:=by kernel_rfl)(hi:ids (occs (aR fn))=true:=by kernel_rfl)(E:∀x,B6 P N (mw (KL l)) (jR (BL b)) (aR fn) fn.results (mW ps x) (jO ps 0 x) (EA (fh ps) ro)=F x:=by intro x;kernel_rfl)(L:fn.body=some (aR fn):=by kernel_rfl)(O:fn.ntmps=N:=by kernel_rfl)(T:(fn.name == "runtime.NumGoroutine")=false:=by kernel_rfl)(U:Nat.ble ps.length N=true:=by kernel_rfl)(Y:Nat.ble N 20000=true:=by kernel_rfl)(Z:lJ ro=true:=by kernel_rfl):KC P:=⟨f,.m ⟨ps,ro,F⟩,OJ C L O T U Y Z (vF _ (tO l)) (BT b D hi) E⟩
def bF{A Z R:Type}(F:A->R)(x:A×Z):R:=F x.1
def br{A B Z R:Type}(F:A->B->R)(x:A×B×Z):R:=F x.1 x.2.1
def fS{A B C Z R:Type}(F:A->B->C->R)(x:A×B×C×Z):R:=F x.1 x.2.1 x.2.2.1
def sv{A B C D Z R:Type}(F:A->B->C->D->R)(x:A×B×C×D×Z):R:=F x.1 x.2.1 x.2.2.1 x.2.2.2.1
def ED{A B C D E Z R:Type}(F:A->B->C->D->E->R)(x:A×B×C×D×E×Z):R:=F x.1 x.2.1 x.2.2.1 x.2.2.2.1 x.2.2.2.2.1
end
end Go.Proofs.YtnilicojgkhpnaaGreat
