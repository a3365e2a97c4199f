/-
  Running the program over pure contents, and that it follows (part Z). Nothing here is a claim.
-/
import Derived.Test.YtgjfmljpdnnihaaGreatV4
set_option linter.unusedSimpArgs false
namespace Go.Proofs.YtgjfmljpdnnihaaGreat
set_option linter.defProp false
open Go.RowKit
set_option linter.unusedVariables false
section
variable {P:Program} {w w':World} {w0:Wd} {B N:Nat} {af az:bh} {ρ ρ':Nat->Loc} {σ:S} {a:Act} {X:Type} {d:Nat} {r:X} {o:Oper} {Φ:dX} {Λ:mj}
def aj5{I:ah Tmp}{g:Bool}{k:S -> ah X}(h:sI σ I g k=some r):∃ D,k D=some r /\ ∀ a w,R w0 N σ a w -> R w0 N D a w:=by
 unfold sI at h;cases g with
 |false=>grind
 | true=>
  rw[aq]at h;split at h
  ·rename_i d;split at h
   ·rename_i b O;have key:∀ c:Bool,b=c -> ∀ a w,R w0 N σ a w -> R w0 N (σ.set d (.lf (.v (.bool c)))) a w:=by
     rintro c rfl a w ⟨af,ρ,C⟩
     refine⟨af,ρ,C.below,C.cN,C.root,λk=>?_,C.size,C.defers,C.fix,C.cF⟩
     show RA w w0.heap.size af ρ (bD σ.t d (.lf (.v (.bool b))) k) _;by_cases E:k=d
     ·subst E;rw[bI,<- O];exact C.tmp k
     ·rw[ck _ _ _ E];exact C.tmp k
    grind
   ·grind
  ·grind
def Lt(Y:fC P Φ)(ops:Array Oper):∀ (rest:aa Oper) (j:Nat) (σ:S) (k:S -> ah X),BR P N Φ ops j rest σ k=some r -> ∃ cB,k cB=some r /\ ∀ a w,R w0 N σ a w -> ∀ Q,(∀ I w',R w0 N cB I w' -> Q Exit.normal I w') -> wpList P ops Q rest a w
 |[],j,σ,k,h=>⟨σ,h,λa w D Q E=>E a w D⟩
 | o :: rest,j,σ,k,h=>by
  unfold BR at h;split at h
  ·rename_i Z;obtain⟨p7,h1,sN⟩:=ai0 Y h;obtain⟨σ2,h2,vm⟩:=aj5 h1;obtain⟨O,T,U⟩:=Lt Y ops rest (j+1) σ2 k h2
   refine⟨O,T,λa w D Q E=>?_⟩
   obtain⟨af,ρ,C⟩:=D;simp only[wpList,D0 Z C,if_true];exact .inl (sN a w _ Q ⟨af,ρ,C⟩ λI w' sH=>U I w' (vm I w' sH) Q E)
  ·rename_i Z;unfold gM at h;split at h
   ·rename_i hd;obtain⟨O,T,U⟩:=Lt Y ops rest _ σ k h
    refine⟨O,T,λa w D Q E=>?_⟩
    obtain⟨af,ρ,C⟩:=D;simp[wpList,D0 Z C,hd];exact U a w ⟨af,ρ,C⟩ Q E
   ·rename_i d hd;cases hN:Nat.blt d N with
    |false=>simp_all
    | true=>
     rw[hN,aq]at h;obtain⟨O,T,U⟩:=Lt Y ops rest (j+1) _ k h
     refine⟨O,T,λa w D Q E=>?_⟩
     obtain⟨af,ρ,C⟩:=D;simp only[wpList,D0 Z C,hd];exact U _ w ⟨af,ρ,C.set rfl (by have:=cu hN;omega)⟩ Q E
  ·cases h
def D1(dL:fC P Φ):∀ (c:Code) (σ:S) (k:Exit->S->ah X),kU P N Φ Λ c σ k=some r->oN P N Λ (occs c)->AW P w0 N c σ λe E=>k e E=some r:=by
 intro c
 induction c with
 |skip=>exact λσ k h _ a w C=>wp_skip ⟨σ,h,C⟩
 |label l=>exact λσ k h _ a w C=>wp_label ⟨σ,h,C⟩
 |ret=>exact λσ k h _ a w C=>wp_ret ⟨σ,h,C⟩
 |exit id=>exact λσ k h _ a w C=>wp_exit ⟨σ,h,C⟩
 | region id ops draw=>
  intro σ k h _ a w C;cases draw with
  | true=>
   simp only[kU]at h;cases hm:P.follows .mixedOrders with
   |false=>rw[hm]at h;cases h
   | true=>
    rw[hm,aq]at h
    haveI:Inhabited Wd:=⟨w0⟩
    exact aj4 dL hm h (λτ gX a w C=>⟨τ,gX,C⟩) C
  | false=>
   simp only[kU]at h;obtain⟨E,h',hw⟩:=Lt (w0:=w0) dL ops _ _ _ _ h;exact wp_region_list (hw a w C _ λU w' D=>⟨E,h',D⟩)
 | seq x y Y Z=>
  intro σ k h O a w C;simp only[kU]at h;have h1:=Y σ _ h (λp I=>O p (List.mem_append_left _ I))
  refine wp_seq (wp_mono (h1 a w C) λe U w' he=>?_)
  obtain⟨E,T,D⟩:=he;cases e with
  |normal=>exact Z E k T (λp I=>O p (List.mem_append_right _ I)) U w' D
  |_=>exact⟨E,T,D⟩
 | cond c x y Y Z=>
  intro σ k h O a w C;simp only[kU]at h;split at h
  ·rename_i b hb;obtain⟨af,ρ,D⟩:=C;have hc:=D.aG c;rw[hb]at hc;have Zj:=hc.2.yV;cases b with
   |true=>exact wp_cond_true Zj (Y σ k h (λp I=>O p (List.mem_append_left _ I)) a w ⟨af,ρ,D⟩)
   |false=>exact wp_cond_false Zj (Z σ k h (λp I=>O p (List.mem_append_right _ I)) a w ⟨af,ρ,D⟩)
  ·cases h
 | block id c ih=>
  intro σ k h O a w C;simp only[kU]at h;split at h
  next b hb=>exact O (id,c) (.head _) b hb X σ k r w0 h a w C
  ·have h1:=ih σ _ h (λp I=>O p (.tail _ I))
   refine wp_block (wp_mono (h1 a w C) λe U w' he=>?_)
   obtain⟨E,T,D⟩:=he;cases e with
   | exit Zk=>
    simp only[Exit.inBlock];by_cases hid:Zk=id
    ·simp only[hid,if_true]at T ⊢;exact⟨E,T,D⟩
    ·simp only[hid,if_false]at T ⊢;exact⟨E,T,D⟩
   |_=>exact⟨E,T,D⟩
 |_=>exact λσ k h=>by simp[kU]at h
end
/-! What a loop carries. -/
inductive Lm where
 |int (k:IntKind)
 |bool
 |str
 |own (r:Nat)
 |aF (t:TC) (o:Nat)
def Lm.T:Lm->Type
 |.int _=>Int
 |.bool=>Bool
 |.str=>ByteArray
 |.own _=>aj
 |.aF t _=>aa (Proofs.YtgjfmljpdnnihaaGreat.T t)
def Lm.mk:(m:Lm)->m.T->Lf
 |.int k,n=>.v (.int k n)
 |.bool,b=>.v (.bool b)
 |.str,s=>.v (.str s)
 |.own r,_=>.own [r]
 |.aF t o,l=>.v (.sl t o false l)
def Lm.rd:(m:Lm)->Lf->ah m.T
 |.int k,.v (.int C n)=>if C=k then some n else none
 |.bool,.v (.bool b)=>some b
 |.str,.v (.str s)=>some s
 |.own r,.own [D]=>bif Nat.beq D r then some ()else none
 |.aF t o,.v x=>bif Nat.blt o 2 then x.fj t o else none
 |_,_=>none
inductive Tm where
 |lf (m:Lm)
 |aJ (r j:Nat)
 |fp (t:TC) (o:Nat)
 |fc (f:Nat) (t:TC)
 |ag (t:TC)
 |pk (r n:Nat)
def Tm.T:Tm->Type
 |.lf m=>m.T
 |.aJ _ _=>aj
 |.fp t _=>Proofs.YtgjfmljpdnnihaaGreat.T t
 |.fc _ t=>Proofs.YtgjfmljpdnnihaaGreat.T t
 |.ag t=>Proofs.YtgjfmljpdnnihaaGreat.T t
 |.pk _ _=>aj
def Tm.mk:(m:Tm)->m.T->A
 |.lf m,x=>.lf (m.mk x)
 |.aJ r j,_=>.aJ r j
 |.fp t o,x=>.iR (enc t o x)
 |.fc f t,x=>.mW f (enc t 0 x)
 |.ag t,x=>.agg ((enc t 0 x).map .v)
 |.pk r n,_=>.pk r n
def Tm.rd:(m:Tm)->A->ah m.T
 |.lf m,.lf x=>m.rd x
 |.aJ r j,.aJ C D=>bif Nat.beq C r&&Nat.beq D j then some ()else none
 |.fp t o,.iR cs=>bif Nat.blt o 2 then dec t o cs else none
 |.fc f t,.mW f' cs=>bif Nat.beq f' f then dec t 0 cs else none
 | .ag t,.agg cs=>(match vt cs with
  |some E=>dec t 0 E
  |none=>none)
 |.pk r n,.pk C n'=>bif Nat.beq C r&&Nat.beq n' n then some ()else none
 |_,_=>none
def G2:aa Lm->Type
 |[]=>aj
 |m::C=>m.T×G2 C
def xW:(C:aa Lm)->G2 C->aa Lf
 |[],_=>[]
 |m::C,x=>m.mk x.1::xW C x.2
def Lu:(C:aa Lm)->aa Lf->ah (G2 C)
 |[],[]=>some ()
 | m :: C,x :: xs=>match m.rd x,Lu C xs with
  |some y,some ys=>some (y,ys)
  |_,_=>none
 |_,_=>none
inductive Rm where
 |sl (t:TC) (o:Nat)
 |st (t:TC)
 |aA (ms:List Lm)
 |mp
def Rm.T:Rm->Type
 |.sl t _=>aa (Proofs.YtgjfmljpdnnihaaGreat.T t)
 |.st t=>Proofs.YtgjfmljpdnnihaaGreat.T t
 |.aA C=>G2 C
 |.mp=>aa (Int×Bool)
def Rm.mk:(m:Rm)->m.T->aQ
 |.sl t o,l=>.sl (.sl t o false l)
 |.st t,x=>.aA ((enc t 0 x).map .v)
 |.aA C,x=>.aA (xW C x)
 |.mp,l=>.mp l
def Rm.rd:(m:Rm)->aQ->ah m.T
 |.sl t o,.sl y=>y.fj t o
 | .st t,.aA cs=>(match vt cs with
  |some C=>dec t 0 C
  |none=>none)
 |.aA D,.aA cs=>Lu D cs
 |.mp,.mp l=>some l
 |_,_=>none
def D2:aa (Nat×Tm)->Type
 |[]=>aj
 |(_,m)::C=>m.T×D2 C
def xX:(C:aa (Nat×Tm))->D2 C->Nat->A
 |[],_,_=>.undef
 |(n,m)::C,x,k=>bif Nat.beq k n then m.mk x.1 else xX C x.2 k
def G3:(C:aa (Nat×Tm))->(Nat->A)->ah (D2 C)
 |[],_=>some ()
 | (n,m) :: C,t=>match m.rd (t n),G3 C t with
  |some x,some xs=>some (x,xs)
  |_,_=>none
def xY:aa (Nat×Rm)->Type
 |[]=>aj
 |(_,m)::C=>m.T×xY C
def ya:(C:aa (Nat×Rm))->xY C->Nat->ah aQ
 |[],_,_=>none
 |(n,m)::C,x,k=>bif Nat.beq k n then some (m.mk x.1)else ya C x.2 k
def D3:(C:aa (Nat×Rm))->(Nat->ah aQ)->ah (xY C)
 |[],_=>some ()
 | (n,m) :: C,t=>match (t n).bind m.rd,D3 C t with
  |some x,some xs=>some (x,xs)
  |_,_=>none
structure jj where
 ts:List (Nat×Tm)
 rs:List (Nat×Rm)
def jj.St(C:jj):Type:=D2 C.ts×xY C.rs
def jj.mk'(C:jj)(x:C.St):S:=⟨xX C.ts x.1,ya C.rs x.2⟩
def jj.Lv(C:jj)(σ:S):ah C.St:=match G3 C.ts σ.t,D3 C.rs σ.m with
 |some x,some y=>some (x,y)
 |_,_=>none
/-! Roots by other names. -/
abbrev Rn:=aa (Nat×Nat)
def Rn.inv(rs:Rn)(n:Nat):ah Nat:=(rs.find? λp=>Nat.beq p.2 n).map (·.1)
def Rn.add(rs:Rn)(r n:Nat):Rn:=bif rs.any (λp=>Nat.beq p.1 r&&Nat.beq p.2 n)then rs else (r,n)::rs
def Sa(n:Nat):ah Nat->Bool
 |some m=>Nat.beq m n
 |none=>false
def Rn.ok(rs:Rn):Bool:=rs.all λp=>(Nat.beq p.1 p.2 ||Nat.ble 60000 p.2)&&Sa p.2 (rs.lookup p.1)&&Sa p.1 (rs.inv p.2)
def Lf.dW(rs:Rn):Lf->Lf
 |.v x=>.v x
 | .own [r]=>(match rs.lookup r with
  |some n=>.own [n]
  |none=>.dead)
 |_=>.dead
def A.dW(rs:Rn):A->A
 |.lf x=>.lf (x.dW rs)
 | .aJ r j=>(match rs.lookup r with
  |some n=>.aJ n j
  |none=>.undef)
 |.iR cs=>.iR cs
 |.mW f cs=>.mW f cs
 |.agg cs=>.agg (cs.map (Lf.dW rs))
 |_=>.undef
def aQ.dW(rs:Rn):aQ->aQ
 |.aA cs=>.aA (cs.map (Lf.dW rs))
 |.sl y=>.sl y
 |.mp l=>.mp l
 |.gh _=>.gh []
def S.dW(rs:Rn)(σ:S):S:=⟨λk=>(σ.t k).dW rs,λn=>match rs.inv n with
 |some r=>(σ.m r).map (aQ.dW rs)
 |none=>none⟩
def Zl:Lm->Lf->Rn->Rn
 |.own n,.own [r],rs=>rs.add r n
 |_,_,rs=>rs
def Sb:aa Lm->aa Lf->Rn->Rn
 |m::C,x::xs,rs=>Sb C xs (Zl m x rs)
 |_,_,rs=>rs
def rnT:Tm->A->Rn->Rn
 |.lf m,.lf x,rs=>Zl m x rs
 |.aJ n j,.aJ r C,rs=>rs.add r n
 |_,_,rs=>rs
def Zm(t:Nat->A):aa (Nat×Tm)->Rn->Rn
 |[],rs=>rs
 |(k,m)::C,rs=>Zm t C (rnT m (t k) rs)
def Zn(m:Nat->ah aQ):aa (Nat×Rm)->Rn->Rn
 |[],rs=>rs
 | (n,x) :: xs,rs=>Zn m xs (match x,rs.inv n with
  | .aA C,some r=>(match m r with
   |some (.aA cs)=>Sb C cs rs
   |_=>rs)
  | .aA C,none=>(match m n with
   |some (.aA cs)=>Sb C cs (rs.add n n)
   |_=>rs)
  |_,some _=>rs
  |_,none=>rs.add n n)
def jj.rn(C:jj)(σ:S):Rn:=Zn σ.m C.rs (Zm σ.t C.ts [])
def Sc(rs:aa (Nat×Rm))(p:Nat×Tm)(σ:S):S:=match p.2,σ.t p.1 with
 | .lf (.own n),.lf (.v .nil)=>(match rs.lookup n with
  |some (.sl t o)=>bif Nat.ble 60000 n then ⟨bD ((σ.drop n).root n (.sl (.sl t o false []))).t p.1 (.lf (.own [n])),((σ.drop n).root n (.sl (.sl t o false []))).m⟩else σ
  |_=>σ)
 |_,_=>σ
def Lw(rs:aa (Nat×Rm)):aa (Nat×Tm)->S->S
 |[],σ=>σ
 |p::ps,σ=>Lw rs ps (Sc rs p σ)
def Sd(n j r:Nat)(σ:S):S:=match σ.m r with
 | some (.aA cs)=>(match cs[j]? with
  |some (.v .nil)=>⟨σ.t,bD σ.m r (some (.aA (cs.set j (.own [n]))))⟩
  |_=>σ)
 |_=>σ
def Se(rs:aa (Nat×Rm))(n j r:Nat)(σ:S):S:=match rs.lookup n with
 |some (.sl t o)=>bif Nat.ble 60000 n then Sd n j r ((σ.drop n).root n (.sl (.sl t o false [])))else σ
 |_=>σ
def BZ(rs:aa (Nat×Rm))(r:Nat):Nat->aa Lm->aa Lf->S->S
 |j,.own n::C,.v .nil::cs,σ=>BZ rs r (j+1) C cs (Se rs n j r σ)
 |j,_::C,_::cs,σ=>BZ rs r (j+1) C cs σ
 |_,_,_,σ=>σ
def Lx(rs:aa (Nat×Rm)):aa (Nat×Rm)->S->S
 |[],σ=>σ
 | (r,.aA C) :: ps,σ=>Lx rs ps (match σ.m r with
  |some (.aA cs)=>BZ rs r 0 C cs σ
  |_=>σ)
 |_::ps,σ=>Lx rs ps σ
def jj.Zo(C:jj)(σ:S):ah C.St:=bif (C.rn σ).ok then C.Lv (Lx C.rs C.rs (σ.dW (C.rn σ)))else none
def jj.rd(C:jj)(σ:S):ah C.St:=match C.Lv σ with
 |some x=>some x
 |none=>C.Zo (Lw C.rs C.ts σ)
section
variable {P:Program} {w w':World} {w0:Wd} {B N:Nat} {af az:bh} {ρ ρ':Nat->Loc} {σ:S} {a:Act} {X:Type} {d:Nat} {r:X} {o:Oper} {Φ:dX} {Λ:mj}
def Lm.qf{m:Lm}{x:Lf}{y:m.T}(h:m.rd x=some y){u:Value}(C:dK w B af ρ x u):dK w B af ρ (m.mk y) u:=by
 unfold Lm.rd at h;split at h
 ·split at h
  next E=>subst E;injection h with h;subst h;exact C
  ·cases h
 ·injection h with h;subst h;exact C
 ·injection h with h;subst h;exact C
 ·rename_i I O;cases D:Nat.beq O I with
  |false=>simp_all
  |true=>obtain rfl:=cH D;exact C
 ·rename_i t o x;cases D:Nat.blt o 2 with
  |false=>rw[D]at h;cases h
  | true=>
   rw[D]at h;have:=cu D;exact⟨by simp[V.aF];omega,C.2.wk (V.Fv h)⟩
 ·cases h
def Tm.qf{m:Tm}{x:A}{y:m.T}(h:m.rd x=some y){u:Value}(O:RA w B af ρ x u):RA w B af ρ (m.mk y) u:=by
 cases m with
 | lf m=>
  cases x with
  |lf x=>exact Lm.qf h O
  |_=>cases h
 | aJ r j=>
  cases x with
  | aJ Y j'=>
   have h:(bif Nat.beq Y r&&Nat.beq j' j then some ()else none)=some y:=h;cases C:(Nat.beq Y r&&Nat.beq j' j)with
   |false=>simp_all
   | true=>
    rw[aK]at C;obtain rfl:=cH C.1;obtain rfl:=cH C.2;exact O
  |_=>cases h
 | fp t o=>
  cases x with
  | iR cs=>
   have h:(bif Nat.blt o 2 then dec t o cs else none)=some y:=h;cases C:Nat.blt o 2 with
   |false=>simp_all
   | true=>
    rw[C,aq]at h;have ho:=cu C;have E:=lC t o cs y h;obtain⟨b,off,Z,h2,h3,h4⟩:=O
    refine⟨b,off,Z,h2,h3,λj z D=>?_⟩
    have hj:j<cs.length:=by rw[E.1];exact(dI.1 D).1
    have I:=bK hj;obtain⟨g1,v,g2,g3⟩:=h4 j _ I;exact⟨pn t o y (by omega) j z D,v,g2,g3.wk (E.2 j _ z I D)⟩
  |_=>cases h
 | fc f t=>
  cases x with
  | mW f' cs=>
   have h:(bif Nat.beq f' f then dec t 0 cs else none)=some y:=h;cases C:Nat.beq f' f with
   |false=>simp_all
   | true=>
    rw[C,aq]at h;obtain rfl:=cH C;have E:=lC t 0 cs y h;obtain⟨pv,e0,b,off,Z,h2,h3,h4⟩:=O
    refine⟨pv,e0,b,off,Z,h2,h3,λj z D=>?_⟩
    have hj:j<cs.length:=by rw[E.1];exact(dI.1 D).1
    have I:=bK hj;obtain⟨g1,v,g2,g3⟩:=h4 j _ I;exact⟨pn t 0 y (by omega) j z D,v,g2,g3.wk (E.2 j _ z I D)⟩
  |_=>cases h
 | ag t=>
  cases x with
  | agg cs=>
   have h:(match vt cs with|some U=>dec t 0 U|none=>none)=some y:=h;cases jK:vt cs with
   |none=>simp_all
   | some U=>
    rw[jK]at h;have h:dec t 0 U=some y:=h;have fV:=Ki _ _ jK;have E:=lC t 0 U y h;obtain⟨us,Z,h2,h3⟩:=O
    refine⟨us,Z,?_,λj x hx=>?_⟩
    ·rw[h2,fV,eT,eT,E.1]
    ·rw[ef]at hx;cases D:(enc t 0 y)[j]? with
     |none=>simp_all
     | some z=>
      rw[D]at hx;injection hx with hx;subst hx;have hj:j<U.length:=by rw[E.1];exact(dI.1 D).1
      have I:=bK hj;obtain⟨v,g1,g2⟩:=h3 j (.v U[j]) (by rw[fV,ef,I];rfl);exact⟨v,g1,pn t 0 y (by omega) j z D,g2.2.wk (E.2 j _ z I D)⟩
  |_=>cases h
 | pk r n=>
  cases x with
  | pk Y n'=>
   have h:(bif Nat.beq Y r&&Nat.beq n' n then some ()else none)=some y:=h;cases C:(Nat.beq Y r&&Nat.beq n' n)with
   |false=>simp_all
   | true=>
    rw[aK]at C;obtain rfl:=cH C.1;obtain rfl:=cH C.2;exact O
  |_=>cases h
def Zp:∀ (C:aa Lm) (cs:aa Lf) (y:G2 C),Lu C cs=some y -> (xW C y).length=cs.length /\ ∀ (j:Nat) x,(xW C y)[j]?=some x -> ∃ z,cs[j]?=some z/\(∀ (w:World) (B:Nat) (af:bh) (ρ:Nat -> Loc) (u:Value),dK w B af ρ z u -> dK w B af ρ x u)
 |[],[],y,h=>⟨rfl,λj x D=>by simp[xW]at D⟩
 | m :: C,c :: cs,y,h=>by
  unfold Lu at h;split at h
  ·rename_i Y ys E I;injection h with h;subst h;obtain⟨O,T⟩:=Zp C cs ys I
   refine⟨by simp[xW,O],λj x D=>?_⟩
   cases j with
   |zero=>simp[xW]at D;subst D;exact⟨c,rfl,λw B af ρ u U=>Lm.qf E U⟩
   |succ j=>exact T j x (by simpa [xW]using D)
  ·cases h
def Rm.qf{m:Rm}{x:aQ}{y:m.T}(h:m.rd x=some y){n:Nat}(C:dS w B af ρ n x):dS w B af ρ n (m.mk y):=by
 cases m with
 | sl t o=>
  cases C with
  |sl v y' D hr=>exact .sl v _ D (hr.wk (V.Fv h))
  |aA=>cases h
  |mp=>cases h
  |gh=>cases h
 | mp=>
  cases C with
  |gh=>cases h
  |sl=>cases h
  |aA=>cases h
  |mp b c es l D I O he=>injection h with h;subst h;exact .mp b c es _ D I O he
 | st t=>
  cases C with
  |sl=>cases h
  |mp=>cases h
  |gh=>cases h
  | aA b off cells e cs us D I O U hc=>
   have h:(match vt cs with|some E=>dec t 0 E|none=>none)=some y:=h;cases jK:vt cs with
   |none=>simp_all
   | some E=>
    rw[jK]at h;have h:dec t 0 E=some y:=h;have fV:=Ki _ _ jK;have Z:=lC t 0 E y h
    refine .aA b off cells e _ us D I O (by rw[eT,<- Z.1];rw[fV,eT]at U;exact U) λj x C=>?_
    rw[ef]at C;cases Y:(enc t 0 y)[j]? with
    |none=>simp_all
    | some z=>
     rw[Y]at C;injection C with C;subst C;have hj:j<E.length:=by rw[Z.1];exact(dI.1 Y).1
     have hv:=bK hj;obtain⟨h1,h2⟩:=hc j (.v E[j]) (by rw[fV,ef,hv];rfl);exact⟨h1,pn t 0 y (by omega) j z Y,h2.2.wk (Z.2 j _ z hv Y)⟩
 | aA ms=>
  cases C with
  |sl=>cases h
  |mp=>cases h
  |gh=>cases h
  | aA b off cells e cs us D I O U hc=>
   obtain⟨k1,k2⟩:=Zp ms cs y h
   refine .aA b off cells e _ us D I O (by show off+(xW ms y).length <= _;rw[k1];exact U) λj x C=>?_
   grind
def Sf:∀ (C:aa (Nat×Tm)) (t:Nat -> A) (y:D2 C),G3 C t=some y -> ∀ k,xX C y k = .undef \/ ∃ m z,(Tm.rd m (t k)=some z/\xX C y k=m.mk z)
 |[],t,y,h,k=>.inl rfl
 | (n,m) :: C,t,y,h,k=>by
  unfold G3 at h;split at h
  ·rename_i x xs E I;injection h with h;subst h;by_cases O:k=n
   ·subst O;exact .inr ⟨m,x,E,by simp[xX]⟩
   ·have D:Nat.beq k n=false:=by
     cases D:Nat.beq k n with
     |false=>rfl
     |true=>simp_all
    simp only[xX,D,av];exact Sf C t xs I k
  ·cases h
def Sg:∀ (C:aa (Nat×Rm)) (t:Nat -> ah aQ) (y:xY C),D3 C t=some y -> ∀ k,ya C y k=none \/ ∃ m x z,t k=some x/\Rm.rd m x=some z/\ya C y k=some (m.mk z)
 |[],t,y,h,k=>.inl rfl
 | (n,m) :: C,t,y,h,k=>by
  unfold D3 at h;split at h
  ·rename_i x xs D I;injection h with h;subst h;by_cases O:k=n
   ·subst O;cases T:t k with
    |none=>simp_all
    |some z=>rw[T]at D;exact .inr ⟨m,z,x,rfl,D,by simp[ya]⟩
   ·have E:Nat.beq k n=false:=by
     cases E:Nat.beq k n with
     |false=>rfl
     |true=>simp_all
    simp only[ya,E,av];exact Sg C t xs I k
  ·cases h
def jj.Zq{D:jj}{x:D.St}(h:D.Lv σ=some x)(C:R w0 N σ a w):R w0 N (D.mk' x) a w:=by
 unfold jj.Lv at h;split at h
 ·rename_i u v T U;injection h with h;subst h;obtain⟨af,ρ,C⟩:=C
  refine⟨af,ρ,C.below,C.cN,λn y E=>?_,λk=>?_,C.size,C.defers,C.fix,C.cF⟩
  ·have E:ya D.rs v n=some y:=E;rcases Sg D.rs σ.m v U n with e | ⟨m,x,z,I,O,Y⟩
   ·simp_all
   ·rw[Y]at E;injection E with E;subst E;exact Rm.qf O (C.root n x I)
  ·show RA _ _ _ _ (xX D.ts u k) _;rcases Sf D.ts σ.t u T k with e | ⟨m,z,I,O⟩
   ·rw[e];trivial
   ·rw[O];exact Tm.qf I (C.tmp k)
 ·cases h
def Zr{n:Nat}{o:ah Nat}(h:Sa n o=true):o=some n:=by
 cases o with
 |none=>cases h
 |some m=>rw[cH h]
def Zs{rs:Rn}{r n:Nat}(h:rs.lookup r=some n):(r,n)∈rs:=by
 induction rs with
 |nil=>cases h
 |cons p rs C =>grind
def Zt{rs:Rn}{r n:Nat}(h:rs.inv n=some r):(r,n)∈rs:=by
 unfold Rn.inv at h;cases C:rs.find? _ with
 |none=>rw[C]at h;cases h
 | some p=>
  rw[C]at h;injection h with h;subst h;have D:=List.find?_some C;have E:=List.mem_of_find?_eq_some C;rw[<- cH D];exact E
def Rn.eV(rs:Rn)(ρ:Nat->Loc):Nat->Loc:=λn=>match rs.inv n with
 |some r=>ρ r
 |none=>ρ n
def Rn.Ly{rs:Rn}(h:rs.ok=true){r n:Nat}(C:(r,n)∈rs):(r=n \/ 60000 <= n)/\rs.lookup r=some n/\rs.inv n=some r:=by
 have:=bS.1 h _ C;rw[aK,aK,dZ]at this;refine⟨?_,Zr this.1.2,Zr this.2⟩;simp_all
def dK.dW{rs:Rn}(C:rs.ok=true){x:Lf}{u:Value}(h:dK w B af ρ x u):dK w B (ey af rs id) (rs.eV ρ) (x.dW rs) u:=by
 unfold Lf.dW;split
 ·exact⟨h.1,h.2.JU h.1 λb=>zu⟩
 ·rename_i r;split
  next n D=>have hi:=(Rn.Ly C (Zs D)).2.2;refine⟨h.1,?_⟩;have E:=h.2;simp[cK]at E ⊢;unfold Rn.eV;simp_all
  ·trivial
 ·trivial
def Rl.dW{rs:Rn}(O:rs.ok=true)(h:Rl w0 N af ρ σ a w):Rl w0 N (ey af rs id) (rs.eV ρ) (σ.dW rs) a w:=by
 have hl:∀ b r n,af b=some [r] -> rs.lookup r=some n -> ey af rs id b=some [n]:=by
  intro b r n E I;simp[ey,E,I]
 refine⟨h.below,λb k D=>?_,λn x C=>?_,λk=>?_,h.size,h.defers,λr l U=>?_,h.cF⟩
 ·unfold ey at D;split at D
  ·cases D
  ·rename_i k0 KG;split at D
   ·cases D
   ·rename_i r U;cases hn:rs.lookup r with
    |none=>grind
    | some n=>
     rw[hn]at D;injection D with D;subst D;obtain⟨E,I,_⟩:=h.cN b k0 KG;simp_all
 ·have C:(match rs.inv n with | some r=>(σ.m r).map (aQ.dW rs) | none=>none)=some x:=C;cases hi:rs.inv n with
  |none=>grind
  | some r=>
   rw[hi]at C;have C:(σ.m r).map (aQ.dW rs)=some x:=C;have ud:=(Rn.Ly O (Zt hi)).2.1;have bX:rs.eV ρ n=ρ r:=by unfold Rn.eV;rw[hi]
   cases hm:σ.m r with
   |none=>grind
   | some y=>
    rw[hm]at C;injection C with C;subst C;cases h.root r y hm with
    | aA b off cells e cs us E I hh hs hc=>
     refine .aA b off cells e _ us (bX.trans E) (hl b r n I ud) hh (by rw[eT];exact hs) λj x C=>?_
     rw[ef]at C;cases T:cs[j]? with
     |none=>grind
     | some z=>
      rw[T]at C;injection C with C;subst C;exact⟨(hc j z T).1,(hc j z T).2.dW O⟩
    | sl v y E I=>
     exact .sl v y (bX.trans E) (RV.ey (p:=[]) (nm:=id) I ud)
    |mp b c es l E I hh he=>exact .mp b c es l (bX.trans E) (hl b r n I ud) hh he
    |gh us xs E C=>exact .gh us _ (bX.trans E) λj x hj=>by simp at hj
 ·show RA _ _ _ _ ((σ.t k).dW rs) _;have D:=h.tmp k;generalize σ.t k=x at D;unfold A.dW;split
  ·exact D.dW O
  ·rename_i r j;split
   next n hn=>have hi:=(Rn.Ly O (Zs hn)).2.2;obtain⟨b,off,E,I⟩:=D;exact⟨b,off,by unfold Rn.eV;rw[hi];exact E,I⟩
   ·trivial
  ·obtain⟨b,off,Y,Z,g3,g4⟩:=D
   refine⟨b,off,Y,Z,zu g3,λj x C=>?_⟩
   obtain⟨f1,v,f2,f3⟩:=g4 j x C;exact⟨f1,v,f2,f3.JU f1 λb=>zu⟩
  ·obtain⟨pv,e0,b,off,Y,Z,g3,g4⟩:=D
   refine⟨pv,e0,b,off,Y,Z,zu g3,λj x C=>?_⟩
   obtain⟨f1,v,f2,f3⟩:=g4 j x C;exact⟨f1,v,f2,f3.JU f1 λb=>zu⟩
  ·obtain⟨us,Y,Z,g3⟩:=D
   refine⟨us,Y,by rw[eT];exact Z,λj x C=>?_⟩
   rw[ef]at C;rename_i cs;cases T:cs[j]? with
   |none=>grind
   | some z=>
    rw[T]at C;injection C with C;subst C;obtain⟨v,f1,f2⟩:=g3 j z T;exact⟨v,f1,f2.dW O⟩
  ·trivial
 ·show rs.eV ρ r=l;unfold Rn.eV;split
  ·rename_i r0 hi;rcases(Rn.Ly O (Zt hi)).1 with e | e
   ·rw[e];exact h.fix r l U
   ·rw[h.cF r (.inr e)]at U;cases U
  ·exact h.fix r l U
def aj6{rs:aa (Nat×Rm)}{p:Nat×Tm}(C:R w0 N σ a w):R w0 N (Sc rs p σ) a w:=by
 unfold Sc;split
 ·rename_i n hp T;split
  ·rename_i t o hl;cases U:Nat.ble 60000 n with
   |false=>exact C
   | true=>
    have Y:=cu U;obtain⟨af,ρ,C⟩:=C;have E:=C.tmp p.1;rw[T]at E;have Z:a.tmps.getD p.1 undef = .slice none 0 0:=by
     have I:=E.2;generalize a.tmps.getD p.1 undef=u at I;cases I;rfl
    have D:=C.new (d:=n) (x:=.sl (.sl t o false [])) (.dA (.slice none 0 0)) (.sl _ _ (bI _ _ _) (.eo _ _ _)) (C.cF n (.inr Y))
    refine⟨af,_,D.below,D.cN,D.root,λk=>?_,D.size,D.defers,D.fix,D.cF⟩
    show RA _ _ _ _ (bD ((σ.drop n).root n (.sl (.sl t o false []))).t p.1 (.lf (.own [n])) k) _;by_cases O:k=p.1
    ·subst O;rw[bI,Z];exact⟨rfl,by simp[cK,bI]⟩
    ·rw[ck _ _ _ O];exact D.tmp k
  ·exact C
 ·exact C
def aj7{n j r:Nat}{y:V}(C:Rl w0 N af ρ σ a w)(Y:ρ n = .dA (.slice none 0 0)):Rl w0 N af ρ (Sd n j r σ) a w:=by
 unfold Sd;split
 ·rename_i cs Z;split
  ·rename_i T
   refine⟨C.below,C.cN,λI x D=>?_,C.tmp,C.size,C.defers,C.fix,C.cF⟩
   have D:bD σ.m r (some (.aA (cs.set j (.own [n])))) I=some x:=D;by_cases U:I=r
   ·subst U;rw[bI]at D;injection D with D;subst D;cases C.root I _ Z with
    | aA b off cells e cs us h1 O hh hs hc=>
     refine .aA b off cells e _ us h1 O hh (by rw[jb];exact hs) λi z E=>?_
     rw[List.getElem?_set]at E;by_cases hi:j=i
     ·subst hi;have de:j<cs.length:=(dI.1 T).1;rw[aW rfl,aW de]at E;injection E with E;subst E;obtain⟨k1,k2⟩:=hc j _ T;refine⟨k1,?_⟩;have hu:us j = .slice none 0 0:=by
       have O:=k2.2;generalize us j=u at O;cases O;rfl
      rw[hu];exact⟨rfl,by simp only[cK,Y]⟩
     ·grind
   ·rw[ck _ _ _ U]at D;exact C.root I x D
  ·exact C
 ·exact C
def aj8{rs:aa (Nat×Rm)}{n j r:Nat}(C:R w0 N σ a w):R w0 N (Se rs n j r σ) a w:=by
 unfold Se;split
 ·rename_i t o I;cases D:Nat.ble 60000 n with
  |false=>exact C
  | true=>
   have E:=cu D;obtain⟨af,ρ,C⟩:=C;exact⟨af,_,aj7 (y:=.nil) (C.new _ (.sl _ _ (bI _ _ _) (.eo _ _ _)) (C.cF n (.inr E))) (bI _ _ _)⟩
 ·exact C
def Sh{rs:aa (Nat×Rm)}{r:Nat}:∀ (C:aa Lm) (cs:aa Lf) (j:Nat) (σ:S),R w0 N σ a w -> R w0 N (BZ rs r j C cs σ) a w
 |[],cs,j,σ,h=>by unfold BZ;exact h
 | m :: C,[],j,σ,h=>by
  unfold BZ;simp_all
 | m :: C,c :: cs,j,σ,h=>by
  unfold BZ;split
  next D E=>cases D;cases E;exact Sh C cs _ _ (aj8 h)
  next D E=>cases D;cases E;exact Sh C cs _ _ h
  ·exact h
def G4{rs:aa (Nat×Rm)}:∀ (ps:aa (Nat×Rm)) (σ:S),R w0 N σ a w -> R w0 N (Lx rs ps σ) a w
 |[],σ,h=>h
 |(r,.sl t o)::ps,σ,h=>G4 ps σ h
 |(r,.st t)::ps,σ,h=>G4 ps σ h
 |(r,.mp)::ps,σ,h=>G4 ps σ h
 | (r,.aA C) :: ps,σ,h=>by
  refine G4 ps _ ?_;split
  ·exact Sh C _ 0 σ h
  ·exact h
def Zu{rs:aa (Nat×Rm)}:∀ (ps:aa (Nat×Tm)) (σ:S),R w0 N σ a w->R w0 N (Lw rs ps σ) a w
 |[],σ,h=>h
 |p::ps,σ,h=>Zu ps _ (aj6 h)
def jj.qf{C:jj}{x:C.St}(h:C.rd σ=some x)(D:R w0 N σ a w):R w0 N (C.mk' x) a w:=by
 unfold jj.rd at h;split at h
 next y I=>injection h with h;subst h;exact jj.Zq I D
 ·have D:=Zu (rs:=C.rs) C.ts σ D;revert h D;generalize Lw C.rs C.ts σ=O;intro h D;unfold jj.Zo at h;cases E:(C.rn O).ok with
  |false=>simp_all
  | true=>
   rw[E,aq]at h;obtain⟨af,ρ,D⟩:=D;exact jj.Zq h (G4 C.rs _ ⟨_,_,D.dW E⟩)
end
def yb:aa V->aa Nat->aa Lf
 |[],_=>[]
 | x :: xs,ns=>bif x.plain then .v x :: yb xs ns else (match ns with
  |n::ns=>.own [n]::yb xs ns
  |[]=>.dead::yb xs [])
def B0:aa V->aa Nat->(Nat->ah aQ)->Nat->ah aQ
 |[],_,m,k=>m k
 | x :: xs,ns,m,k=>bif x.plain then B0 xs ns m k else (match ns with
  |n::ns=>bif Nat.beq k n then some (.sl x)else B0 xs ns m k
  |[]=>B0 xs [] m k)
def kz(m:Nat->ah aQ):aa Lf->aa Nat->ah (aa V)
 |[],[]=>some []
 | .v x :: cs,ns=>bif x.plain then (match kz m cs ns with
  |some C=>some (x::C)
  |none=>none)else none
 | .own [r] :: cs,n :: ns=>bif Nat.beq r n then (match m n with
  | some (.sl y)=>bif y.plain then none else (match kz m cs ns with
   |some C=>some (y::C)
   |none=>none)
  |_=>none)else none
 |_,_=>none
abbrev Gp:=Nat×TC×Nat×aa Nat
def G5:aa Gp->Type->Type
 |[],X=>X
 |g::gs,X=>T g.2.1×G5 gs X
def Lz:(gs:aa Gp)->(rs:aa (Nat×Rm))->G5 gs (xY rs)->Nat->ah aQ
 |[],rs,x,k=>ya rs x k
 |(n,t,o,ns)::gs,rs,x,k=>bif Nat.beq k n then some (.aA (yb (enc t o x.1) ns))else B0 (enc t o x.1) ns (Lz gs rs x.2) k
def LA:(gs:aa Gp)->(rs:aa (Nat×Rm))->(Nat->ah aQ)->ah (G5 gs (xY rs))
 |[],rs,m=>D3 rs m
 | (n,t,o,ns) :: gs,rs,m=>match m n with
  | some (.aA cs)=>(match kz m cs ns with
   | some C=>(match dec t o C,LA gs rs m with
    |some x,some y=>some (x,y)
    |_,_=>none)
   |none=>none)
  |_=>none
def D4:aa V->aa Nat->aa Lm
 |[],_=>[]
 |.int k _::xs,ns=>.int k::D4 xs ns
 |.bool _::xs,ns=>.bool::D4 xs ns
 |.str _::xs,ns=>.str::D4 xs ns
 |_::xs,n::ns=>.own n::D4 xs ns
 |_::xs,[]=>.bool::D4 xs []
def Si:aa V->aa Nat->aa (Nat×Rm)
 |.sl t o _ _::xs,n::ns=>(n,.sl t o)::Si xs ns
 |_::xs,ns=>Si xs ns
 |[],_=>[]
def Sj:aa Gp->aa (Nat×Rm)->aa (Nat×Rm)
 |[],rs=>rs
 |(n,t,o,ns)::gs,rs=>(n,.aA (D4 (Ws t o) ns))::(Si (Ws t o) ns++Sj gs rs)
structure bC where
 ts:List (Nat×Tm)
 rs:List (Nat×Rm)
 gs:List Gp
def bC.St(C:bC):Type:=D2 C.ts×G5 C.gs (xY C.rs)
def bC.mk'(C:bC)(x:C.St):S:=⟨xX C.ts x.1,Lz C.gs C.rs x.2⟩
def bC.LB(C:bC)(σ:S):ah C.St:=match G3 C.ts σ.t,LA C.gs C.rs σ.m with
 |some x,some y=>some (x,y)
 |_,_=>none
def bC.rd(C:bC)(σ:S):ah C.St:=match C.LB σ with
 |some x=>some x
 | none=>match jj.rd ⟨C.ts,Sj C.gs C.rs⟩ σ with
  |some z=>C.LB (jj.mk' ⟨C.ts,Sj C.gs C.rs⟩ z)
  |none=>none
section
variable {P:Program} {w w':World} {w0:Wd} {B N:Nat} {af az:bh} {ρ ρ':Nat->Loc} {σ:S} {a:Act} {m:Nat->ah aQ}
def kO.inv{x:V}{xs ys:aa V}(k:kO (x :: xs) ys):∃ y zs,ys=y :: zs/\Wk x y/\kO xs zs:=by
 obtain⟨C,D⟩:=k;cases ys with
 |nil=>simp at C
 |cons y zs=>exact⟨y,zs,rfl,D 0 x y rfl rfl,by simpa using C,λj a b E I=>D (j+1) a b (by simpa using E) (by simpa using I)⟩
def Wk.Zv{x y:V}(h:Wk x y)(C:x.plain=true):y=x:=by
 cases h<;>first|rfl|cases C
def Wk.Zw{x y:V}(h:Wk x y)(C:x.plain=false):y.plain=false:=by
 cases h<;>first|exact C|rfl
def Sk:∀ (cs:aa Lf) (ns:aa Nat) (C ys:aa V),kz m cs ns=some C -> kO C ys -> (yb ys ns).length=cs.length /\ ∀ (j:Nat) z,(yb ys ns)[j]?=some z -> cs[j]?=some z
 | [],[],C,ys,h,E=>by
  simp only[kz,ig]at h;subst h;have:ys=[]:=vg E.1.symm;subst this;exact⟨rfl,λj z I=>by simp[yb]at I⟩
 | .v x :: cs,ns,C,ys,h,E=>by
  unfold kz at h;cases D:x.plain with
  |false=>simp_all
  | true=>
   rw[D,aq]at h;split at h
   ·rename_i us O;injection h with h;subst h;obtain⟨y,zs,rfl,T,U⟩:=E.inv;obtain rfl:=T.Zv D;obtain⟨Y,e2⟩:=Sk cs ns us zs O U;simp only[yb,D,aq]
    refine⟨by simp[Y],λj z I=>?_⟩
    cases j with
    |zero=>simp_all
    |succ j=>simp_all
   ·cases h
 | .own [r] :: cs,n :: ns,C,ys,h,E=>by
  unfold kz at h;cases Z:Nat.beq r n with
  |false=>simp_all
  | true=>
   rw[Z,aq]at h;obtain rfl:=cH Z;split at h
   ·rename_i y hy;cases D:y.plain with
    |true=>simp_all
    | false=>
     rw[D,av]at h;split at h
     ·rename_i us O;injection h with h;subst h;obtain⟨y',zs,rfl,T,U⟩:=E.inv;have hq:=T.Zw D;obtain⟨Y,e2⟩:=Sk cs ns us zs O U;simp only[yb,hq,av]
      refine⟨by simp[Y],λj z I=>?_⟩
      cases j with
      |zero=>simp_all
      |succ j=>simp_all
     ·cases h
   ·cases h
 |[],_::_,C,ys,h,_=>by simp[kz]at h
 |.dead::_,_,C,ys,h,_=>by simp[kz]at h
 |.own []::_,_,C,ys,h,_=>by simp[kz]at h
 |.own (_::_::_)::_,_,C,ys,h,_=>by simp[kz]at h
 |.own [_]::_,[],C,ys,h,_=>by simp[kz]at h
def Sn{f:Nat -> ah aQ}{k:Nat}{x:aQ}:∀ (cs:aa Lf) (ns:aa Nat) (D ys:aa V),kz m cs ns=some D -> kO D ys -> B0 ys ns f k=some x -> f k=some x \/ ∃ v y,m k=some (.sl v)/\x = .sl y/\Wk v y
 | [],[],D,ys,h,I,C=>by
  simp only[kz,ig]at h;subst h;have:ys=[]:=vg I.1.symm;subst this;exact .inl C
 | .v x' :: cs,ns,D,ys,h,I,C=>by
  unfold kz at h;cases E:x'.plain with
  |false=>simp_all
  | true=>
   rw[E,aq]at h;split at h
   next us O=>injection h with h;subst h;obtain⟨y,zs,rfl,T,U⟩:=I.inv;obtain rfl:=T.Zv E;simp[B0,E]at C;exact Sn cs ns us zs O U C
   ·cases h
 | .own [r] :: cs,n :: ns,D,ys,h,I,C=>by
  unfold kz at h;cases Z:Nat.beq r n with
  |false=>simp_all
  | true=>
   rw[Z,aq]at h;obtain rfl:=cH Z;split at h
   ·rename_i y hy;cases E:y.plain with
    |true=>simp_all
    | false=>
     rw[E,av]at h;split at h
     ·rename_i us O;injection h with h;subst h;obtain⟨y',zs,rfl,T,U⟩:=I.inv;have hq:=T.Zw E;simp only[B0,hq,av]at C;cases Y:Nat.beq k r with
      | true=>
       rw[Y]at C;injection C with C;obtain rfl:=cH Y
       grind
      | false=>
       rw[Y]at C;exact Sn cs ns us zs O U C
     ·cases h
   ·cases h
 |[],_::_,D,ys,h,_,_=>by simp[kz]at h
 |.dead::_,_,D,ys,h,_,_=>by simp[kz]at h
 |.own []::_,_,D,ys,h,_,_=>by simp[kz]at h
 |.own (_::_::_)::_,_,D,ys,h,_,_=>by simp[kz]at h
 |.own [_]::_,[],D,ys,h,_,_=>by simp[kz]at h
def Zx:∀ (gs:aa Gp) (rs:aa (Nat×Rm)) (y:G5 gs (xY rs)),LA gs rs m=some y -> ∀ k x,Lz gs rs y k=some x -> ∃ O,m k=some O /\ ∀ (w:World) (B:Nat) (af:bh) (ρ:Nat -> Loc),dS w B af ρ k O -> dS w B af ρ k x
 | [],rs,y,h,k,x,C=>by
  have h:D3 rs m=some y:=h;have C:ya rs y k=some x:=C;rcases Sg rs m y h k with e|⟨m',O,z,E,I,e3⟩
  ·simp_all
  ·rw[e3]at C;injection C with C;subst C;exact⟨O,E,λw B af ρ D=>Rm.qf I D⟩
 | (n,t,o,ns) :: gs,rs,y,h,k,x,C=>by
  unfold LA at h;split at h
  ·rename_i cs hm;split at h
   ·rename_i T Z;split at h
    ·rename_i x1 y1 h1 h2;injection h with h;subst h;have hw:=lC t o T x1 h1;simp only[Lz]at C;cases U:Nat.beq k n with
     | true=>
      rw[U,aq]at C;injection C with C;subst C;obtain rfl:=cH U;obtain⟨E,I⟩:=Sk cs ns T _ Z hw
      refine⟨_,hm,λw B af ρ D=>?_⟩
      cases D with
      |aA b off cells e _ us Y hl hh hs hc=>exact .aA b off cells e _ us Y hl hh (by rw[E];exact hs) λj z hz=>hc j z (I j z hz)
     | false=>
      rw[U,av]at C;rcases Sn cs ns T _ Z hw C with e|⟨v,y',E,rfl,I⟩
      ·exact Zx gs rs y1 h2 k x e
      ·refine⟨_,E,λw B af ρ D=>?_⟩
       cases D with
       |sl u _ Y D=>exact .sl u _ Y (D.wk I)
    ·cases h
   ·cases h
  ·cases h
def bC.Zy{D:bC}{x:D.St}(h:D.LB σ=some x)(C:R w0 N σ a w):R w0 N (D.mk' x) a w:=by
 unfold bC.LB at h;split at h
 ·rename_i u v O T;injection h with h;subst h;obtain⟨af,ρ,C⟩:=C
  refine⟨af,ρ,C.below,C.cN,λn y U=>?_,λk=>?_,C.size,C.defers,C.fix,C.cF⟩
  ·obtain⟨Y,E,I⟩:=Zx D.gs D.rs v T n y U;exact I _ _ _ _ (C.root n Y E)
  ·show RA _ _ _ _ (xX D.ts u k) _;rcases Sf D.ts σ.t u O k with e | ⟨m,z,E,I⟩
   ·rw[e];trivial
   ·rw[I];exact Tm.qf E (C.tmp k)
 ·cases h
def bC.qf{C:bC}{x:C.St}(h:C.rd σ=some x)(D:R w0 N σ a w):R w0 N (C.mk' x) a w:=by
 unfold bC.rd at h;split at h
 next y E=>injection h with h;subst h;exact bC.Zy E D
 ·split at h
  next z I=>exact bC.Zy h (jj.qf I D)
  ·cases h
end
def zZ:Exit->ah Nat
 |.normal=>some 0
 |.ret=>some 1
 |.exit n=>some (n+2)
 |_=>none
def So:Nat->Exit
 |0=>.normal
 |1=>.ret
 |n+2=>.exit n
def sR{e:Exit}{n:Nat}(h:zZ e=some n):e=So n:=by
 cases e<;>simp[zZ]at h<;>subst h<;>rfl
def uz:aa (Nat×bC)->Type
 |[]=>Empty
 |(_,C)::r=>C.St⊕uz r
def LC:(l:aa (Nat×bC))->Nat->S->ah (uz l)
 |[],_,_=>none
 | (n,C) :: r,e,σ=>bif Nat.beq n e then (match C.rd σ with
  |some x=>some (.inl x)
  |none=>none)else (match LC r e σ with
  |some x=>some (.inr x)
  |none=>none)
def Sp{X:Type}:(l:aa (Nat×bC))->uz l->(Exit->S->ah X)->ah X
 |[],z,_=>nomatch z
 | (n,C) :: r,z,k=>match z with
  |.inl x=>k (So n) (C.mk' x)
  |.inr z=>Sp r z k
def iter{α β:Type}(step:α->ah (α⊕β)):Nat->α->ah β
 |0,_=>none
 | n+1,x=>match step x with
  |some (.inl y)=>iter step n y
  |some (.inr z)=>some z
  |none=>none
def D5(P:Program)(N:Nat)(Φ:dX)(Λ:mj)(body:Code)(C:bC)(D:aa (Nat×bC))(x:C.St):ah (C.St⊕uz D):=
 kU P N Φ Λ body (C.mk' x) λe σ=>match zZ e with
  | some 0=>(match C.rd σ with
   |some x=>some (.inl x)
   |none=>none)
  | some n=>(match LC D n σ with
   |some x=>some (.inr x)
   |none=>none)
  |none=>none
def Sq{X:Type}(id:Nat)(k:Exit->S->ah X)(e:Exit)(σ:S):ah X:=
 match e with
 |.exit C=>if C=id then k .normal σ else k (.exit C) σ
 |e=>k e σ
def LD(id:Nat)(C:bC)(D:aa (Nat×bC))(F:C.St->ah (C.St⊕uz D))(fuel:C.St->Nat):sK:=
 ⟨λX σ k=>match C.rd σ with
  | some x=>(match iter F (fuel x) x with
   |some z=>Sp D z (Sq id k)
   |none=>none)
  |none=>none⟩
def kA:aa (Bool×TC)->Type
 |[]=>aj
 |(_,t)::r=>T t×kA r
def ga:(l:aa (Bool×TC))->kA l->aa Pt
 |[],_=>[]
 |(b,t)::r,x=>(b,enc t 0 x.1)::ga r x.2
def yc:(l:aa (Bool×TC))->aa Pt->ah (kA l)
 |[],[]=>some ()
 | (b,t) :: r,(C,D) :: ps=>bif b==C then (match dec t 0 D,yc r ps with
  |some x,some xs=>some (x,xs)
  |_,_=>none)else none
 |_,_=>none
def gZ(ai:aa (Bool×TC))(ro:aa (Bool×TC×Nat))(F:kA ai->ah (iw ro)):jf:=
 ⟨λX args k=>match yc ai args with
  | some x=>(match F x with
   |some y=>k (eP ro y)
   |none=>none)
  |none=>none⟩
def Sr:Pt->A
 |(false,[x])=>.lf (.v x)
 |(true,xs)=>.agg (xs.map .v)
 |(false,.bool true::c::cs)=>.iR (c::cs)
 |(false,.bool false::.int .i64 (.ofNat g)::c::cs)=>.mW g (c::cs)
 |_=>.undef
def ZA(args:aa Pt):S:=⟨λk=>match args[k]? with
 |some p=>Sr p
 |none=>.undef,λ_=>none⟩
def qg{X:Type}(P:Program)(N:Nat)(Φ:dX)(Λ:mj)(code:Code)(C:Array ResultVar)(args:aa Pt)(k:fL->ah X):ah X:=
 kU P N Φ Λ code (ZA args) λe σ=>match zZ e with
  |some 0=>F9 P σ C k
  |some 1=>F9 P σ C k
  |_=>none
section
variable {P:Program} {w w':World} {w0:Wd} {B N:Nat} {af az:bh} {ρ ρ':Nat->Loc} {σ:S} {a:Act} {X:Type} {d:Nat} {r:X} {o:Oper} {Φ:dX} {Λ:mj}
def ZB:∀ (l:aa (Nat×bC)) (e:Nat) (z:uz l),LC l e σ=some z->∀ (X:Type) (k:Exit->S->ah X),∃ E,Sp l z k=k (So e) E/\∀ a w,R w0 N σ a w->R w0 N E a w
 |[],e,z,h=>by cases h
 | (n,I) :: l,e,z,h=>by
  intro X k;unfold LC at h;cases C:Nat.beq n e with
  | true=>
   obtain rfl:=cH C;rw[C,aq]at h;split at h
   next x D=>injection h with h;subst h;exact⟨I.mk' x,rfl,λa w O=>bC.qf D O⟩
   ·cases h
  | false=>
   rw[C,av]at h;split at h
   next x D=>injection h with h;subst h;exact ZB l e x D X k
   ·cases h
def aj9{id:Nat}{body:Code}{E:bC}{U:aa (Nat×bC)}{F:E.St -> ah (E.St⊕uz U)}{fuel:E.St -> Nat}(dL:fC P Φ)(nS:oN P N Λ (occs body))(hF:∀ x,D5 P N Φ Λ body E U x=F x):BU P N (.block id (.loop body)) (LD id E U F fuel):=by
 intro X σ k r w0 h a w hR;simp only[LD]at h;split at h
 ·rename_i x I;split at h
  ·rename_i z hz;refine wp_block ?_;have key:∀ (n:Nat) (x:E.St),iter F n x=some z -> ∀ (a:Act) (w:World),R w0 N (E.mk' x) a w -> ∀ (b:Frame) (O:aa Item) (cs:aa Frame),
     ∃e T w',Exit.inBlock id (λe T w'=>∃cB,k e cB=some r/\R w0 N cB T w') e T w'/\Arrives P (lone (b.at a (.code body::.inLoop body::O)) cs w) b O cs e T w':=by
    intro n
    induction n with
    |zero=>intro x I;simp[iter]at I
    | succ n ih=>
     intro x I a w hR b O cs;simp only[iter]at I;have jL:∃ y,D5 P N Φ Λ body E U x=some y/\(match y with | .inl y=>iter F n y=some z | .inr z'=>z'=z):=by
      rw[hF];split at I
      ·grind
      ·grind
      ·cases I
     obtain⟨y,hy,Y⟩:=jL;unfold D5 at hy;have hwp:=D1 (w0:=w0) dL body _ _ hy nS a w hR;obtain⟨e,a1,w1,⟨p7,D,sH⟩,Z⟩:=hwp b (.inLoop body::O) cs;split at D
     ·rename_i C;have C:=sR C;subst C;split at D
      next x1 Gq=>injection D with D;subst D;obtain⟨e2,a2,w2,xl,aka⟩:=ih x1 Y a1 w1 (bC.qf Gq sH) b O cs;exact⟨e2,a2,w2,xl,.of_steps (Steps.trans Z (.one step_inLoop)) aka⟩
      ·cases D
     ·rename_i n' cm C;have C:=sR C;split at D
      ·rename_i z1 yd;injection D with D;subst D;have Y:z1=z:=Y;subst Y;obtain⟨σ2,nH,m7⟩:=ZB (w0:=w0) (N:=N) U n' z1 yd X (Sq id k);rw[nH]at h;rw[<- C]at h;refine⟨e,a1,w1,?_,?_⟩
       ·cases e with
        | exit Zk=>
         simp only[Sq]at h;simp only[Exit.inBlock];split at h
         ·grind
         ·grind
        |_=>exact⟨σ2,h,m7 a1 w1 sH⟩
       ·refine .pass (x:=.inLoop body) rfl (λ_ _=>.inl ?_) Z
        intro e';rw[e']at C
        match n',cm,C with
        |0,cm,_=>exact cm rfl
        |1,_,C=>cases C
        |n+2,_,C=>cases C
      ·cases D
     ·cases D
   intro b O cs;obtain⟨e,T,w',hq,Z⟩:=key (fuel x) x hz a w (bC.qf I hR) b O cs;exact⟨e,T,w',hq,.of_steps (.one step_loop) Z⟩
  ·cases h
 ·cases h
def PV.uj{key:Nat->aa Nat}{b:Bool}{xs ys:aa V}{u:Value}(h:PV w B af key (b,xs) u)(k:kO xs ys):PV w B af key (b,ys) u:=by
 obtain⟨us,E,I,O⟩:=h
 refine⟨us,E,I.trans k.1,λj y C=>?_⟩
 have D:j<xs.length:=by rw[k.1];exact(dI.1 C).1
 obtain⟨v,T,U⟩:=O j _ (bK D);exact⟨v,T,U.wk (k.2 j _ y (bK D) C)⟩
def zo.uj{cs C:aa V}{u:Value}(h:zo w cs u)(k:kO cs C):zo w C u:=by
 obtain⟨b,off,I,O,T⟩:=h
 refine⟨b,off,I,O,λj y D=>?_⟩
 have E:j<cs.length:=by rw[k.1];exact(dI.1 D).1
 obtain⟨v,U,Y⟩:=T j _ (bK E);exact⟨v,U,Y.wk (k.2 j _ y (bK E) D)⟩
def PA.uj{b:Bool}{xs ys:aa V}{u:Value}(h:PA w (b,xs) u)(k:kO xs ys):PA w (b,ys) u:=by
 cases h with
 |v _ _ h=>exact .v _ _ (h.uj k)
 | p c cs _ h=>
  obtain⟨y,zs,rfl,C,D⟩:=k.inv;cases C;have h:=h.uj D;obtain⟨I,eS,rfl,_,_⟩:=D.inv;exact .p _ _ _ h
 | f g c cs u h=>
  obtain⟨y,zs,rfl,C,D⟩:=k.inv;cases C;obtain⟨y,zs,rfl,C,E⟩:=D.inv;cases C;have h:=h.uj E;obtain⟨I,eS,rfl,_,_⟩:=E.inv;exact .f _ _ _ _ h
def PA.ra{p:Pt}{u:Value}(h:PA w p u)(D:∀ y∈p.2,y.aF=true):RA w w.heap.size (λ_=>none) ρ (Sr p) u:=by
 have U:∀ {cs:aa V} {u:Value},zo w cs u -> (∀ y∈cs,y.aF=true) -> RF w w.heap.size (λ_=>none) cs u:=by
  rintro cs u ⟨b,off,rfl,hb,E⟩ D
  refine⟨b,off,rfl,hb,rfl,λj x Y=>⟨D x (gy Y),E j x Y⟩⟩
 cases h with
 | v _ _ h=>
  obtain⟨us,Z,hs,E⟩:=h;obtain⟨b,xs⟩:=p;cases b with
  | true=>
   refine⟨us,Z,by rw[eT];exact hs,λi y C=>?_⟩
   rw[ef]at C;cases I:xs[i]? with
   |none=>simp_all
   | some z=>
    rw[I]at C;injection C with C;subst C;obtain⟨v,O,T⟩:=E i z I;exact⟨v,O,D z (gy I),T⟩
  | false=>
   subst Z;have h1:=hs.symm;obtain⟨x,rfl⟩:=List.length_eq_one_iff.1 h1;obtain⟨v,O,T⟩:=E 0 x rfl;have:u=v:=by simpa using O
   subst this;exact⟨D x (by simp),T⟩
 |p c cs _ h=>exact U h λy C=>D y (.tail _ C)
 |f g c cs u h=>exact⟨u,rfl,U h λy C=>D y (.tail _ (.tail _ C))⟩
def Ss:∀ (l:aa (Bool×TC)) (ps:aa Pt) (x:kA l),yc l ps=some x -> (ga l x).length=ps.length /\ ∀ (i:Nat) p,(ga l x)[i]?=some p -> ∃ q,ps[i]?=some q/\q.1=p.1/\kO q.2 p.2
 |[],[],x,h=>⟨rfl,λi p C=>by simp[ga]at C⟩
 | (b,t) :: r,(E,I) :: ps,x,h=>by
  unfold yc at h;cases D:b==E with
  |false=>simp_all
  | true=>
   rw[D,aq]at h;have D:b=E:=by simpa using D
   subst D;split at h
   ·rename_i y ys O T;injection h with h;subst h;obtain⟨U,Y⟩:=Ss r ps ys T
    refine⟨by simp[ga,U],λi p C=>?_⟩
    cases i with
    |zero=>simp[ga]at C;subst C;exact⟨(b,I),rfl,rfl,lC t 0 I y O⟩
    |succ i=>exact Y i p (by simpa [ga]using C)
   ·cases h
 |[],_::_,x,h=>by simp[yc]at h
 |_::_,[],x,h=>by simp[yc]at h
def lK(l:aa (Bool×TC×Nat)):Bool:=l.all λp=>Nat.ble (full p.2.1) p.2.2
def ZC(t:TC)(g:Nat)(x:T t)(h:full t <= g):(enc t g x).all V.loc=true:=by
 rw[bS];intro y D;have I:=yR t g x y D;have E:=JT t g x y D;cases y with
 | sl O C q l=>
  have U:C=g:=by simpa [V.gr]using I
  subst U;have E:=cu E;show zp O C=true
  match C,h with
  |0,h=>omega
  |1,h=>omega
  | n+2,h=>
   simp only[zp,dZ];left;exact jc (by omega)
 |_=>rfl
def Su:∀ (l:aa (Bool×TC×Nat)) (ps:aa Pt) (x:iw l),lK l=true -> pW l ps=some x -> (ue l x).length=ps.length /\ ∀ (nm:Nat -> Nat) (off:Nat) (D:aa Value),jv w B af nm off ps D -> jv w B af nm off (ue l x) D
 |[],[],x,_,h=>⟨rfl,λnm off D E=>E⟩
 | [(b,t,g)],[(I,D)],x,T,h=>by
  unfold pW at h;cases C:b==I with
  |false=>rw[C]at h;cases h
  | true=>
   rw[C]at h;have h:dec t g D=some x:=h;have C:b=I:=by simpa using C
   subst C;have Y:full t <= g:=by simpa [lK]using T
   refine⟨rfl,λnm off us E=>?_⟩
   match us,E with
   |[u],⟨⟨_,O⟩,_⟩=>exact⟨⟨ZC t g x Y,O.uj (lC t g D x h)⟩,trivial⟩
 | (b,t,g) :: q :: r,(I,D) :: ps,x,T,h=>by
  unfold pW at h;cases C:b==I with
  |false=>grind
  | true=>
   rw[C,aq]at h;have C:b=I:=by simpa using C
   subst C;have U:full t <= g/\lK (q :: r)=true:=by
    simp only[lK,List.all_cons,aK]at T ⊢;simp_all
   split at h
   ·rename_i y ys O Z;injection h with h;subst h;obtain⟨k1,k2⟩:=Su (q :: r) ps ys U.2 Z
    refine⟨by simp[ue,k1],λnm off us E=>?_⟩
    match us,E with
    | u :: us,⟨⟨_,hp⟩,vu⟩=>
     have hlen:=(lC t g D y O).1;refine⟨⟨ZC t g y U.1,hp.uj (lC t g D y O)⟩,?_⟩;simp_all
   ·cases h
 |[],_::_,x,_,h=>by simp[pW]at h
 |[_],[],x,_,h=>by simp[pW]at h
 |[_],_::_::_,x,_,h=>by simp[pW]at h
 |_::_::_,[],x,_,h=>by simp[pW]at h
def ZD{l:aa (Bool×TC×Nat)}{E:fL}{x:iw l}(O:lK l=true)(h:lH l E=some x){nm:Nat -> Nat}{v:Value}(D:pO w B af nm E v):pO w B af nm (eP l x) v:=by
 cases E with
 | one p=>
  obtain⟨C,I⟩:=Su (w:=w) (B:=B) (af:=af) l [p] x O h;have D:jv w B af nm 0 [p] [v]:=D;have:=I nm 0 [v] D;unfold eP
  match hm:ue l x,C,this with
  |[q],_,this=>exact this
  |[],C,_=>cases C
  |_::_::_,C,_=>simp at C
 | eU ps=>
  simp only[lH]at h;cases U:Nat.beq ps.length 1 with
  |true=>simp_all
  | false=>
   rw[U,av]at h;obtain⟨C,I⟩:=Su (w:=w) (B:=B) (af:=af) l ps x O h;obtain⟨T,e,D⟩:=D;have:=I nm 0 _ D;unfold eP
   match hm:ue l x,C,this with
   |[q],C,this=>simp_all
   |[],_,this=>exact⟨T,e,this⟩
   |_::_::_,_,this=>exact⟨T,e,this⟩
def ZE:∀ (l:aa (Bool×TC)) (x:kA l),(ga l x).length=l.length
 |[],x=>rfl
 |(b,t)::l,x=>by simp[ga,ZE l]
def ZF:∀ (l:aa (Bool×TC)) (x:kA l) (j:Nat) (p:Pt),(ga l x)[j]?=some p->∀ y∈p.2,y.aF=true
 |[],x,j,p,C,_,_=>by simp[ga]at C
 | (b,t) :: l,x,0,p,C,y,D=>by
  simp[ga]at C;subst C;obtain⟨i,hi⟩:=List.mem_iff_getElem?.1 D;exact pn t 0 x.1 (by omega) i y hi
 |(b,t)::l,x,j+1,p,C,y,D=>ZF l x.2 j p (by simpa [ga]using C) y D
def G6{f:Nat}{fn:Func}{code:Code}{uA:aa Pt}{ro:aa (Bool×TC×Nat)}{y:iw ro}(hf:P.funcs[f]?=some fn)(I:fn.body=some code)(hN:fn.ntmps=N)(U:uA.length <= N)(dY:lK ro=true)
  (dL:fC P Φ) (nS:oN P N Λ (occs code)) (akb:∀(j:Nat) p,uA[j]?=some p -> ∀y∈p.2,y.aF=true) (O:qg P N Φ Λ code fn.results uA (lH ro)=some y) (nm:Nat -> Nat) (w:World) (bA:Array Value) (Y:oJ w uA bA) (Z:Hd w (λ_=>none)):
  Calls P f bA w λe w'=>∃v az,e = .returned v/\Below w.heap.size w w'/\(∀b k,az b=some k -> w.heap.size <= b/\b<w'.heap.size/\k≠[])/\pO w' w.heap.size az nm (eP ro y) v:=by
 have U:bA.size <= N:=by rw[Y.1];exact U
 refine calls_of_wp hf I ?_;unfold qg at O;have hR:R (.of w Z) N (ZA uA) { tmps:=bA++Array.replicate (fn.ntmps-bA.size) undef,defers:=[] } w:=by
  refine⟨λ_=>none,λ_=>.aA 0 0,.of (Below.refl w.heap.size w) (dH _),(λb k D=>by cases D),(λn y O=>by cases O),λj=>?_,by simp[hN];omega,rfl,(λr l h=>by cases h),(λ_ _=>rfl)⟩
  show RA w w.heap.size _ _ (match uA[j]? with|some p=>Sr p|none=>.undef) _;cases hp:uA[j]? with
  |none=>trivial
  | some p=>
   obtain⟨u,hu,sC⟩:=Y.2 j p hp;have hj:=(ic.1 hu).1;have e:(bA++Array.replicate (fn.ntmps-bA.size) undef).getD j undef=u:=by rw[gT,Array.getElem?_append_left hj,hu];rfl
   rw[e];exact sC.ra (akb j p hp)
 refine wp_mono (D1 (w0:=.of w Z) dL code _ _ O nS _ w hR) λe T w' C=>?_
 obtain⟨cB,D,af,ρ,E⟩:=C;have fin:F9 P cB fn.results (lH ro)=some y -> T.defers=[] /\ ∃ v,(results fn T.tmps).run P w' = .ok v w' /\ ∃ Aa az,Ending.returned v=Ending.returned Aa/\Below w.heap.size w w'/\(∀ b k,az b=some k -> w.heap.size <= b/\b<w'.heap.size/\k≠[])/\pO w' w.heap.size az nm (eP ro y) Aa:=by
  intro oR;obtain⟨res,jM,cY⟩:=ahq oR;obtain⟨v,az,h1,h2,h3⟩:=cY af ρ T w' E nm;exact⟨E.defers,v,h1,v,az,rfl,⟨E.below.os,E.below.tape,E.below.output,E.below.size,λk D=>E.below.block k D rfl⟩,λb k I=>⟨(h2 b k I).1.resolve_right (λh=>h rfl),(h2 b k I).2⟩,ZD dY jM h3⟩
 split at D
 next C=>have C:=sR C;subst C;exact fin D
 next C=>have C:=sR C;subst C;exact fin D
 ·cases D
def akc{ai:aa (Bool×TC)}{args:aa Pt}{x:kA ai}{bA:Array Value}(E:yc ai args=some x)(C:oJ w args bA):oJ w (ga ai x) bA:=by
 obtain⟨I,O⟩:=Ss ai args x E
 refine⟨C.1.trans I.symm,λj p T=>?_⟩
 obtain⟨q,U,D,Y⟩:=O j p T;obtain⟨u,Z,sC⟩:=C.2 j q U;refine⟨u,Z,?_⟩;obtain⟨b,ys⟩:=p;obtain⟨b',xs⟩:=q;simp only at D;subst D;exact sC.uj Y
def Sv{f:Nat}{ai:aa (Bool×TC)}{ro:aa (Bool×TC×Nat)}{F:kA ai->ah (iw ro)}(h:∀ x y,F x=some y->∀ (nm:Nat->Nat) (w:World) (bA:Array Value),oJ w (ga ai x) bA->Hd w (λ_=>none)->
  Calls P f bA w λe w'=>∃v az,e = .returned v/\Below w.heap.size w w'/\(∀b k,az b=some k->w.heap.size<=b/\b<w'.heap.size/\k≠[])/\pO w' w.heap.size az nm (eP ro y) v):iL P f (gZ ai ro F):=by
 refine⟨λargs X Y k g=>?_,λargs T C nm w bA D E=>?_⟩
 ·unfold gZ;dsimp only;split
  ·split<;>rfl
  ·rfl
 ·simp only[gZ]at C;split at C
  ·rename_i x I;split at C
   next y O=>injection C with C;subst C;exact h x y O nm w bA (akc I D) E
   ·cases C
  ·cases C
def akd{f:Nat}{fn:Func}{code:Code}{ai:aa (Bool×TC)}{ro:aa (Bool×TC×Nat)}{F:kA ai->ah (iw ro)}(C:P.funcs[f]?=some fn)(D:fn.body=some code)(E:fn.ntmps=N)(I:(fn.name == "runtime.NumGoroutine")=false)(O:Nat.ble ai.length N=true)(T:lK ro=true)
  (U:fC P Φ) (Y:oN P N Λ (occs code)) (Z:∀x,qg P N Φ Λ code fn.results (ga ai x) (lH ro)=F x):enters P f/\iL P f (gZ ai ro F):=
 ⟨⟨fn,C,I,by rw[D];rfl⟩,Sv λx y hy nm w bA lG hQ=>G6 C D E (by rw[ZE];exact cu O) T U Y (ZF ai x) ((Z x).trans hy) nm w bA lG hQ⟩
def ake{f:Nat}{fn:Func}{code:Code}{t:TC}{g:Nat}{F:aa (T t)->ah (aa (T t))}(E:P.funcs[f]?=some fn)(I:fn.body=some code)(U:fn.ntmps=N)(ye:(fn.name == "runtime.NumGoroutine")=false)(G7:Nat.ble 1 N=true)(Y:lK [(false,.sl t,g)]=true)
  (Z:fC P Φ) (nS:oN P N Λ (occs code)) (hF:∀x:aa (T t),qg P N Φ Λ code fn.results [(false,[.sl t 0 false x])] (lH [(false,.sl t,g)])=F x)
  (h0:qg P N Φ Λ code fn.results [(false,[.nil])] (lH [(false,.sl t,g)])=some ([]:aa (T t))) (h1:qg P N Φ Λ code fn.results [(false,[.sl t 0 true []])] (lH [(false,.sl t,g)])=some ([]:aa (T t))):
  enters P f/\iL P f (gZ [(false,.sl t)] [(false,.sl t,g)] λx=>bif ju x.1 then some ([]:aa (T t))else F x.1):=by
 refine⟨⟨fn,E,ye,by rw[I];rfl⟩,Sv λx y D nm w bA O hQ=>?_⟩
 obtain⟨l,_⟩:=x;have O:oJ w [(false,[.sl t 0 false l])] bA:=O;have hle:1<=N:=cu G7;have LF:∀ (v:V),v.aF=true->∀ (j:Nat) p,([(false,[v])]:aa Pt)[j]?=some p->∀ y∈p.2,y.aF=true:=by
  intro v hv j p C y D;rcases j with _|j
  ·injection C with C;subst C;rw[gL.1 D];exact hv
  ·cases C
 obtain⟨u,hu,C⟩:=O.2 0 _ rfl;obtain⟨us,e,_,hv⟩:=C.pv;have e:us = #[u]:=e;subst e;obtain⟨v,g1,hr⟩:=hv 0 _ rfl;have g1:u=v:=by simpa using g1
 subst g1;have one:∀ v:V,RV w w.heap.size (λ_=>none) [] v u->oJ w [(false,[v])] bA:=λv hr=>⟨O.1,λj p C=>by
  rcases j with _|j
  ·injection C with C;subst C;exact⟨u,hu,.v _ _ ⟨#[u],rfl,rfl,λi x hx=>by
    rcases i with _|i
    ·injection hx with hx;subst hx;exact⟨u,rfl,hr⟩
    ·cases hx⟩⟩
  ·cases C⟩
 cases l with
 |cons a l=>exact G6 (uA:=[(false,[.sl t 0 false (a::l)])]) E I U hle Y Z nS (LF _ rfl) ((hF _).trans D) nm w bA O hQ
 | nil=>
  have D:some ([]:aa (T t))=some y:=D;injection D with D;subst D;cases hr with
  |eo=>exact G6 (uA:=[(false,[.nil])]) E I U hle Y Z nS (LF _ rfl) h0 nm w bA (one _ (.nil _)) hQ
  |fy _ _ _ A c ho=>exact G6 (uA:=[(false,[.sl t 0 true []])]) E I U hle Y Z nS (LF _ rfl) h1 nm w bA (one _ (.fH _ _ _ _ _ ho)) hQ
  |aF _ _ _ qn l b off cap us ho hl Dp hB iI hc lY=>exact G6 (uA:=[(false,[.sl t 0 true []])]) E I U hle Y Z nS (LF _ rfl) h1 nm w bA (one _ (.fH _ _ _ _ _ ho)) hQ
end
def G8(N:Nat)(σ:S)(t:Nat):S:=match σ.t t with
 | .view [q] s 0 j=>bif Nat.blt t N then (match σ.m q with
  |some (.sl (.sl tc (o+2) C l))=>bif Nat.beq (full tc) 0 then (((σ.drop q).drop t).root t (.sl (.sl tc 2 false (l.take j)))).set t (.lf (.own [t]))else σ
  |_=>σ)else σ
 |_=>σ
def vO(N:Nat)(σ:S):aa ResultVar->S
 |[]=>σ
 |.tmp t::r=>vO N (G8 N σ t) r
 |_::r=>vO N σ r
def B1{X:Type}(P:Program)(N:Nat)(Φ:dX)(Λ:mj)(code:Code)(C:Array ResultVar)(D:aa In)(args:aa Ar)(k:aa In->fL->ah X):ah X:=
 kU P N Φ Λ code (xD D args) λe σ=>match zZ e with
  |some 0=>Gf P (vO N σ C.toList) C D k
  |some 1=>Gf P (vO N σ C.toList) C D k
  |_=>none
section
variable {P:Program} {w w':World} {w0:Wd} {B N:Nat} {af az:bh} {ρ ρ':Nat->Loc} {σ:S} {a:Act} {X:Type} {d:Nat} {r:X} {o:Oper} {Φ:dX} {Λ:mj}
def Rl.G8{t:Nat}(h:Rl w0 N af ρ σ a w):∃ az ρ',Rl w0 N az ρ' (Proofs.YtgjfmljpdnnihaaGreat.G8 N σ t) a w:=by
 unfold Proofs.YtgjfmljpdnnihaaGreat.G8;split
 ·rename_i q s j ht;cases hN:Nat.blt t N with
  |false=>exact⟨af,ρ,h⟩
  | true=>
   have hN:t<N:=by have:=cu hN;omega
   rw[aq];split
   ·rename_i tc g qn l hm;cases U:Nat.beq (full tc) 0 with
    |false=>exact⟨af,ρ,h⟩
    | true=>
     have U:=cH U;rw[aq];have hv:=h.tmp t;rw[ht]at hv;obtain⟨A,n,c,Z,_,hj,hu⟩:=hv;have fU:sliced A 0 j c s = .slice A j c:=by cases A<;>simp[sliced,Addr.add]
     rw[fU]at hu;let D:bh:=λb=>match af b with
      |some k=>bif cD q k then (bif Nat.beq k.length 1 then some [t]else none)else some k
      |none=>none
     have hrel:Rel q af D:=⟨h.w8,λb hb=>by simp[D,hb],λb k hb C=>by simp[D,hb,C]⟩
     have h1:=h.rel hrel (λb k C=>by
      simp only[D]at C;cases Y:af b with
      |none=>rw[Y]at C;cases C
      | some k'=>
       rw[Y]at C;simp only at C;refine⟨⟨_,rfl⟩,?_⟩;cases hq:cD q k' with
       | true=>
        rw[hq,aq]at C;cases hlen:Nat.beq k'.length 1 with
        |true=>rw[hlen,aq]at C;injection C with C;rw[<- C];simp
        |false=>rw[hlen,av]at C;cases C
       | false=>
        rw[hq,av]at C;injection C with C;subst C;exact(h.cN b k' Y).2.2)
     have dY:=h.root q _ hm;generalize I:aQ.sl (.sl tc (g+2) qn l)=z at dY;cases dY with
     |aA=>cases I
     |mp=>cases I
     |gh=>cases I
     | sl v y bX O=>
      injection I with I;subst I;simp only[cK,bX]at Z;injection Z with Z;subst Z;have hn:n=l.length:=by cases O<;>rfl
      have akf:RV w w0.heap.size D [t] (.sl tc 2 false (l.take j)) (.slice A j c):=by
       cases O with
       | eo=>
        have:j=0:=by simpa using hj
        subst this;exact .eo _ _ _
       |fy _ _ _ _ _ ho=>omega
       |fH _ _ _ _ _ ho=>omega
       |aF _ _ _ _ _ _ _ _ _ ho=>omega
       | own _ _ _ _ _ b cap cs us pJ hh hs Bk r7 hc O=>
        have Y:(l.take j).length=j:=by rw[kL];omega
        have hle:∀i (hi:i<(l.take j).length),∃vJ:i<l.length,(l.take j)[i]=l[i]:=λi hi=>⟨by omega,List.getElem_take⟩
        have:=RV.own (w:=w) (B:=w0.heap.size) (af:=D) [t] tc 0 false (l.take j) b c cs us (by simp[D,pJ,cD]) hh hs (by omega) ⟨r7.1,λh=>by cases h⟩ (λi hi k x T=>by
         obtain⟨vJ,e⟩:=hle i hi;rw[e,Dv tc U 0]at T;exact hc i vJ k x T) (λi hi k x T=>by
         obtain⟨vJ,e⟩:=hle i hi;rw[e,Dv tc U 0]at T;exact(O i vJ k x T).tR (yQ tc g _ U x (gy T)))
        rw[Y]at this;exact this
      have hrm:Dq w w D D t:=⟨dH _,λ_ _ _=>rfl,λ_ _=>rfl,h1.w8⟩
      have E:=h1.yZ (d:=t) (ρ':=bD ρ t (.dA (.slice A j c))) (x:=.sl (.sl tc 2 false (l.take j))) (h.cF t (.inl hN)) ⟨rfl,rfl,rfl,dH _,λ_ _ _=>rfl⟩ hrm (λb k hb C=>by
       have:=(h1.cN b k C).2.1;omega) (λr O=>ck _ _ _ O) (.sl _ _ (bI _ _ _) akf)
      refine⟨_,_,E.below,E.cN,E.root,λk=>?_,E.size,E.defers,E.fix,E.cF⟩
      show RA w w0.heap.size D _ (bD _ t _ k) _;by_cases C:k=t
      ·subst C;rw[bI,hu];exact⟨rfl,by simp only[cK,bI]⟩
      ·rw[ck _ _ _ C];exact E.tmp k
   ·exact⟨af,ρ,h⟩
 ·exact⟨af,ρ,h⟩
def Rl.vO:∀ (l:aa ResultVar) (σ:S) (af:bh) (ρ:Nat -> Loc),Rl w0 N af ρ σ a w -> ∃ az ρ',Rl w0 N az ρ' (Proofs.YtgjfmljpdnnihaaGreat.vO N σ l) a w
 |[],_,af,ρ,h=>⟨af,ρ,h⟩
 | .tmp t :: r,_,_,_,h=>by
  obtain⟨C,D,E⟩:=h.G8;exact Rl.vO r _ C D E
 |.cell _ _::r,_,af,ρ,h=>Rl.vO r _ af ρ h
def fnM_core{f:Nat}{fn:Func}{code:Code}{C:aa In}{args:aa Ar}{k:aa In -> fL -> ah X}(hf:P.funcs[f]?=some fn)(T:fn.body=some code)(hN:fn.ntmps=N)(Ab:N <= 20000)(hlen:args.length <= N)
  (dL:fC P Φ) (nS:oN P N Λ (occs code)) (h:B1 P N Φ Λ code fn.results C args k=some r) (nm:Nat -> Nat) (w:World) (af:bh) (ρ:Nat -> Loc) (bA:Array Value)
  (hE:oK w w.heap.size af ρ 0 C) (kQ:∀b k,af b=some k -> b<w.heap.size/\k≠[]) (ia:bA.size=args.length) (hv:∀i,RA w w.heap.size af ρ ((xD C args).t i) (bA.getD i undef)) (U:Hd w af):
  Calls P f bA w λe w'=>∃v az outs D,k outs D=some r/\e = .returned v/\iS ⟨w,af,λ_=>none,U,λ_ _=>rfl⟩ w w'/\(∀b k,az b=some k -> (w.heap.size <= b \/ af b≠none)/\b<w'.heap.size/\k≠[])/\pO w' w.heap.size az nm D v/\qZ w w' az ρ nm 0 D.len C outs:=by
 let W:Wd:=⟨w,af,λr=>if 20000 <= r/\r<60000 then some (ρ r)else none,U,λr hr=>aX⟩
 refine calls_of_wp hf T ?_;unfold B1 at h;have hR:R W N (xD C args) { tmps:=bA++Array.replicate (fn.ntmps-bA.size) undef,defers:=[] } w:=by
  refine⟨af,ρ,.of (Below.refl w.heap.size w) (dH _),λb k T=>⟨.inr (by rw[show W.L b=af b from rfl,T];simp),kQ b k T⟩,oK.roots C 0 _ hE (λr x hx=>by cases hx),λj=>?_,by simp[hN];omega,rfl,λr l hr=>?_,λr hr=>?_⟩
  ·by_cases hj:j<bA.size
   ·have e:(bA++Array.replicate (fn.ntmps-bA.size) undef).getD j undef=bA.getD j undef:=by
     rw[gT,Array.getElem?_append_left hj,gT]
    rw[e];exact hv j
   ·have e:(xD C args).t j = .undef:=by
     simp only[xD,o9 (by omega:args.length <= j)]
    rw[e];trivial
  ·grind
  ·grind
 refine wp_mono (D1 (w0:=W) dL code _ _ h nS _ w hR) λe Y w' E=>?_
 obtain⟨cB,O,DE,sA,I⟩:=E;have fin:Gf P (Proofs.YtgjfmljpdnnihaaGreat.vO N cB fn.results.toList) fn.results C k=some r -> Y.defers=[] /\ ∃ v,(results fn Y.tmps).run P w' = .ok v w' /\ ∃ Aa az outs D,k outs D=some r/\Ending.returned v=Ending.returned Aa/\iS ⟨w,af,λ_=>none,U,λ_ _=>rfl⟩ w w'/\(∀ b k,az b=some k -> (w.heap.size <= b \/ af b≠none)/\b<w'.heap.size/\k≠[])/\pO w' w.heap.size az nm D Aa/\qZ w w' az ρ nm 0 D.len C outs:=by
  intro oR;obtain⟨outs,D,hko,cY⟩:=ahs (w0:=W) rfl (λr Z h2=>aW ⟨Z,h2⟩) (oK.Qg C 0 hE) oR;obtain⟨dx,eW,m7⟩:=Rl.vO _ cB DE sA I;obtain⟨v,az,Z,h2,h3,h4⟩:=cY dx eW Y w' m7 nm;exact⟨I.defers,v,Z,v,az,outs,D,hko,rfl,⟨I.below.os,I.below.tape,I.below.output,I.below.size,λk O=>I.below.block k O⟩,h2,h3,h4⟩
 split at O
 next E=>have E:=sR E;subst E;exact fin O
 next E=>have E:=sR E;subst E;exact fin O
 ·cases O
end
def rC:(l:aa (Bool×TC×Nat))->aa In->ah (q5 l)
 |[],[]=>some ()
 | (true,t,g) :: r,.aA cs :: is=>match dec t g cs,rC r is with
  |some x,some xs=>some (x,xs)
  |_,_=>none
 | (false,t,g) :: r,.sl y :: is=>match (bif Nat.ble 1000000 g then (bif y.jI then none else y.fj t (g+2))else bif y.jI then y.fj t (g+2)else none),rC r is with
  |some x,some xs=>some (x,xs)
  |_,_=>none
 |_,_=>none
def LG:aa In->aa In->aa In->Prop
 |[],[],[]=>True
 |.aA I::C,.aA cs::r,.aA eS::D=>(kO cs eS/\I.map (λv=>(v.plain,v.aF))=eS.map (λv=>(v.plain,v.aF))/\∀x∈eS,x.jI=true)/\LG C r D
 |.sl _::C,.sl y::r,.sl E::D=>(Wk y E/\(y = .nil->E = .nil))/\LG C r D
 |_,_,_=>False
def LH:∀ (ps:aa PK) (C:kR ps) (is:aa In) (x:q5 (ez ps)),rC (ez ps) is=some x -> LG (m8 ps C) is (iN (ez ps) x)
 |[],_,[],x,_=>trivial
 |[],_,_::_,x,h=>by simp[rC,ez]at h
 |.v b t::ps,C,is,x,h=>LH ps C.2 is x h
 |.p t g off::ps,C,[],x,h=>by simp[rC,ez]at h
 |.s t g::ps,C,[],x,h=>by simp[rC,ez]at h
 |.p t g off::ps,C,.sl _::_,x,h=>by simp[rC,ez]at h
 |.s t g::ps,C,.aA _::_,x,h=>by simp[rC,ez]at h
 | .p t g off :: ps,C,.aA cs :: is,x,h=>by
  have h:rC ((true,t,g)::ez ps) (.aA cs::is)=some x:=h;unfold rC at h;split at h
  next y ys D I=>injection h with h;subst h;exact⟨⟨lC t g cs y D,agv t g C.1 y,λz O=>O1 t g y z O⟩,LH ps C.2 is ys I⟩
  ·cases h
 | .s t g :: ps,C,.sl y :: is,x,h=>by
  have h:rC ((false,t,g)::ez ps) (.sl y::is)=some x:=h;unfold rC at h;split at h
  ·rename_i z zs D I;injection h with h;subst h;refine⟨?_,LH ps C.2 is zs I⟩;cases T:Nat.ble 1000000 g with
   | true=>
    cases E:y.jI with
    |true=>simp_all
    | false=>
     have:y = .nil:=by cases y<;>first|rfl|cases E
     subst this;exact⟨.same _,λ_=>rfl⟩
   | false=>
    cases E:y.jI with
    |false=>simp_all
    | true=>
     rw[T,E]at D;exact⟨V.Fv D,λe=>by subst e;cases E⟩
  ·cases h
def qZ.typed{w w':World}{az:bh}{ρ:Nat -> Loc}{nm:Nat -> Nat}:∀ (E:aa In) (i Y:Nat) (outs T:aa In),qZ w w' az ρ nm i Y E outs -> LG E outs T -> Ge w w' az ρ nm i Y E T
 |[],i,Y,[],[],h,C=>trivial
 | .aA ZG :: E,i,Y,.aA ZH :: outs,.aA cs2 :: T,h,C=>by
  obtain⟨⟨b,off,cells,xE,e,e',Z,h2,h3,h4,h5,h6,h7⟩,hr⟩:=h;obtain⟨⟨U,Sw,hnn⟩,oG⟩:=C
  refine⟨⟨b,off,cells,xE,e,e',Z,h2,h3,h4,by rw[<- U.1];exact h5,by rw[<- U.1];exact h6,λj x hx=>?_⟩,qZ.typed E _ _ outs T hr oG⟩
  have hj:j<ZH.length:=by rw[U.1];exact(dI.1 hx).1
  obtain⟨u,hu,hc⟩:=h7 j _ (bK hj);have C:=U.2 j _ x (bK hj) hx;have G9:∀ I,ZG[j]?=some I -> I.plain=x.plain/\I.aF=x.aF:=by
   intro I h0;have e1:(ZG.map (λv=>(v.plain,v.aF)))[j]?=(cs2.map (λv=>(v.plain,v.aF)))[j]?:=by rw[Sw]
   grind
  have hxn:=hnn x (gy hx);generalize ZH[j]=y at hc C;refine⟨u,hu,?_⟩;rcases hc with ⟨D,O⟩|⟨D,O,I,c3,c4⟩|⟨D,O,c6,⟨I,c3,c4⟩,c5⟩|⟨D,O⟩
  ·cases C with
   |same=>grind
   |nil t o=>cases D
   |q t o l=>cases D
   |gr=>cases D
  ·subst D O;have hf:x.aF=false:=by rw[<- (G9 I c3).2];exact c4
   cases C with
   |same=>cases hxn
   |nil t o=>exact .inr (.inr ⟨hf,.eo _ _ _⟩)
  ·cases C with
   |same=>grind
   |nil t o=>cases c6
   |q t o l=>exact .inr (.inl ⟨rfl,O,c5⟩)
   |gr t o o' qn l Z h2=>simp[V.aF]at O;omega
  ·have hf:=C.Qn D;exact .inr (.inr ⟨hf,O.wk C⟩)
 | .sl y0 :: E,i,Y,.sl y1 :: outs,.sl y2 :: T,h,C=>by
  obtain⟨h,hr⟩:=h;obtain⟨⟨U,hn⟩,oG⟩:=C;exact⟨h.imp hn (λ⟨v,Z,h2⟩=>⟨v,Z,h2.wk U⟩),qZ.typed E _ _ outs T hr oG⟩
 |[],_,_,_::_,_,h,_=>h.elim
 |[],_,_,[],_::_,_,h=>h.elim
 |.aA _::_,_,_,[],_,h,_=>h.elim
 |.sl _::_,_,_,[],_,h,_=>h.elim
 |.aA _::_,_,_,.sl _::_,_,h,_=>h.elim
 |.sl _::_,_,_,.aA _::_,_,h,_=>h.elim
 |.aA _::_,_,_,.aA _::_,[],_,h=>h.elim
 |.aA _::_,_,_,.aA _::_,.sl _::_,_,h=>h.elim
 |.sl _::_,_,_,.sl _::_,[],_,h=>h.elim
 |.sl _::_,_,_,.sl _::_,.aA _::_,_,h=>h.elim
def ZI:∀ (l:aa (Bool×TC×Nat)) (ps:aa Pt) (x:iw l),pW l ps=some x -> (ps.map λp=>p.2.length)=((ue l x).map λp=>p.2.length)
 |[],[],x,h=>rfl
 | [(b,t,g)],[(D,E)],x,h=>by
  unfold pW at h;cases C:b==D with
  |false=>rw[C]at h;cases h
  | true=>
   rw[C]at h;simp[ue,(lC t g E x h).1]
 | (b,t,g) :: q :: r,(D,E) :: ps,x,h=>by
  unfold pW at h;cases C:b==D with
  |false=>simp_all
  | true=>
   rw[C]at h;split at h
   next y ys I O=>injection h with h;subst h;simp only[ue,List.map_cons];rw[ZI _ ps ys O,(lC t g E y I).1]
   ·cases h
def akg{l:aa (Bool×TC×Nat)}{C:fL}{x:iw l}(h:lH l C=some x):C.len=(eP l x).len:=by
 have key:∀ ps,pW l ps=some x -> (ps.map λp=>p.2.length).sum=(eP l x).len:=by
  intro ps h;rw[ZI l ps x h];unfold eP
  match hm:ue l x with
  |[q]=>simp[fL.len]
  |[]=>rfl
  |_::_::_=>rfl
 cases C with
 |one p=>have:=key [p] h;simpa [fL.len]using this
 | eU ps=>
  simp only[lH]at h;cases D:Nat.beq ps.length 1 with
  |true=>simp_all
  |false=>rw[D]at h;exact key ps h
section
variable {P:Program} {w w':World} {w0:Wd} {B N:Nat} {af az:bh} {ρ ρ':Nat->Loc} {σ:S} {a:Act} {X:Type} {d:Nat} {r:X} {o:Oper} {Φ:dX} {Λ:mj}
def D6(l ro:aa (Bool×TC×Nat))(outs:aa In)(C:fL):ah (iw ro×q5 l):=
 match lH ro C,rC l outs with
 |some x,some y=>some (x,y)
 |_,_=>none
def LI{f:Nat}{fn:Func}{code:Code}{ps:aa PK}{ro:aa (Bool×TC×Nat)}{F:kR ps->ah (iw ro×q5 (ez ps))}(I:P.funcs[f]?=some fn)(O:fn.body=some code)(U:fn.ntmps=N)(Y:(fn.name == "runtime.NumGoroutine")=false)(Z:Nat.ble ps.length N=true)(Ab:Nat.ble N 20000=true)(dY:lK ro=true)
  (dL:fC P Φ) (nS:oN P N Λ (occs code)) (hF:∀x,B1 P N Φ Λ code fn.results (m8 ps x) (jN ps 0 x) (D6 (ez ps) ro)=F x):enters P f/\vD P f ⟨ps,ro,F⟩:=by
 refine⟨⟨fn,I,Y,by rw[O];rfl⟩,λx y h nm w af ρ bA hE kQ D hv hQ=>?_⟩
 have h:F x=some y:=h;rw[<-hF x]at h;have hlen:∀ (ps:aa PK) (i:Nat) (x:kR ps),(jN ps i x).length=ps.length:=by
  intro ps
  induction ps with
  |nil=>intro i x;rfl
  | cons p ps E=>
   intro i x;cases p with
   |v=>exact bz (· + 1) (E _ _)
   |p=>exact bz (· + 1) (E _ _)
   |s=>exact bz (· + 1) (E _ _)
 have D:bA.size=(jN ps 0 x).length:=by rw[hlen];exact D
 refine(fnM_core I O U (cu Ab) (by rw[hlen];exact cu Z) dL nS h nm w af ρ bA hE kQ D hv hQ).mono λe w' qX=>?_
 obtain⟨v,az,outs,res,C,he,ku,hl,jM,Qy⟩:=qX;unfold D6 at C;split at C
 next y1 y2 T h2=>injection C with C;subst C;refine⟨v,az,he,ku,hl,ZD dY T jM,?_⟩;rw[<-akg T];exact qZ.typed _ _ _ _ _ Qy (LH ps x outs y2 h2)
 ·cases C
end
set_option maxRecDepth 100000
def LJ(σ:S)(C:Array ResultVar):ah Int:=
 match C.toList with
 | [.tmp t]=>(match σ.t t with
  | .aJ r 0=>(match σ.m r with
   |some (.aA [.own [n],.v (.int .i64 z),.v (.int .i64 h)])=>bif Nat.beq n 20000&&z==0 then some h else none
   |_=>none)
  |_=>none)
 |_=>none
def ZJ(P:Program)(N:Nat)(Φ:dX)(Λ:mj)(code:Code)(C:Array ResultVar)(l:aa (T .u8)):ah Int:=
 kU P N Φ Λ code (xD [.sl (.sl .u8 0 false l)] [.mut 0 0]) λe σ=>match zZ e with
  |some 0=>LJ σ C
  |some 1=>LJ σ C
  |_=>none
section
variable {P:Program} {w w':World} {w0:Wd} {B N:Nat} {af az:bh} {ρ ρ':Nat->Loc} {σ:S} {a:Act} {X:Type} {d:Nat} {r:X} {o:Oper} {Φ:dX} {Λ:mj}
def akh{f:Nat}{fn:Func}{code:Code}{F:aa Int->ah Int}(hf:P.funcs[f]?=some fn)(D:fn.body=some code)(hN:fn.ntmps=N)(ye:(fn.name == "runtime.NumGoroutine")=false)(ZK:Nat.ble 1 N=true)(Ab:Nat.ble N 20000=true)
  (dL:fC P Φ) (nS:oN P N Λ (occs code)) (hF:∀l,ZJ P N Φ Λ code fn.results l=F l):enters P f/\KQ P f F:=by
 refine⟨⟨fn,hf,ye,by rw[D];rfl⟩,λw l h v hh hv hQ=>?_⟩
 rw[<-hF l]at hh;unfold ZJ at hh;have ZK:=cu ZK;have Ab:=cu Ab;let W:Wd:=⟨w,λ_=>none,λr=>if 20000<=r/\r<60000 then some (.dA v)else none,hQ,λr I=>aX⟩
 refine calls_of_wp hf D ?_;have hR:R W N (xD [.sl (.sl .u8 0 false l)] [.mut 0 0]) { tmps:=#[v]++Array.replicate (fn.ntmps-(#[v]:Array Value).size) undef,defers:=[] } w:=by
  refine⟨λ_=>none,λ_=>.dA v,.of (Below.refl w.heap.size w) (dH _),(λb k D=>by cases D),λn y T=>?_,λj=>?_,by simp[hN];omega,rfl,λr l I=>?_,λr I=>?_⟩
  ·have T:bD (λ_=>none) (nF 0) (some (.sl (.sl .u8 0 false l))) n=some y:=T;by_cases hn:n=nF 0
   ·subst hn;rw[bI]at T;injection T with T;subst T;exact .sl v _ rfl (hv.key rfl)
   ·rw[ck _ _ _ hn]at T;cases T
  ·cases j with
   | zero=>
    have e:(#[v]++Array.replicate (fn.ntmps-(#[v]:Array Value).size) undef).getD 0 undef=v:=by
     rw[gT,Array.getElem?_append_left (by simp)];rfl
    show RA w w.heap.size _ _ (.lf (.own [nF 0])) ((#[v]++Array.replicate (fn.ntmps-(#[v]:Array Value).size) undef).getD 0 undef);rw[e];exact⟨hv.lW rfl rfl,rfl⟩
   |succ j=>exact trivial
  ·have I:(if 20000<=r/\r<60000 then some (Loc.dA v)else none)=some l:=I;split at I
   ·injection I
   ·cases I
  ·show (if 20000<=r/\r<60000 then some (Loc.dA v)else none)=none;rw[aX]
 refine wp_mono (D1 (w0:=W) dL code _ _ hh nS _ w hR) λe a' w' O=>?_
 obtain⟨cB,U,DE,sA,E⟩:=O;have fin:LJ cB fn.results=some h->a'.defers=[]/\∃ u,(results fn a'.tmps).run P w' = .ok u w'/\∃ b off cells t,Ending.returned u = .returned (.pointer (some ⟨b,off,none⟩))/\Below w.heap.size w w'/\w.heap.size<=b/\w'.heap[b]?=some (.cells cells t (0,0))/\cells[off]?=some v/\cells[off+1]?=some (.int .i64 0)/\cells[off+2]?=some (.int .i64 h):=by
  intro C;unfold LJ at C;split at C
  ·rename_i t ht;split at C
   ·rename_i r I;split at C
    ·rename_i n z h' hm;cases D:(Nat.beq n 20000&&z==0)with
     |false=>rw[D]at C;cases C
     | true=>
      rw[D,aq]at C;injection C with C;subst C;rw[aK]at D;have hn:=cH D.1;have hz:z=0:=by simpa using D.2
      subst hn hz;have h1:=E.tmp t;rw[I]at h1;obtain⟨b,off,e1,e2⟩:=h1;have h2:=E.root r _ hm;generalize Y:aQ.aA _=x at h2;cases h2 with
      |sl=>cases Y
      |mp=>cases Y
      |gh=>cases Y
      | aA b' Bg cells e cs us bX hl vw hs hc=>
       injection Y with Y;subst Y;rw[bX]at e1;injection e1 with e3 e4;subst e3 e4;obtain⟨c0,Z⟩:=hc 0 _ rfl;obtain⟨c1,d1⟩:=hc 1 _ rfl;obtain⟨c2,d2⟩:=hc 2 _ rfl;have Z:=Z.2;have Sx:=E.fix 20000 (.dA v) rfl;simp only[cK,Sx]at Z;injection Z with Z;rw[<-Z]at c0;rw[d1.2.gC]at c1;rw[d2.2.gC]at c2
       refine⟨E.defers,_,?_,b',Bg,cells,e,rfl,⟨E.below.os,E.below.tape,E.below.output,E.below.size,λk U=>E.below.block k U rfl⟩,?_,vw,c0,c1,c2⟩
       ·have jM:results fn a'.tmps=(do let vs <-fn.results.mapM (qY a'.tmps);pure (if h:vs.size=1 then vs[0]else .tuple vs)):=by
         unfold results;congr 1
        have qd:fn.results = #[.tmp t]:=by apply Array.ext';exact ht
        rw[jM,qd,Array.mapM_eq_mapM_toList];simp[qY,e2]
       ·have:=(E.cN b' _ hl).1;exact this.resolve_right (λh=>h rfl)
    ·cases C
   ·cases C
  ·cases C
 split at U
 next O=>have O:=sR O;subst O;exact fin U
 next O=>have O:=sR O;subst O;exact fin U
 ·cases U
end
def nV(i j:Nat):Nat:=20001+1000*i+j
def D7(i j:Nat)(x:V):Lf:=match x with
 |.sl ..=>.own [nV i j]
 |x=>.v x
def yf(i:Nat):Nat->aa V->aa Lf
 |_,[]=>[]
 |j,x::xs=>D7 i j x::yf i (j+1) xs
def Sz(args:aa Pt)(n:Nat):ah aQ:=bif Nat.ble 20001 n&&Nat.blt n 60000 then (match args[(n-20001) / 1000]? with
 | some (_,xs)=>(match xs[(n-20001) % 1000]? with
  |some (.sl t g q l)=>some (.sl (.sl t g q l))
  |_=>none)
 |none=>none)else none
def ZL(args:aa Pt):S:=⟨λi=>match args[i]? with
 |some (false,[x])=>.lf (D7 i 0 x)
 |some (true,xs)=>.agg (yf i 0 xs)
 |_=>.undef,Sz args⟩
def LK(σ:S)(C:Array ResultVar)(a j:Nat)(t:TC):ah (Nat×Nat):=match C.toList with
 | [.tmp s]=>(match σ.t s with
  |.view [n] D i k=>bif Nat.beq n (nV a j)&&Nat.beq D (aC t)then some (i,k)else none
  |_=>none)
 |_=>none
def ZM(P:Program)(N:Nat)(Φ:dX)(Λ:mj)(code:Code)(C:Array ResultVar)(a j:Nat)(t:TC)(args:aa Pt):ah (Nat×Nat):=
 kU P N Φ Λ code (ZL args) λe σ=>match zZ e with
  |some 0=>LK σ C a j t
  |some 1=>LK σ C a j t
  |_=>none
def SA(ai:aa (Bool×TC))(a j:Nat)(t:TC)(F:kA ai->ah (Nat×Nat)):BJ:=⟨a,j,t,λargs=>match yc ai args with
 |some x=>F x
 |none=>none⟩
section
variable {P:Program} {w w':World} {w0:Wd} {B N:Nat} {af az:bh} {ρ ρ':Nat->Loc} {σ:S} {a:Act} {X:Type} {d:Nat} {r:X} {o:Oper} {Φ:dX} {Λ:mj}
def ZN(i:Nat):∀ (xs:aa V) (C j:Nat),(yf i C xs)[j]?=(xs[j]?).map λx=>D7 i (C+j) x
 |[],C,j=>by simp[yf]
 |x::xs,C,0=>by simp[yf]
 | x :: xs,C,j+1=>by
  simp[yf,List.getElem?_cons_succ,ZN]
  grind
def ZO(i:Nat):∀ (xs:aa V) (C:Nat),(yf i C xs).length=xs.length
 |[],_=>rfl
 |x::xs,C=>by simp[yf,ZO i xs (C+1)]
def ZP{i j:Nat}(h:j<1000):(nV i j-20001) / 1000=i/\(nV i j-20001) % 1000=j:=by
 unfold nV;omega
def Ac(bA:Array Value)(n:Nat):Loc:=.dA ((ur bA ((n-20001) / 1000) ((n-20001) % 1000)).getD undef)
def ZQ{bA:Array Value}{i j:Nat}{x:V}{u:Value}(D:j<1000)(E:ur bA i j=some u)(I:x.aF=true)(C:RV w B (λ_=>none) [] x u):dK w B (λ_=>none) (Ac bA) (D7 i j x) u:=by
 unfold D7;split
 ·refine⟨C.lW rfl rfl,?_⟩;obtain⟨O,T⟩:=ZP (i:=i) D;simp only[cK,Ac,O,T,E];rfl
 ·exact⟨I,C⟩
def aki{f:Nat}{fn:Func}{code:Code}{ai:aa (Bool×TC)}{O T:Nat}{t:TC}{F:kA ai -> ah (Nat×Nat)}(hf:P.funcs[f]?=some fn)(hb:fn.body=some code)(hN:fn.ntmps=N)(ye:(fn.name == "runtime.NumGoroutine")=false)(G7:Nat.ble ai.length N=true)(Ab:Nat.ble N 20000=true)(ia:(ai.all λp=>Nat.blt (aC p.2) 1000&&(p.1 || Nat.beq (aC p.2) 1))=true)(ZR:Nat.blt T 1000=true)(haa:Nat.blt O 30=true)
  (dL:fC P Φ) (nS:oN P N Λ (occs code)) (hF:∀x,ZM P N Φ Λ code fn.results O T t (ga ai x)=F x):enters P f/\KR P f (SA ai O T t F):=by
 refine⟨⟨fn,hf,ye,by rw[hb];rfl⟩,λargs p h w bA lG hQ=>?_⟩
 simp only[SA]at h;split at h
 ·rename_i x hx;obtain⟨k1,k2⟩:=Ss ai args x hx;have hlen:∀ (l:aa (Bool×TC)) (x:kA l),(ga l x).length=l.length:=by
   intro l
   induction l with
   |nil=>intro x;rfl
   |cons p l ih=>obtain⟨b,t⟩:=p;intro x;simp[ga,ih]
  have jt:bA.size=ai.length:=by rw[lG.1,<- k1,hlen]
  have hle:bA.size <= N:=by rw[jt];exact cu G7
  have Ab:=cu Ab;have qd:∀ (l:aa (Bool×TC)) (x:kA l),(l.all λp=>Nat.blt (aC p.2) 1000&&(p.1 || Nat.beq (aC p.2) 1))=true -> ∀ (j:Nat) p,(ga l x)[j]?=some p -> (∀ y∈p.2,y.aF=true)/\p.2.length<1000/\(p.1=true \/ p.2.length=1):=by
   intro l
   induction l with
   |nil=>intro x _ j p U;simp[ga]at U
   | cons c l ih=>
    obtain⟨b,t⟩:=c;intro x hs j p U;rw[List.all_cons,aK]at hs;cases j with
    | zero=>
     simp[ga]at U;subst U
     refine⟨λy C=>?_,?_⟩
     ·obtain⟨i,hi⟩:=List.mem_iff_getElem?.1 C;exact pn t 0 x.1 (by omega) i y hi
     ·show (enc t 0 x.1).length<1000/\(b=true \/ (enc t 0 x.1).length=1);rw[kf];have h8:=hs.1;rw[aK,dZ]at h8;have h9:=cu h8.1;exact⟨h9,h8.2.imp id cH⟩
    |succ j=>exact ih x.2 hs.2 j p (by simpa [ga]using U)
  have pz:∀ (i:Nat) (p:Pt),(ga ai x)[i]?=some p -> ∃ u:Value,bA[i]?=some u/\PV w w.heap.size (λ_=>none) (λ_=>[]) p u/\(∀ y∈p.2,y.aF=true)/\p.2.length<1000:=by
   intro i p U;obtain⟨q,hq,xk,xl⟩:=k2 i p U;obtain⟨u,Y,sC⟩:=lG.2 i q hq;obtain⟨g1,g2,g3⟩:=qd ai x ia i p U;refine⟨u,Y,?_,g1,g2⟩;obtain⟨b,ys⟩:=p;obtain⟨b',xs⟩:=q;simp only at xk;subst xk;have hw:=sC.uj xl;rcases g3 with g3|g3
   ·simp only at g3;subst g3;exact hw.Xf
   ·obtain⟨y,rfl⟩:=List.length_eq_one_iff.1 g3;cases b' with
    |true=>exact hw.Xf
    |false=>exact hw.pv
  have SB:∀ (i:Nat) (p:Pt),(ga ai x)[i]?=some p -> ∀ (j:Nat) y,p.2[j]?=some y -> ∃ u,ur bA i j=some u/\RV w w.heap.size (λ_=>none) [] y u/\y.aF=true/\j<1000:=by
   intro i p U j y C;obtain⟨u,Y,⟨us,D,h2,h3⟩,h4,h5⟩:=pz i p U;obtain⟨v,E,I⟩:=h3 j y C;refine⟨v,?_,I,h4 y (gy C),by have:=(dI.1 C).1;omega⟩;unfold ur;rw[Y];obtain⟨b,ys⟩:=p;cases b with
   | true=>
    have D:u = .agg us:=D;subst D;exact E
   | false=>
    have D:us = #[u]:=D;subst D;have hj:j=0:=by
     have:=(ic.1 E).1
     simpa using this
    subst hj;have:u=v:=by simpa using E
    subst this;have vL:∀ us,u ≠ .agg us:=by
     rintro us rfl;cases I
    cases u<;>first|exact absurd rfl (vL _)|rfl
  let W:Wd:=⟨w,λ_=>none,λr=>if 20000 <= r/\r<60000 then some (Ac bA r)else none,hQ,λr I=>aX⟩
  refine calls_of_wp hf hb ?_;rw[<- hF x]at h;unfold ZM at h;have hR:R W N (ZL (ga ai x)) { tmps:=bA++Array.replicate (fn.ntmps-bA.size) undef,defers:=[] } w:=by
   refine⟨λ_=>none,Ac bA,.of (Below.refl w.heap.size w) (dH _),(λb k hk=>by cases hk),(λn y C=>?_),λi=>?_,by simp[hN];omega,rfl,λr l I=>?_,λr I=>?_⟩
   ·have C:Sz (ga ai x) n=some y:=C;unfold Sz at C;cases hb:(Nat.ble 20001 n&&Nat.blt n 60000)with
    |false=>rw[hb]at C;cases C
    | true=>
     rw[hb,aq]at C;split at C
     ·rename_i b xs U;split at C
      next t' g q l hl=>injection C with C;subst C;obtain⟨u,Y,I,sg,_⟩:=SB _ _ U _ _ hl;refine .sl u _ ?_ (I.key sg);unfold Ac;simp[*]
      ·cases C
     ·cases C
   ·show RA w w.heap.size _ _ (match (ga ai x)[i]? with | some (false,[x])=>A.lf (D7 i 0 x) | some (true,xs)=>.agg (yf i 0 xs) | _=>.undef) _;have Dj:∀ p:Pt,(ga ai x)[i]?=some p -> ∃ u:Value,bA[i]?=some u/\(bA++Array.replicate (fn.ntmps-bA.size) undef).getD i undef=u:=by
     intro p U;obtain⟨u,Y,_⟩:=pz i p U;have hi:=(ic.1 Y).1;exact⟨u,Y,by rw[gT,Array.getElem?_append_left hi,Y];rfl⟩
    split
    ·rename_i x' lE;obtain⟨u,Y,e⟩:=Dj _ lE;rw[e];obtain⟨v,E,I,sg,_⟩:=SB i _ lE 0 x' rfl;have Gc:u=v:=by
      unfold ur at E;rw[Y]at E;obtain⟨u2,oI,⟨us,D,h2,h3⟩,_⟩:=pz i _ lE;rw[Y]at oI;injection oI with oI;subst oI;have D:us = #[u]:=D;subst D;obtain⟨v3,hv3,hr3⟩:=h3 0 x' rfl;have:u=v3:=by simpa using hv3
      subst this;have vL:∀ us,u ≠ .agg us:=by
       rintro us rfl;cases hr3
      cases u<;>first|exact absurd rfl (vL _)|(simp only[show Nat.beq 0 0=true from rfl,aq,ig]at E;exact E)
     subst Gc;exact ZQ (by omega) E sg I
    ·rename_i xs lE;obtain⟨u,Y,e⟩:=Dj _ lE;rw[e];obtain⟨u2,oI,⟨us,D,h2,h3⟩,_⟩:=pz i _ lE;rw[Y]at oI;injection oI with oI;subst oI;have D:u = .agg us:=D
     refine⟨us,D,by rw[ZO];exact h2,λj y C=>?_⟩
     rw[ZN]at C;cases hz:xs[j]? with
     |none=>rw[hz]at C;cases C
     | some z=>
      rw[hz]at C;injection C with C;subst C;obtain⟨v,E,I,sg,hj⟩:=SB i _ lE j z hz;have huj:us[j]?=some v:=by
       unfold ur at E;rw[Y,D]at E;exact E
      refine⟨v,huj,?_⟩;rw[fe];exact ZQ hj E sg I
    ·trivial
   ·have I:(if 20000 <= r/\r<60000 then some (Ac bA r)else none)=some l:=I;split at I
    ·injection I
    ·cases I
   ·show (if 20000 <= r/\r<60000 then some (Ac bA r)else none)=none;rw[aX]
  refine wp_mono (D1 (w0:=W) dL code _ _ h nS _ w hR) λe a' w' he=>?_
  obtain⟨cB,hk,DE,sA,dm⟩:=he;have fin:LK cB fn.results O T t=some p -> a'.defers=[] /\ ∃ u,(results fn a'.tmps).run P w' = .ok u w' /\ ∃ A n cap,ur bA O T=some (.slice A n cap)/\p.1 <= p.2/\p.2 <= n/\Ending.returned u = .returned (sliced A p.1 p.2 cap (aC t))/\Below w.heap.size w w':=by
   intro oR;unfold LK at oR;split at oR
   ·rename_i s hs;split at oR
    ·rename_i n sz i k E;cases gB:(Nat.beq n (nV O T)&&Nat.beq sz (aC t))with
     |false=>rw[gB]at oR;cases oR
     | true=>
      rw[gB,aq]at oR;injection oR with oR;subst oR;rw[aK]at gB;have hn:=cH gB.1;have akj:=cH gB.2;subst hn akj;have D:=dm.tmp s;rw[E]at D;obtain⟨A,m,c,Z,e2,e3,e4⟩:=D;have ZR:=cu ZR;have vL:20000 <= nV O T:=by unfold nV;omega
      by_cases de:nV O T<60000
      ·have Sx:=dm.fix (nV O T) (Ac bA (nV O T)) (aW ⟨vL,de⟩);have Z:(match sA (nV O T)with | .dA v=>some v | _=>none)=some (Value.slice A m c):=Z;rw[Sx]at Z;obtain⟨d1,d2⟩:=ZP (i:=O) (j:=T) (by omega);have Z:some ((ur bA ((nV O T-20001) / 1000) ((nV O T-20001) % 1000)).getD undef)=some (Value.slice A m c):=Z;rw[d1,d2]at Z;injection Z with Z
       refine⟨dm.defers,_,?_,A,m,c,?_,e2,e3,bz Ending.returned e4,⟨dm.below.os,dm.below.tape,dm.below.output,dm.below.size,λk hk=>dm.below.block k hk rfl⟩⟩
       ·have jM:results fn a'.tmps=(do let vs <- fn.results.mapM (qY a'.tmps);pure (if h:vs.size=1 then vs[0]else .tuple vs)):=by
         unfold results;congr 1
        have qd:fn.results = #[.tmp s]:=by apply Array.ext';exact hs
        rw[jM,qd];simp[qY]
       ·cases hl:ur bA O T with
        |none=>rw[hl]at Z;cases Z
        |some u=>rw[hl]at Z;exact bz some Z
      ·exfalso;have:=cu haa;unfold nV at de;omega
    ·cases oR
   ·cases oR
  split at hk
  next he=>have he:=sR he;subst he;exact fin hk
  next he=>have he:=sR he;subst he;exact fin hk
  ·cases hk
 ·cases h
end
def Wd.pin(d:Wd)(g:Nat)(l:ah Loc)(D:20000<=g):Wd:=⟨d.w,d.L,λr=>if r=g then l else d.F r,d.held,λr C=>by
 show (if r=g then l else d.F r)=none;rw[aX];exact d.low r C⟩
def B2(g:Nat):aa (Bool×aa Lf)->A
 |[(false,[x])]=>.lf (x.drop g)
 |[(true,cs)]=>.agg (cs.map (Lf.drop g))
 |[(false,_)]=>.undef
 |ps=>.eU (ps.map λp=>(p.1,p.2.map (Lf.drop g)))
def B3{X:Type}(P:Program)(g:Nat)(D:Array ResultVar)(C:S)(k:S->A->ah X):ah X:=
 sy P C D.toList λps=>match C.m g with
  |some (.gh ys)=>k ⟨λj=>((ys.map (A.drop g))[j]?).getD .undef,(C.drop g).m⟩ (B2 g ps)
  |_=>none
def ZS(g N:Nat)(σ:S)(xs:aa A):S:=⟨λj=>((xs.map (A.drop g))[j]?).getD .undef,bD (σ.drop g).m g (some (.gh ((List.range N).map λj=>(σ.t j).drop g)))⟩
def ZT:mj:=λ_=>none
def He{X:Type}(P:Program)(M g:Nat)(Φ:dX)(code:Code)(C:Array ResultVar)(N:Nat)(σ:S)(xs:aa A)(k:S->A->ah X):ah X:=
 bif Nat.ble xs.length M then kU P M Φ ZT code (ZS g N σ xs) λe D=>match zZ e with
  |some 0=>B3 P g C D k
  |some 1=>B3 P g C D k
  |_=>none
 else none
def ZU(P:Program)(M g:Nat)(Φ:dX)(code:Code)(C:Array ResultVar):uv:=⟨λX N σ xs k=>He P M g Φ code C N σ xs k⟩
section
variable {P:Program} {w w':World} {w0:Wd} {B M N g:Nat} {af az:bh} {ρ ρ':Nat->Loc} {σ:S} {a:Act} {X:Type} {d:Nat} {r:X} {o:Oper} {Φ:dX} {Λ:mj}
def SC{C:ah Tmp}{D:Bool}:cq λX k=>sI (X:=X) σ C D k:=λX Y k g=>by
 unfold sI
 repeat' first|rfl|refine cW ?_ ?_|split
def akk{ops:Array Oper}{L i:Nat}:cq λX k=>GK (X:=X) P N Φ ops L i σ o k:=λX Y k g=>by
 unfold GK;split
 ·refine(Rg _ _ _ _).trans (bz _ (funext λv=>?_))
  exact cW (xN _ _ _ _) rfl
 ·exact xN _ _ _ _
 ·rfl
def SD(D:fC P Φ){ops:Array Oper}:∀ (f L:Nat) (σ:S),cq λX k=>ri (X:=X) P N Φ ops f L σ k
 | 0,L,σ=>λX Y k g=>by
  unfold ri;split<;>rfl
 | f+1,L,σ=>λX Y k g=>by
  have st:∀E o O,cq λX k=>dn (X:=X) P N Φ ops σ o λI=>sI I o.dst O λC=>ri P N Φ ops f E C k:=λE o O=>(Yy D).comp λI=>SC.comp λC=>SD D f E C
  unfold ri
  repeat' first
   |rfl
   |exact st _ _ _ _ _ _ _
   |exact(akk.comp λI=>SC.comp λC=>SD D f _ C) X Y k g
   |split
def akl{t:TypeId}{x lo hi C:A}{X Y:Type}(k:ah X)(g:X->ah Y):(DR P σ t x lo hi C k).bind g=DR P σ t x lo hi C (k.bind g):=by
 unfold DR
 repeat' first
  |rfl
  |refine(xK _ _ _ _ _).trans (bz _ (funext λy=>?_))
  |split
def akm(C:fC P Φ):cq λX k=>GG (X:=X) P N Φ σ o k:=λX Y k g=>by
 unfold GG
 repeat' first
  |exact Yv C _ _ _ _
  |exact aiJ _ _ _ _
  |exact(akl _ _).trans (bz _ (cW rfl rfl))
  |split
def SE(C:fC P Φ){ops:Array Oper}:∀ (rest:aa Oper) (j:Nat) (σ:S),cq λX k=>BR (X:=X) P N Φ ops j rest σ k
 |[],j,σ=>λ_ _ _ _=>rfl
 | o :: rest,j,σ=>λX Y k g=>by
  unfold BR;split
  ·exact((akm C).comp λD=>SC.comp λE=>SE C rest _ E) X Y k g
  ·exact(xN.comp λD=>SE C rest _ D) X Y k g
  ·rfl
def ZV(E:fC P Φ):∀ (c:Code) (σ:S),DP λX k=>kU (X:=X) P N Φ ZT c σ k:=by
 intro c
 induction c with
 | region id ops draw=>
  intro σ X Y k g;cases draw with
  |true=>exact cW (SD E _ _ _ _ _ _ _) rfl
  |false=>exact SE E _ _ _ _ _ _ _
 | seq x y C D=>
  intro σ X Y k g
  refine(C σ _ _ _ _).trans (bz _ (funext λe=>funext λI=>?_))
  cases e with
  |normal=>exact D I _ _ _ _
  |_=>rfl
 | cond c x y C D=>
  intro σ X Y k g;simp only[kU];split
  ·exact cW (C σ _ _ _ _) (D σ _ _ _ _)
  ·rfl
 | block id c O=>
  intro σ X Y k g
  refine(O σ _ _ _ _).trans (bz _ (funext λe=>funext λI=>?_))
  cases e with
  | exit T=>
   simp only;split<;>rfl
  |_=>rfl
 |_=>intro σ X Y k g;rfl
def LL:∀ (l:aa ResultVar),cq λX k=>sy (X:=X) P σ l k
 |[]=>λ_ _ _ _=>rfl
 | .tmp t :: rest=>λX Y k g=>by
  simp only[sy];split
  ·exact LL rest _ _ _ _
  ·rfl
 | .cell c ty :: rest=>λX Y k g=>by
  simp only[sy]
  refine(XQ _ _ _ _).trans (bz _ (funext λy=>?_))
  split
  ·exact LL rest _ _ _ _
  ·rfl
def ZW{C:Array ResultVar}:DP λX k=>B3 (X:=X) P g C σ k:=λX Y k f=>by
 unfold B3
 refine(LL _ _ _ _ _).trans (bz _ (funext λps=>?_))
 split<;>rfl
def akn(C:fC P Φ){code:Code}{D:Array ResultVar}{xs:aa A}:DP λX k=>He (X:=X) P M g Φ code D N σ xs k:=λX Y k f=>by
 unfold He
 refine cW ((ZV C _ _ _ _ _ _).trans (bz _ (funext λe=>funext λE=>?_))) rfl
 split
 ·exact ZW _ _ _ _
 ·exact ZW _ _ _ _
 ·rfl
def ako{D:Array ResultVar}{E:S}{y:A}(h:B3 P g D σ (λσ y=>some (σ,y))=some (E,y)):∃ ys ps,σ.m g=some (.gh ys)/\sy P σ D.toList some=some ps/\⟨λj=>((ys.map (A.drop g))[j]?).getD .undef,(σ.drop g).m⟩=E/\B2 g ps=y:=by
 unfold B3 at h;obtain⟨ps,C,I⟩:=(LL _).lD h;split at C
 next ys O=>injection C with C;injection C with T U;exact⟨ys,ps,O,I.at_ _,T,U⟩
 ·cases C
def List.ZX(xs:aa A)(g j:Nat):((xs.map (A.drop g))[j]?).getD .undef=A.drop g ((xs[j]?).getD .undef):=by
 rw[ef];cases xs[j]?<;>rfl
def RP.B2{ps:aa (Bool×aa Lf)}{C:aa Value}(O:∀ r,r≠g->ρ' r=ρ r)(E:C.length=ps.length)(h:∀ (i:Nat) p v,ps[i]?=some p->C[i]?=some v->RP w B af ρ p v):
  RA w B af ρ' (B2 g ps) (if h:C.toArray.size=1 then C.toArray[0]else .tuple C.toArray):=by
 have eU:ps.length≠1->RA w B af ρ' (.eU (ps.map λp=>(p.1,p.2.map (Lf.drop g)))) (if h:C.toArray.size=1 then C.toArray[0]else .tuple C.toArray):=by
  intro U;rw[dif_neg (by simpa [E]using U)]
  refine⟨C.toArray,rfl,by simpa using E,λj p D=>?_⟩
  rw[ef]at D;cases I:ps[j]? with
  |none=>rw[I]at D;cases D
  | some q=>
   rw[I]at D;injection D with D;subst D;have T:j<C.length:=by rw[E];exact(dI.1 I).1
   exact⟨C[j],by simp[T],(h j q C[j] I (bK T)).eV O⟩
 unfold Proofs.YtgjfmljpdnnihaaGreat.B2;split
 ·rename_i x
  match C,E,h with
  | [v],_,h=>
   have:=h 0 _ v rfl rfl;obtain⟨u,Y,Z⟩:=this.2 0 x rfl;have:v=u:=by simpa using Y
   subst this;exact Z.eV O
 ·rename_i cs
  match C,E,h with
  |[v],_,h=>exact RP.eV O (p:=(true,cs)) (h 0 _ v rfl rfl)
 ·trivial
 ·rename_i h1 h2 h3
  refine eU λe=>?_
  obtain⟨⟨b,cs⟩,rfl⟩:=List.length_eq_one_iff.1 e;cases b with
  |true=>exact h2 cs rfl
  |false=>exact h3 cs rfl
def akp{f:Nat}{fn:Func}{code:Code}(hf:P.funcs[f]?=some fn)(O:fn.body=some code)(hN:fn.ntmps=M)(hM:M<=20000)(ye:(fn.name == "runtime.NumGoroutine")=false)(hg:20000<=g/\g<60000)(dL:fC P Φ):
  enters P f/\qa P f (ZU P M g Φ code fn.results):=by
 refine⟨⟨fn,hf,ye,by rw[O];rfl⟩,λN σ xs=>akn dL,λN σ xs τ0 y0 h w0 af ρ a w bA E ia hv=>?_⟩
 have h:He P M g Φ code fn.results N σ xs _=_:=h;unfold He at h;cases hl:Nat.ble xs.length M with
 |false=>rw[hl]at h;cases h
 | true=>
  rw[hl,aq]at h;have F0:=cu hl;obtain⟨e,τ,h1,h2⟩:=(ZV dL _ _).lD h;have h3:(e = .normal\/e = .ret)/\B3 P g fn.results τ (λσ y=>some (σ,y))=some (τ0,y0):=by
   split at h1
   next Z=>exact⟨.inl (sR Z),h1⟩
   next Z=>exact⟨.inr (sR Z),h1⟩
   ·cases h1
  obtain⟨hex,h3⟩:=h3;obtain⟨ys,ps,hy,pU,rfl,rfl⟩:=ako h3;let us:=a.tmps.toList
  let W:Wd:=w0.pin g (some (.bA us)) hg.1
  let sA:=bD ρ g (.bA us)
  have bX:∀r,r≠g->sA r=ρ r:=λr hr=>ck _ _ _ hr
  have ki:∀ j,us.getD j undef=a.tmps.getD j undef:=λj=>by
   show a.tmps.toList.getD j undef=_;rw[cL,Array.getElem?_toList,gT]
  have hle:bA.size<=M:=by rw[ia];exact F0
  have sH:Rl W M af sA (ZS g N σ xs) { tmps:=bA++Array.replicate (fn.ntmps-bA.size) undef,defers:=[] } w:=by
   refine⟨⟨E.below.os,E.below.tape,E.below.output,E.below.size,E.below.block⟩,E.cN,λr x C=>?_,λj=>?_,by simp[hN];omega,rfl,λr l hr=>?_,λr hr=>?_⟩
   ·have C:bD (σ.drop g).m g (some (.gh ((List.range N).map λj=>(σ.t j).drop g))) r=some x:=C;by_cases D:r=g
    ·subst D;rw[bI]at C;injection C with C;subst C
     refine .gh us _ (bI _ _ _) λj x T=>?_
     rw[ef]at T;cases hr:(List.range N)[j]? with
     |none=>rw[hr]at T;cases T
     | some j'=>
      rw[hr]at T;injection T with T;obtain⟨de,r6⟩:=dI.1 hr;rw[lV]at r6;subst r6 T;rw[ki];exact(E.tmp j).eV bX
    ·rw[ck _ _ _ D]at C;have C:(bif Nat.beq r g then none else (σ.m r).map (aQ.drop g))=some x:=C;cases O:Nat.beq r g with
     |true=>rw[O]at C;cases C
     | false=>
      rw[O,av]at C;cases hm:σ.m r with
      |none=>rw[hm]at C;cases C
      | some y=>
       rw[hm]at C;injection C with C;subst C;exact(E.root r y hm).eV bX D
   ·show RA w w0.heap.size af sA (((xs.map (A.drop g))[j]?).getD .undef) _;rw[List.ZX];by_cases T:j<bA.size
    ·have e1:(bA++Array.replicate (fn.ntmps-bA.size) undef).getD j undef=bA.getD j undef:=by
      rw[gT,Array.getElem?_append_left T,gT]
     show RA w w0.heap.size af sA _ ((bA++Array.replicate (fn.ntmps-bA.size) undef).getD j undef);rw[e1];exact(hv j).eV bX
    ·rw[o9 (by omega:xs.length<=j)];trivial
   ·have hr:(if r=g then some (Loc.bA us)else w0.F r)=some l:=hr;by_cases D:r=g
    ·rw[aW D]at hr;injection hr with hr;rw[D,<-hr];exact bI _ _ _
    ·rw[aX D]at hr;rw[bX r D];exact E.fix r l hr
   ·show (if r=g then some (Loc.bA us)else w0.F r)=none;rw[aX];rcases hr with hr | hr
    ·exact w0.low r (by omega)
    ·exact E.cF r (.inr hr)
  refine calls_of_wp hf O ?_
  refine wp_mono (D1 (w0:=W) dL code _ (λe τ=>some (e,τ)) (h2 _ _) (λp hp b O=>by cases O) _ w ⟨af,sA,sH⟩) λe' U w' Z=>?_
  obtain⟨cB,oG,az,ρ',I⟩:=Z;injection oG with oG;injection oG with k1 k2;subst k1 k2;have Gn:ρ' g = .bA us:=I.fix g _ (aW rfl);let eW:=bD ρ' g ((w0.F g).getD (.aA 0 0))
  have DJ:∀r,r≠g->eW r=ρ' r:=λr hr=>ck _ _ _ hr
  obtain⟨xB,SF,jJ⟩:=Gd (w0:=W) (N:=M) _ _ pU;injection SF with SF;subst SF;obtain⟨vs,cY,hlen,jK⟩:=jJ az ρ' U w' I;have akq:(fn.results.mapM (qY U.tmps)).run P w' = .ok vs.toArray w':=by
   rw[Array.mapM_eq_mapM_toList];simp[cY]
  have jM:results fn U.tmps=(do let vs <-fn.results.mapM (qY U.tmps);pure (if h:vs.size=1 then vs[0]else .tuple vs)):=by
   unfold results;congr 1
  have hRf:Rl w0 N az eW ⟨λj=>((ys.map (A.drop g))[j]?).getD .undef,(cB.drop g).m⟩ a w':=by
   refine⟨⟨I.below.os,I.below.tape,I.below.output,I.below.size,I.below.block⟩,I.cN,λr x C=>?_,λj=>?_,E.size,E.defers,λr l hr=>?_,E.cF⟩
   ·have C:(bif Nat.beq r g then none else (cB.m r).map (aQ.drop g))=some x:=C;cases O:Nat.beq r g with
    |true=>rw[O]at C;cases C
    | false=>
     have D:r≠g:=by rintro rfl;simp at O
     rw[O,av]at C;cases hm:cB.m r with
     |none=>rw[hm]at C;cases C
     | some y=>
      rw[hm]at C;injection C with C;subst C;exact(I.root r y hm).eV DJ D
   ·show RA w' w0.heap.size az eW (((ys.map (A.drop g))[j]?).getD .undef) _;rw[List.ZX];cases hyj:ys[j]? with
    |none=>trivial
    | some y=>
     have dY:=I.root g _ hy;generalize Y:aQ.gh ys=z at dY;cases dY with
     |aA=>cases Y
     |sl=>cases Y
     |mp=>cases Y
     | gh J7 xs' xJ ZY=>
      injection Y with Y;subst Y;rw[Gn]at xJ;injection xJ with xJ;subst xJ;have:=ZY j y hyj;rw[ki]at this;exact this.eV DJ
   ·by_cases D:r=g
    ·subst D;show bD ρ' r ((w0.F r).getD (.aA 0 0)) r=l;rw[bI,hr];rfl
    ·rw[DJ r D];exact I.fix r l ((aX D).trans hr)
  have fin:U.defers=[]/\∃ v,(results fn U.tmps).run P w' = .ok v w'/\∃ Aa az ρ',Ending.returned v=Ending.returned Aa/\Rl w0 N az ρ' ⟨λj=>((ys.map (A.drop g))[j]?).getD .undef,(cB.drop g).m⟩ a w'/\RA w' w0.heap.size az ρ' (B2 g xB) Aa:=
   ⟨I.defers,_,by rw[jM,fR,akq,lU,Sem.run_pure],_,az,eW,rfl,hRf,RP.B2 DJ hlen jK⟩
  rcases hex with rfl|rfl
  ·exact fin
  ·exact fin
end
def uC:Nat:=1000000000
def stays(n:Nat):Bool:=Nat.ble 20000 (n % uC)
def akr:60000<=uC:=cu rfl
def qh(n:Nat):Nat:=bif stays n then n else n+uC
def Ae(n:Nat):ah Nat:=bif stays n then some n else bif Nat.ble uC n && !stays (n-uC)then some (n-uC)else none
def kV:aa Nat->aa Nat
 |[]=>[]
 |[r]=>[qh r]
 |x::y::k=>x::kV (y::k)
def Lf.up:Lf->Lf
 |.v x=>.v x
 |.own k=>.own (kV k)
 |.dead=>.dead
def A.up:A->A
 |.undef=>.undef
 |.skip=>.skip
 |.lf x=>.lf x.up
 |.agg cs=>.agg (cs.map Lf.up)
 |.eU xs=>.eU (xs.map λp=>(p.1,p.2.map Lf.up))
 |.ptr k=>.ptr (kV k)
 |.aJ r j=>.aJ (qh r) j
 |.iR cs=>.iR cs
 |.mW f cs=>.mW f cs
 |.pk r n=>.pk (qh r) n
 |.view k s i j=>.view (kV k) s i j
 |.fn f cap=>.fn f (cap.map λp=>(qh p.1,p.2))
def aQ.up:aQ->aQ
 |.aA cs=>.aA (cs.map Lf.up)
 |.sl y=>.sl y
 |.mp l=>.mp l
 |.gh xs=>.gh (xs.map A.up)
def S.up(σ:S):S:=⟨λk=>(σ.t k).up,λn=>match Ae n with
 |some r=>(σ.m r).map aQ.up
 |none=>none⟩
def ZZ(c:uv):uv:=⟨λX N σ xs k=>c.run X N σ.up (xs.map A.up) λC y=>k C.up y.up⟩
section
variable {P:Program} {w w':World} {w0:Wd} {B N:Nat} {af az:bh} {ρ ρ':Nat->Loc} {σ:S} {a:Act} {X:Type}
def aks(r:Nat):Ae (qh r)=some r:=by
 unfold Ae qh;cases h:stays r with
 |true=>simp_all
 | false=>
  have C:stays (r+uC)=false:=by
   unfold stays at h ⊢;simp_all
  have D:Nat.ble uC (r+uC)=true:=jc (Nat.le_add_left _ _);simp[*]
def akt{n r:Nat}(h:Ae n=some r):n=qh r:=by
 unfold Ae at h;cases D:stays n with
 | true=>
  rw[D]at h;injection h with h;subst h;simp[qh,D]
 | false=>
  rw[D,av]at h;cases C:(Nat.ble uC n && !stays (n-uC))with
  |false=>simp_all
  | true=>
   rw[C]at h;have h:=Option.some.inj h;rw[aK]at C;have I:=cu C.1;have E:stays r=false:=by rw[<- h];simpa using C.2
   simp[qh,E,av];omega
def mw(af:bh):bh:=λb=>(af b).map kV
def vP(ρ:Nat->Loc):Nat->Loc:=λn=>match Ae n with
 |some r=>ρ r
 |none=>ρ n
def B4(r:Nat):vP ρ (qh r)=ρ r:=by unfold vP;rw[aks]
def aku{k:aa Nat}(h:k≠[]):kV k≠[]:=by
 match k with
 |[r]=>simp[kV]
 |x::y::k=>simp[kV]
def D8{x:Nat}{k:aa Nat}(h:k≠[]):kV (x :: k)=x :: kV k:=by
 match k with
 |[]=>exact absurd rfl h
 |y::k=>rfl
def Z0(x y:Nat)(k:aa Nat):∃ C D,kV (x :: y :: k)=x :: C :: D:=by
 match k with
 |[]=>exact⟨_,_,rfl⟩
 |z::k=>exact⟨y,_,rfl⟩
def SG:∀ (k:aa Nat) (ad:Addr),addrAt w af ρ k=some ad -> addrAt w (mw af) (vP ρ) (kV k)=some ad
 |[],_,h=>by simp[addrAt]at h
 | [j,i,s,r],ad,h=>by
  simp only[addrAt]at h;simp only[kV,addrAt,B4];split at h
  ·rename_i b n c C;split at h
   next D=>rw[aW (by simp[mw,D,kV])];exact h
   ·cases h
  ·cases h
 | j :: i :: s :: x :: y :: q,ad,h=>by
  simp only[addrAt]at h;split at h
  ·rename_i b n c C;split at h
   ·rename_i D;cases E:addrAt w af ρ (x :: y :: q)with
    |none=>simp_all
    | some O=>
     have I:=SG (x::y::q) O E;have e:mw af b=some (kV (x::y::q)):=by simp[mw,D]
     rw[D8 (by simp),D8 (by simp),D8 (by simp)];rw[E]at C;obtain⟨U,Y,T⟩:=Z0 x y q;rw[T]at I e ⊢;simp only[addrAt,I,C,e,if_true];exact h
   ·cases h
  ·cases h
def Z1{k:aa Nat}{u:Value}(h:cK w af ρ k=some u):cK w (mw af) (vP ρ) (kV k)=some u:=by
 match k with
 | [r]=>
  simp[kV,cK,B4];exact h
 | x :: y :: k=>
  simp[cK]at h;cases C:addrAt w af ρ _ with
  |none=>rw[C]at h;cases h
  | some ad=>
   have:=SG _ _ C;obtain⟨E,I,D⟩:=Z0 x y k;rw[D]at this ⊢;simp[cK,this];simp_all
def SH{b:Nat}(h:af b=none):mw af b=none:=by simp[mw,h]
def RV.up(E:∀ b k,af b=some k->k≠[]){k:aa Nat}{x:V}{v:Value}(h:RV w B af k x v):RV w B (mw af) (kV k) x v:=
 h.map (Q:=λk C=>C=kV k) (dH _) (λb _ h=>⟨rfl,SH h⟩) (λb k C _ D e=>by
  subst e;exact⟨rfl,by simp[mw,D],λj i s=>by rw[D8 (by simp),D8 (by simp),D8 (E b k D)]⟩) (.inr rfl)
def dK.up(C:∀ b k,af b=some k->k≠[]){x:Lf}{u:Value}(h:dK w B af ρ x u):dK w B (mw af) (vP ρ) x.up u:=by
 cases x with
 |v x=>exact⟨h.1,RV.up C h.2⟩
 |own k=>exact⟨h.1,Z1 h.2⟩
 |dead=>trivial
def eC.up(E:∀ b k,af b=some k -> k≠[]){cs:aa Lf}{us:Array Value}(h:eC w B af ρ cs us):eC w B (mw af) (vP ρ) (cs.map Lf.up) us:=by
 refine⟨by rw[eT];exact h.1,λj x C=>?_⟩
 rw[ef]at C;cases D:cs[j]? with
 |none=>simp_all
 | some z=>
  rw[D]at C;injection C with C;subst C;obtain⟨u,I,O⟩:=h.2 j z D;exact⟨u,I,O.up E⟩
def RP.up(C:∀ b k,af b=some k->k≠[]){p:Bool×aa Lf}{u:Value}(h:RP w B af ρ p u):RP w B (mw af) (vP ρ) (p.1,p.2.map Lf.up) u:=by
 obtain⟨b,cs⟩:=p;cases b with
 | true=>
  obtain⟨us,rfl,h⟩:=h;exact⟨us,rfl,eC.up C h⟩
 |false=>exact eC.up C h
def RA.up(I:∀ b k,af b=some k -> k≠[]){x:A}{u:Value}(h:RA w B af ρ x u):RA w B (mw af) (vP ρ) x.up u:=by
 cases x with
 |undef=>trivial
 |skip=>exact h
 |lf x=>exact dK.up I h
 |agg cs=>exact RP.up I (p:=(true,cs)) h
 | eU xs=>
  obtain⟨us,rfl,D,E⟩:=h
  refine⟨us,rfl,by rw[eT];exact D,λj p C=>?_⟩
  rw[ef]at C;cases O:xs[j]? with
  |none=>simp_all
  | some z=>
   rw[O]at C;injection C with C;subst C;obtain⟨v,T,U⟩:=E j z O;exact⟨v,T,U.up I⟩
 | ptr k=>
  obtain⟨ad,rfl,h⟩:=h;exact⟨ad,rfl,SG _ _ h⟩
 | aJ r j=>
  obtain⟨b,off,D,E⟩:=h;exact⟨b,off,(B4 r).trans D,E⟩
 | iR cs=>
  obtain⟨b,off,Y,Z,g3,g4⟩:=h
  refine⟨b,off,Y,Z,SH g3,λj x hx=>?_⟩
  obtain⟨f1,v,f2,f3⟩:=g4 j x hx;exact⟨f1,v,f2,RV.up I f3⟩
 | mW f cs=>
  obtain⟨pv,e0,h⟩:=h;refine⟨pv,e0,?_⟩;obtain⟨b,off,Y,Z,g3,g4⟩:=h
  refine⟨b,off,Y,Z,SH g3,λj x hx=>?_⟩
  obtain⟨f1,v,f2,f3⟩:=g4 j x hx;exact⟨f1,v,f2,RV.up I f3⟩
 | pk r n=>
  obtain⟨b,D,E⟩:=h;exact⟨b,(B4 r).trans D,E⟩
 | view k s i j=>
  obtain⟨A,n,c,D,E⟩:=h;exact⟨A,n,c,Z1 D,E⟩
 | fn f cap=>
  obtain⟨vs,rfl,D,E⟩:=h
  refine⟨vs,rfl,by rw[eT];exact D,λj p C=>?_⟩
  rw[ef]at C;cases O:cap[j]? with
  |none=>simp_all
  | some z=>
   rw[O]at C;injection C with C;subst C;obtain⟨b,off,T,U⟩:=E j z O;exact⟨b,off,(B4 _).trans T,U⟩
def dS.up(U:∀ b k,af b=some k -> k≠[]){r:Nat}{x:aQ}(h:dS w B af ρ r x):dS w B (mw af) (vP ρ) (qh r) x.up:=by
 have T:=B4 (ρ:=ρ) r;have Z:∀{b},af b=some [r] -> mw af b=some [qh r]:=λh=>by simp[mw,h,kV]
 cases h with
 | aA b off cells e cs us C I Y hs hc=>
  refine .aA b off cells e _ us (T.trans C) (Z I) Y (by rw[eT];exact hs) λj x D=>?_
  rw[ef]at D;cases E:cs[j]? with
  |none=>simp_all
  | some z=>
   rw[E]at D;injection D with D;subst D;exact⟨(hc j z E).1,(hc j z E).2.up U⟩
 |sl v y C I=>exact .sl v y (T.trans C) (RV.up U I)
 |mp b c es l C I Y he=>exact .mp b c es l (T.trans C) (Z I) Y he
 | gh us xs C D=>
  refine .gh us _ (T.trans C) λj x O=>?_
  rw[ef]at O;cases E:xs[j]? with
  |none=>simp_all
  | some z=>
   rw[E]at O;injection O with O;subst O;exact RA.up U (D j z E)
def Rl.up(h:Rl w0 N af ρ σ a w):Rl w0 N (mw af) (vP ρ) σ.up a w:=by
 have T:=λb k D=>(h.cN b k D).2.2
 refine⟨h.below,λb k D=>?_,λn x C=>?_,λk=>RA.up T (h.tmp k),h.size,h.defers,λr l E=>?_,h.cF⟩
 ·unfold mw at D;cases U:af b with
  |none=>simp_all
  | some q=>
   rw[U]at D;injection D with D;obtain⟨I,O,Z⟩:=h.cN b q U;exact⟨I,O,by rw[<- D];exact aku Z⟩
 ·have C:(match Ae n with | some r=>(σ.m r).map _ | none=>none)=some x:=C;cases Y:Ae n with
  |none=>simp_all
  | some r=>
   rw[Y]at C;have C:(σ.m r).map _=some x:=C;cases hm:σ.m r with
   |none=>simp_all
   | some y=>
    rw[hm]at C;injection C with C;subst C;rw[akt Y];exact(h.root r y hm).up T
 ·have hs:stays r=true:=by
   have I:20000 <= r:=Nat.le_of_not_lt λde=>by rw[w0.low r de]at E;cases E
   have O:r<60000:=Nat.lt_of_not_le λhle=>by rw[h.cF r (.inr hle)]at E;cases E
   unfold stays;rw[Nat.mod_eq_of_lt (Nat.lt_of_lt_of_le O akr)];exact jc I
  have hu:qh r=r:=by simp[qh,hs]
  have:=B4 (ρ:=ρ) r;rw[hu]at this;rw[this];exact h.fix r l E
def akv{f:Nat}{c:uv}(h:qa P f c):qa P f (ZZ c):=by
 refine⟨λN σ xs X Y k g=>h.1 N σ.up (xs.map A.up) X Y _ g,λN σ xs τ z O w0 af ρ a w bA E T U=>?_⟩
 obtain⟨Z,y,C,h2⟩:=(h.1 N σ.up (xs.map A.up)).lD O;injection C with C;injection C with h4 h5;subst h4 h5;have h3:=h.2 N σ.up (xs.map A.up) Z y (h2 _ _);have cm:∀b k,af b=some k->k≠[]:=λb k D=>(E.cN b k D).2.2
 refine(h3 w0 _ _ a w bA E.up (by rw[eT];exact T) λi=>?_).mono λe w' hp=>?_
 ·rw[ef];have:=U i;cases hx:xs[i]? with
  |none=>trivial
  | some x=>
   rw[hx]at this;exact RA.up cm this
 ·obtain⟨v,az,ρ',he,I,hy⟩:=hp;exact⟨v,_,_,he,I.up,RA.up (λb k D=>(I.cN b k D).2.2) hy⟩
end
def bk:Nat:=4611686018427387904
def yg(c:Code)(id:Nat):Code:=match (occs c).lookup id with
 |some (.loop b)=>b
 |_=>.skip
def bx(fn:Func):Code:=fn.body.getD .skip
def lM(l:aa (Nat×qb)):dX:=λf=>l.lookup f
def B5(P:Program):aa (Nat×qb)->Prop
 |[]=>True
 |(f,c)::l=>(enters P f/\QY P f c)/\B5 P l
def uD{P:Program}:∀ (l:aa (Nat×qb)),B5 P l -> fC P (lM l)
 |[],_=>λf c h=>by cases h
 | (f',E) :: l,⟨I,D⟩=>λf c h=>by
  have C:List.lookup f _=some c:=h;rw[List.lookup_cons]at C;split at C
  ·simp_all
  ·exact uD l D f c C
def jA(l:aa (Nat×sK)):mj:=λid=>l.lookup id
def SI(P:Program)(N:Nat)(code:Code):aa (Nat×sK)->Prop
 |[]=>True
 |(id,b)::l=>(∃c,(occs code).lookup id=some c/\BU P N (.block id c) b)/\SI P N code l
def ids(l:aa (Nat×Code)):Bool:=(l.map (·.1)).all λi=>Nat.beq ((l.filter λp=>Nat.beq p.1 i).length) 1
def Z2:∀ (l:aa (Nat×Code)) (p:Nat×Code),(∀ q∈l,q.1=p.1 -> q=p) -> p∈l -> l.lookup p.1=some p.2
 |[],p,_,h=>by cases h
 | q :: l,p,C,h=>by
  rw[List.lookup_cons];by_cases D:p.1=q.1
  ·simp_all
  ·have E:(p.1==q.1)=false:=by simpa using D
   rw[E];rcases gp.1 h with rfl|h
   ·simp_all
   ·exact Z2 l p (λq I=>C q (.tail _ I)) h
def akw{l:aa (Nat×Code)}(h:ids l=true){p q:Nat×Code}(D:p∈l)(E:q∈l)(I:q.1=p.1):q=p:=by
 have C:=bS.1 h p.1 (List.mem_map_of_mem D);have C:=cH C;have O:p∈l.filter λr=>Nat.beq r.1 p.1:=List.mem_filter.2 ⟨D,by simp⟩
 have T:q∈l.filter λr=>Nat.beq r.1 p.1:=List.mem_filter.2 ⟨E,by simp[I]⟩
 obtain⟨z,U⟩:=List.length_eq_one_iff.1 C
 grind
def SJ{P:Program}{N:Nat}{code:Code}(hi:ids (occs code)=true):∀ (l:aa (Nat×sK)),SI P N code l -> oN P N (jA l) (occs code)
 |[],_=>λp D b h=>by cases h
 | (id,T) :: l,⟨⟨c,U,Y⟩,I⟩=>λp D b h=>by
  have C:List.lookup p.1 _=some b:=h;rw[List.lookup_cons]at C;split at C
  ·rename_i E;have E:p.1=id:=by simpa using E
   injection C with C;subst C;have:=Z2 _ p (λq O e=>akw hi D O e) D;simp_all
  ·exact SJ hi l I p D b C
def rD{P:Program}{N:Nat}{l:aa (Nat×Code)}:oN P N (jA []) l:=λp C b h=>by cases h
def ci(P:Program)(fn:Func)(C:Nat)(l:aa (Nat×qb)):uv:=ZU P fn.ntmps (59000+C) (lM l) (bx fn) fn.results
def D9{P:Program}{f:Nat}{fn:Func}(C:Nat)(l:aa (Nat×qb))(D:P.funcs[f]?=some fn)(E:B5 P l)(I:fn.body=some (bx fn):=by kernel_rfl)(O:Nat.ble fn.ntmps 20000=true:=by kernel_rfl)(T:Nat.ble C 900=true:=by kernel_rfl)(U:(fn.name == "runtime.NumGoroutine")=false:=by kernel_rfl):enters P f/\qa P f (ci P fn C l):=
 akp D I rfl (cu O) U ⟨by omega,by have:=cu T;omega⟩ (uD l E)
def cj(P:Program)(fn:Func)(C:Nat)(l:aa (Nat×qb)):uv:=ZZ (ci P fn C l)
def Hf{P:Program}{f:Nat}{fn:Func}{C:Nat}{l:aa (Nat×qb)}(h:enters P f/\qa P f (ci P fn C l)):enters P f/\qa P f (cj P fn C l):=⟨h.1,akv h.2⟩
def LM{P:Program}{f:Nat}{fn:Func}{ai:aa (Bool×TC)}{ro:aa (Bool×TC×Nat)}{F:kA ai->ah (iw ro)}(N:Nat)(l:aa (Nat×qb))(b:aa (Nat×sK))(C:P.funcs[f]?=some fn)(D:B5 P l)(E:oN P N (jA b) (occs (bx fn)))(I:∀x,qg P N (lM l) (jA b) (bx fn) fn.results (ga ai x) (lH ro)=F x)(O:fn.body=some (bx fn):=by kernel_rfl)(T:fn.ntmps=N:=by kernel_rfl)(U:(fn.name == "runtime.NumGoroutine")=false:=by kernel_rfl)(Y:Nat.ble ai.length N=true:=by kernel_rfl)(Z:lK ro=true:=by kernel_rfl):enters P f/\iL P f (gZ ai ro F):=akd C O T U Y Z (uD l D) E I
def B6{P:Program}{f:Nat}{fn:Func}{t:TC}{g:Nat}{F:aa (T t)->ah (aa (T t))}(N:Nat)(l:aa (Nat×qb))(b:aa (Nat×sK))(C:P.funcs[f]?=some fn)(D:B5 P l)(E:oN P N (jA b) (occs (bx fn)))(I:∀ x:aa (T t),qg P N (lM l) (jA b) (bx fn) fn.results [(false,[.sl t 0 false x])] (lH [(false,.sl t,g)])=F x)
  (O:qg P N (lM l) (jA b) (bx fn) fn.results [(false,[.nil])] (lH [(false,.sl t,g)])=some ([]:aa (T t)):=by kernel_rfl) (U:qg P N (lM l) (jA b) (bx fn) fn.results [(false,[.sl t 0 true []])] (lH [(false,.sl t,g)])=some ([]:aa (T t)):=by kernel_rfl)
  (Y:fn.body=some (bx fn):=by kernel_rfl) (Z:fn.ntmps=N:=by kernel_rfl) (ye:(fn.name == "runtime.NumGoroutine")=false:=by kernel_rfl) (G7:Nat.ble 1 N=true:=by kernel_rfl) (dY:lK [(false,.sl t,g)]=true:=by kernel_rfl):enters P f/\iL P f (gZ [(false,.sl t)] [(false,.sl t,g)] λx=>bif ju x.1 then some ([]:aa (T t))else F x.1):=ake C Y Z ye G7 dY (uD l D) E I O U
def Z3{P:Program}{id:Nat}{body:Code}{C:bC}{D:aa (Nat×bC)}{F:C.St->ah (C.St⊕uz D)}{fuel:C.St->Nat}(N:Nat)(l:aa (Nat×qb))(b:aa (Nat×sK))(E:B5 P l)(I:oN P N (jA b) (occs body))(O:∀x,D5 P N (lM l) (jA b) body C D x=F x):BU P N (.block id (.loop body)) (LD id C D F fuel):=aj9 (uD l E) I O
abbrev W6 (x:Int):Int:=IntKind.i64.wrap x
/-! Words for what printed functions say often. -/
def xI{α β:Type}(l:aa α)(i:Int)(k:α->ah β):ah β:=if h:0<=i/\i.toNat<l.length then (let e:=l[i.toNat]'h.2;k e)else none
def xC{α β:Type}(l:aa α)(i:Int)(k:ah β):ah β:=if h:0<=i/\i.toNat<l.length then k else none
def xM{α β:Type}(l:aa α)(i:Int)(k:α->ah β):ah β:=if h:i.toNat<l.length then (let e:=l[i.toNat]'h;k e)else none
def xL{α β:Type}(l:aa α)(i:Int)(k:α->ah β):ah β:=if h:0<=i/\i.toNat<l.length then (if h:i.toNat<l.length then (let e:=l[i.toNat]'h;k e)else none)else none
def xZ{α:Type}(l:aa α):Bool:=bV (([]:aa α).length+l.length)
def xA{α:Type}(l:aa α):aa α:=([]:aa α)++l
def bR{S A C:Type}(L:S->ah (S⊕(A⊕Empty)))(s:S)(f:A->ah C):ah C:=(iter L bk s).bind (Sum.elim f (λz=>nomatch z))
def cZ{S A B C:Type}(L:S->ah (S⊕(A⊕(B⊕Empty))))(s:S)(f:A->ah C)(g:B->ah C):ah C:=(iter L bk s).bind (Sum.elim f (Sum.elim g (λz=>nomatch z)))
def xG{S E:Type}(s:S):ah (S⊕E):=some (.inl s)
def aM{S A E:Type}(v:A):ah (S⊕(A⊕E)):=some (.inr (.inl v))
def bG{S A B E:Type}(v:B):ah (S⊕(A⊕(B⊕E))):=some (.inr (.inr (.inl v)))
abbrev tI:Tm:=.lf (.int .i64)
abbrev tB:Tm:=.lf (.bool)
structure KC (P:Program) where
 f:Nat
 c:qb
 ok:enters P f/\QY P f c
def KL{P:Program}(l:aa (KC P)):aa (Nat×qb):=l.map λk=>(k.f,k.c)
def uE{P:Program}:∀ l:aa (KC P),B5 P (KL l)
 |[]=>trivial
 |k::l=>⟨k.ok,uE l⟩
structure BK (P:Program) (N:Nat) (code:Code) where
 id:Nat
 b:sK
 ok:BU P N (.block id (.loop (yg code id))) b
section
variable {P:Program} {f N:Nat} {fn:Func} {code:Code}
def BL(l:aa (BK P N code)):aa (Nat×sK):=l.map λk=>(k.id,k.b)
def BC(l:aa (BK P N code)):aa (ah Code):=l.map λk=>(occs code).lookup k.id
def BD(l:aa (BK P N code)):aa (ah Code):=l.map λk=>some (.loop (yg code k.id))
def Z4:∀ l:aa (BK P N code),BC l=BD l -> SI P N code (BL l)
 |[],_=>trivial
 | k :: l,h=>by
  unfold BC BD at h;injection h with C D;exact⟨⟨_,C,k.ok⟩,Z4 l D⟩
def BT(l:aa (BK P N code))(C:BC l=BD l)(hi:ids (occs code)=true):oN P N (jA (BL l)) (occs code):=SJ hi _ (Z4 l C)
def lB(id:Nat)(C:bC)(D:aa (Nat×bC))(F:C.St->ah (C.St⊕uz D)):sK:=LD id C D F λ_=>bk
def lp{body:Code}{id:Nat}{C:bC}{D:aa (Nat×bC)}{F:C.St->ah (C.St⊕uz D)}(l:aa (KC P))(E:∀x,D5 P N (lM (KL l)) (jA []) body C D x=F x:=by intro x;kernel_rfl):BU P N (.block id (.loop body)) (lB id C D F):=Z3 N (KL l) [] (uE l) rD E
def lq{id:Nat}{C:bC}{D:aa (Nat×bC)}{F:C.St->ah (C.St⊕uz D)}(l:aa (KC P))(b:aa (BK P N code))(E:BC b=BD b:=by kernel_rfl)(hi:ids (occs code)=true:=by kernel_rfl)(I:∀x,D5 P N (lM (KL l)) (jA (BL b)) code C D x=F x:=by intro x;kernel_rfl):BU P N (.block id (.loop code)) (lB id C D F):=Z3 N (KL l) (BL b) (uE l) (BT b E hi) I
def kp{ai:aa (Bool×TC)}{ro:aa (Bool×TC×Nat)}{F:kA ai->ah (iw ro)}(N:Nat)(l:aa (KC P))(C:P.funcs[f]?=some fn)(D:∀x,qg P N (lM (KL l)) (jA []) (bx fn) fn.results (ga ai x) (lH ro)=F x:=by intro x;kernel_rfl)(E:fn.body=some (bx fn):=by kernel_rfl)(I:fn.ntmps=N:=by kernel_rfl)(O:(fn.name == "runtime.NumGoroutine")=false:=by kernel_rfl)(T:Nat.ble ai.length N=true:=by kernel_rfl)(U:lK ro=true:=by kernel_rfl):enters P f/\iL P f (gZ ai ro F):=LM N (KL l) [] C (uE l) rD D E I O T U
def kq{ai:aa (Bool×TC)}{ro:aa (Bool×TC×Nat)}{F:kA ai->ah (iw ro)}(N:Nat)(l:aa (KC P))(b:aa (BK P N (bx fn)))(C:P.funcs[f]?=some fn)(D:BC b=BD b:=by kernel_rfl)(hi:ids (occs (bx fn))=true:=by kernel_rfl)(E:∀x,qg P N (lM (KL l)) (jA (BL b)) (bx fn) fn.results (ga ai x) (lH ro)=F x:=by intro x;kernel_rfl)(I:fn.body=some (bx fn):=by kernel_rfl)(O:fn.ntmps=N:=by kernel_rfl)(T:(fn.name == "runtime.NumGoroutine")=false:=by kernel_rfl)(U:Nat.ble ai.length N=true:=by kernel_rfl)(Y:lK ro=true:=by kernel_rfl):enters P f/\iL P f (gZ ai ro F):=LM N (KL l) (BL b) C (uE l) (BT b D hi) E I O T U Y
def km{ps:aa PK}{ro:aa (Bool×TC×Nat)}{F:kR ps->ah (iw ro×q5 (ez ps))}(N:Nat)(l:aa (KC P))(C:P.funcs[f]?=some fn)(D:∀x,B1 P N (lM (KL l)) (jA []) (bx fn) fn.results (m8 ps x) (jN ps 0 x) (D6 (ez ps) ro)=F x:=by intro x;kernel_rfl)(E:fn.body=some (bx fn):=by kernel_rfl)(I:fn.ntmps=N:=by kernel_rfl)(O:(fn.name == "runtime.NumGoroutine")=false:=by kernel_rfl)(T:Nat.ble ps.length N=true:=by kernel_rfl)(U:Nat.ble N 20000=true:=by kernel_rfl)(Y:lK ro=true:=by kernel_rfl):enters P f/\vD P f ⟨ps,ro,F⟩:=LI C E I O T U Y (uD _ (uE l)) rD D
def kn{ps:aa PK}{ro:aa (Bool×TC×Nat)}{F:kR ps->ah (iw ro×q5 (ez ps))}(N:Nat)(l:aa (KC P))(b:aa (BK P N (bx fn)))(C:P.funcs[f]?=some fn)(D:BC b=BD b:=by kernel_rfl)(hi:ids (occs (bx fn))=true:=by kernel_rfl)(E:∀x,B1 P N (lM (KL l)) (jA (BL b)) (bx fn) fn.results (m8 ps x) (jN ps 0 x) (D6 (ez ps) ro)=F x:=by intro x;kernel_rfl)(I:fn.body=some (bx fn):=by kernel_rfl)(O:fn.ntmps=N:=by kernel_rfl)(T:(fn.name == "runtime.NumGoroutine")=false:=by kernel_rfl)(U:Nat.ble ps.length N=true:=by kernel_rfl)(Y:Nat.ble N 20000=true:=by kernel_rfl)(Z:lK ro=true:=by kernel_rfl):enters P f/\vD P f ⟨ps,ro,F⟩:=LI C I O T U Y Z (uD _ (uE l)) (BT b D hi) E
def bQ(ai:aa (Bool×TC))(ro:aa (Bool×TC×Nat))(F:kA ai->ah (iw ro))(N:Nat)(l:aa (KC P))(C:P.funcs[f]?=some fn)(D:∀x,qg P N (lM (KL l)) (jA []) (bx fn) fn.results (ga ai x) (lH ro)=F x:=by intro x;kernel_rfl)(E:fn.body=some (bx fn):=by kernel_rfl)(I:fn.ntmps=N:=by kernel_rfl)(O:(fn.name == "runtime.NumGoroutine")=false:=by kernel_rfl)(T:Nat.ble ai.length N=true:=by kernel_rfl)(U:lK ro=true:=by kernel_rfl):KC P:=⟨f,.p (gZ ai ro F),LM N (KL l) [] C (uE l) rD D E I O T U⟩
def dg(ai:aa (Bool×TC))(ro:aa (Bool×TC×Nat))(F:kA ai->ah (iw ro))(N:Nat)(l:aa (KC P))(b:aa (BK P N (bx fn)))(C:P.funcs[f]?=some fn)(D:BC b=BD b:=by kernel_rfl)(hi:ids (occs (bx fn))=true:=by kernel_rfl)(E:∀x,qg P N (lM (KL l)) (jA (BL b)) (bx fn) fn.results (ga ai x) (lH ro)=F x:=by intro x;kernel_rfl)(I:fn.body=some (bx fn):=by kernel_rfl)(O:fn.ntmps=N:=by kernel_rfl)(T:(fn.name == "runtime.NumGoroutine")=false:=by kernel_rfl)(U:Nat.ble ai.length N=true:=by kernel_rfl)(Y:lK ro=true:=by kernel_rfl):KC P:=⟨f,.p (gZ ai ro F),LM N (KL l) (BL b) C (uE l) (BT b D hi) E I O T U Y⟩
def mz(ps:aa PK)(ro:aa (Bool×TC×Nat))(F:kR ps->ah (iw ro×q5 (ez ps)))(N:Nat)(l:aa (KC P))(C:P.funcs[f]?=some fn)(D:∀x,B1 P N (lM (KL l)) (jA []) (bx fn) fn.results (m8 ps x) (jN ps 0 x) (D6 (ez ps) ro)=F x:=by intro x;kernel_rfl)(E:fn.body=some (bx fn):=by kernel_rfl)(I:fn.ntmps=N:=by kernel_rfl)(O:(fn.name == "runtime.NumGoroutine")=false:=by kernel_rfl)(T:Nat.ble ps.length N=true:=by kernel_rfl)(U:Nat.ble N 20000=true:=by kernel_rfl)(Y:lK ro=true:=by kernel_rfl):KC P:=⟨f,.m ⟨ps,ro,F⟩,LI C E I O T U Y (uD _ (uE l)) rD D⟩
def LN(ps:aa PK)(ro:aa (Bool×TC×Nat))(F:kR ps->ah (iw ro×q5 (ez ps)))(N:Nat)(l:aa (KC P))(b:aa (BK P N (bx fn)))(C:P.funcs[f]?=some fn)(D:BC b=BD b:=by kernel_rfl)(hi:ids (occs (bx fn))=true:=by kernel_rfl)(E:∀x,B1 P N (lM (KL l)) (jA (BL b)) (bx fn) fn.results (m8 ps x) (jN ps 0 x) (D6 (ez ps) ro)=F x:=by intro x;kernel_rfl)(I:fn.body=some (bx fn):=by kernel_rfl)(O:fn.ntmps=N:=by kernel_rfl)(T:(fn.name == "runtime.NumGoroutine")=false:=by kernel_rfl)(U:Nat.ble ps.length N=true:=by kernel_rfl)(Y:Nat.ble N 20000=true:=by kernel_rfl)(Z:lK ro=true:=by kernel_rfl):KC P:=⟨f,.m ⟨ps,ro,F⟩,LI C I O T U Y Z (uD _ (uE l)) (BT b D hi) E⟩
def Z5{A R:Type}(F:R)(_:A):R:=F
def cw{A Z R:Type}(F:A->R)(x:A×Z):R:=F x.1
def di{A B Z R:Type}(F:A->B->R)(x:A×B×Z):R:=F x.1 x.2.1
def iV{A B C Z R:Type}(F:A->B->C->R)(x:A×B×C×Z):R:=F x.1 x.2.1 x.2.2.1
def B7{A B C D Z R:Type}(F:A->B->C->D->R)(x:A×B×C×D×Z):R:=F x.1 x.2.1 x.2.2.1 x.2.2.2.1
def SK{A B C D E Z R:Type}(F:A->B->C->D->E->R)(x:A×B×C×D×E×Z):R:=F x.1 x.2.1 x.2.2.1 x.2.2.2.1 x.2.2.2.2.1
end
end Go.Proofs.YtgjfmljpdnnihaaGreat
