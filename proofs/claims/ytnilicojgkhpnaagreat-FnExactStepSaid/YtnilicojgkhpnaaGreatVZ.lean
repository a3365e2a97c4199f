/-
  Running the program over pure contents, and that it follows (part Z). Nothing here is a claim.
-/
import Derived.Test.YtnilicojgkhpnaaGreatV4
set_option linter.unusedSimpArgs false
namespace Go.Proofs.YtnilicojgkhpnaaGreat
set_option linter.defProp false
open Go.RowKit
set_option linter.unusedVariables false
section
variable {P:Program} {w w':World} {w0:Wd} {B N:Nat} {aj ax:bw} {ρ ρ':Nat->Loc} {σ:S} {a:Act} {X:Type} {d:Nat} {r:X} {o:Oper} {Φ:dJ} {Λ:lI}
def apY{L:ah Tmp}{g:Bool}{k:S -> ah X}(h:qF σ L g k=some r):∃ D,k D=some r /\ ∀ a w,R w0 N σ a w -> R w0 N D a w:=by
 unfold qF at h;cases g with
 |false=>grind
 | true=>
  rw[cond_true]at h;split at h
  ·rename_i d;split at h
   ·rename_i b O;have key:∀ c:Bool,b=c -> ∀ a w,R w0 N σ a w -> R w0 N (σ.set d (.lf (.v (.bool c)))) a w:=by
     rintro c rfl a w ⟨aj,ρ,C⟩
     refine⟨aj,ρ,C.below,C.cL,C.root,λk=>?_,C.size,C.defers,C.fix,C.cT⟩
     show RA w w0.heap.size aj ρ (bO σ.t d (.lf (.v (.bool b))) k) _;by_cases E:k=d
     ·subst E;rw[bR,<- O];exact C.tmp k
     ·rw[cw _ _ _ E];exact C.tmp k
    grind
   ·grind
  ·grind
def Ns(Y:eR P Φ)(ops:Array Oper):∀ (rest:aa Oper) (j:Nat) (σ:S) (k:S -> ah X),AM P N Φ ops j rest σ k=some r -> ∃ cy,k cy=some r /\ ∀ a w,R w0 N σ a w -> ∀ Q,(∀ L w',R w0 N cy L w' -> Q Exit.normal L w') -> wpList P ops Q rest a w
 |[],j,σ,k,h=>⟨σ,h,λa w D Q E=>E a w D⟩
 | o :: rest,j,σ,k,h=>by
  unfold AM at h;split at h
  ·rename_i Z;obtain⟨ot,h1,ud⟩:=aoY Y h;obtain⟨σ2,h2,tH⟩:=apY h1;obtain⟨O,T,U⟩:=Ns Y ops rest (j+1) σ2 k h2
   refine⟨O,T,λa w D Q E=>?_⟩
   obtain⟨aj,ρ,C⟩:=D;simp only[wpList,Dw Z C,if_true];exact .inl (ud a w _ Q ⟨aj,ρ,C⟩ λL w' tX=>U L w' (tH L w' tX) Q E)
  ·rename_i Z;unfold gd at h;split at h
   ·rename_i hd;obtain⟨O,T,U⟩:=Ns Y ops rest _ σ k h
    refine⟨O,T,λa w D Q E=>?_⟩
    obtain⟨aj,ρ,C⟩:=D;simp[wpList,Dw Z C,hd];exact U a w ⟨aj,ρ,C⟩ Q E
   ·rename_i d hd;cases hN:Nat.blt d N with
    |false=>simp_all
    | true=>
     rw[hN,cond_true]at h;obtain⟨O,T,U⟩:=Ns Y ops rest (j+1) _ k h
     refine⟨O,T,λa w D Q E=>?_⟩
     obtain⟨aj,ρ,C⟩:=D;simp only[wpList,Dw Z C,hd];exact U _ w ⟨aj,ρ,C.set rfl (by have:=Nat.le_of_ble_eq_true hN;omega)⟩ Q E
  ·cases h
def G7(dB:eR P Φ):∀ (c:Code) (σ:S) (k:Exit->S->ah X),jU P N Φ Λ c σ k=some r->ow P N Λ (occs c)->AW P w0 N c σ λe E=>k e E=some r:=by
 intro c
 induction c with
 |skip=>exact λσ k h _ a w C=>wp_skip ⟨σ,h,C⟩
 |label l=>exact λσ k h _ a w C=>wp_label ⟨σ,h,C⟩
 |ret=>exact λσ k h _ a w C=>wp_ret ⟨σ,h,C⟩
 |exit id=>exact λσ k h _ a w C=>wp_exit ⟨σ,h,C⟩
 | region id ops draw=>
  intro σ k h _ a w C;cases draw with
  | true=>
   simp only[jU]at h;cases hm:P.follows .mixedOrders with
   |false=>rw[hm]at h;cases h
   | true=>
    rw[hm,cond_true]at h
    haveI:Inhabited Wd:=⟨w0⟩
    exact apX dB hm h (λτ gv a w C=>⟨τ,gv,C⟩) C
  | false=>
   simp only[jU]at h;obtain⟨E,h',hw⟩:=Ns (w0:=w0) dB ops _ _ _ _ h;exact wp_region_list (hw a w C _ λU w' D=>⟨E,h',D⟩)
 | seq x y Y Z=>
  intro σ k h O a w C;simp only[jU]at h;have h1:=Y σ _ h (λp L=>O p (List.mem_append_left _ L))
  refine wp_seq (wp_mono (h1 a w C) λe U w' he=>?_)
  obtain⟨E,T,D⟩:=he;cases e with
  |normal=>exact Z E k T (λp L=>O p (List.mem_append_right _ L)) U w' D
  |_=>exact⟨E,T,D⟩
 | cond c x y Y Z=>
  intro σ k h O a w C;simp only[jU]at h;split at h
  ·rename_i b hb;obtain⟨aj,ρ,D⟩:=C;have hc:=D.aH c;rw[hb]at hc;have hcv:=hc.2.xw;cases b with
   |true=>exact wp_cond_true hcv (Y σ k h (λp L=>O p (List.mem_append_left _ L)) a w ⟨aj,ρ,D⟩)
   |false=>exact wp_cond_false hcv (Z σ k h (λp L=>O p (List.mem_append_right _ L)) a w ⟨aj,ρ,D⟩)
  ·cases h
 | block id c ih=>
  intro σ k h O a w C;simp only[jU]at h;split at h
  next b hb=>exact O (id,c) (.head _) b hb X σ k r w0 h a w C
  ·have h1:=ih σ _ h (λp L=>O p (.tail _ L))
   refine wp_block (wp_mono (h1 a w C) λe U w' he=>?_)
   obtain⟨E,T,D⟩:=he;cases e with
   | exit id'=>
    simp only[Exit.inBlock];by_cases hid:id'=id
    ·simp only[hid,if_true]at T ⊢;exact⟨E,T,D⟩
    ·simp only[hid,if_false]at T ⊢;exact⟨E,T,D⟩
   |_=>exact⟨E,T,D⟩
 |_=>exact λσ k h=>by simp[jU]at h
end
/-! What a loop carries. -/
inductive Lm where
 |int (k:IntKind)
 |bool
 |str
 |own (r:Nat)
 |aC (t:TC) (o:Nat)
def Lm.T:Lm->Type
 |.int _=>Int
 |.bool=>Bool
 |.str=>ByteArray
 |.own _=>af
 |.aC t _=>aa (Proofs.YtnilicojgkhpnaaGreat.T t)
def Lm.mk:(m:Lm)->m.T->Lf
 |.int k,n=>.v (.int k n)
 |.bool,b=>.v (.bool b)
 |.str,s=>.v (.str s)
 |.own r,_=>.own [r]
 |.aC t o,l=>.v (.sl t o false l)
def Lm.rd:(m:Lm)->Lf->ah m.T
 |.int k,.v (.int C n)=>if C=k then some n else none
 |.bool,.v (.bool b)=>some b
 |.str,.v (.str s)=>some s
 |.own r,.own [D]=>bif Nat.beq D r then some ()else none
 |.aC t o,.v x=>bif Nat.blt o 2 then x.eo t o else none
 |_,_=>none
inductive Tm where
 |lf (m:Lm)
 |aG (r j:Nat)
 |fp (t:TC) (o:Nat)
 |fc (f:Nat) (t:TC)
 |ag (t:TC)
 |pk (r n:Nat)
def Tm.T:Tm->Type
 |.lf m=>m.T
 |.aG _ _=>af
 |.fp t _=>Proofs.YtnilicojgkhpnaaGreat.T t
 |.fc _ t=>Proofs.YtnilicojgkhpnaaGreat.T t
 |.ag t=>Proofs.YtnilicojgkhpnaaGreat.T t
 |.pk _ _=>af
def Tm.mk:(m:Tm)->m.T->A
 |.lf m,x=>.lf (m.mk x)
 |.aG r j,_=>.aG r j
 |.fp t o,x=>.gS (enc t o x)
 |.fc f t,x=>.ld f (enc t 0 x)
 |.ag t,x=>.agg ((enc t 0 x).map .v)
 |.pk r n,_=>.pk r n
def Tm.rd:(m:Tm)->A->ah m.T
 |.lf m,.lf x=>m.rd x
 |.aG r j,.aG C D=>bif Nat.beq C r&&Nat.beq D j then some ()else none
 |.fp t o,.gS cs=>bif Nat.blt o 2 then dec t o cs else none
 |.fc f t,.ld E cs=>bif Nat.beq E f then dec t 0 cs else none
 | .ag t,.agg cs=>(match tQ cs with
  |some L=>dec t 0 L
  |none=>none)
 |.pk r n,.pk C O=>bif Nat.beq C r&&Nat.beq O n then some ()else none
 |_,_=>none
def G8:aa Lm->Type
 |[]=>af
 |m::C=>m.T×G8 C
def v7:(C:aa Lm)->G8 C->aa Lf
 |[],_=>[]
 |m::C,x=>m.mk x.1::v7 C x.2
def Nt:(C:aa Lm)->aa Lf->ah (G8 C)
 |[],[]=>some ()
 | m :: C,x :: xs=>match m.rd x,Nt C xs with
  |some y,some ys=>some (y,ys)
  |_,_=>none
 |_,_=>none
inductive Rm where
 |sl (t:TC) (o:Nat)
 |st (t:TC)
 |az (ms:List Lm)
 |mp
def Rm.T:Rm->Type
 |.sl t _=>aa (Proofs.YtnilicojgkhpnaaGreat.T t)
 |.st t=>Proofs.YtnilicojgkhpnaaGreat.T t
 |.az C=>G8 C
 |.mp=>aa (Int×Bool)
def Rm.mk:(m:Rm)->m.T->aU
 |.sl t o,l=>.sl (.sl t o false l)
 |.st t,x=>.az ((enc t 0 x).map .v)
 |.az C,x=>.az (v7 C x)
 |.mp,l=>.mp l
def Rm.rd:(m:Rm)->aU->ah m.T
 |.sl t o,.sl y=>y.eo t o
 | .st t,.az cs=>(match tQ cs with
  |some C=>dec t 0 C
  |none=>none)
 |.az D,.az cs=>Nt D cs
 |.mp,.mp l=>some l
 |_,_=>none
def Dx:aa (Nat×Tm)->Type
 |[]=>af
 |(_,m)::C=>m.T×Dx C
def v8:(C:aa (Nat×Tm))->Dx C->Nat->A
 |[],_,_=>.undef
 |(n,m)::C,x,k=>bif Nat.beq k n then m.mk x.1 else v8 C x.2 k
def G9:(C:aa (Nat×Tm))->(Nat->A)->ah (Dx C)
 |[],_=>some ()
 | (n,m) :: C,t=>match m.rd (t n),G9 C t with
  |some x,some xs=>some (x,xs)
  |_,_=>none
def v9:aa (Nat×Rm)->Type
 |[]=>af
 |(_,m)::C=>m.T×v9 C
def we:(C:aa (Nat×Rm))->v9 C->Nat->ah aU
 |[],_,_=>none
 |(n,m)::C,x,k=>bif Nat.beq k n then some (m.mk x.1)else we C x.2 k
def Dy:(C:aa (Nat×Rm))->(Nat->ah aU)->ah (v9 C)
 |[],_=>some ()
 | (n,m) :: C,t=>match (t n).bind m.rd,Dy C t with
  |some x,some xs=>some (x,xs)
  |_,_=>none
structure ic where
 ts:List (Nat×Tm)
 rs:List (Nat×Rm)
def ic.St(C:ic):Type:=Dx C.ts×v9 C.rs
def ic.mk'(C:ic)(x:C.St):S:=⟨v8 C.ts x.1,we C.rs x.2⟩
def ic.Nu(C:ic)(σ:S):ah C.St:=match G9 C.ts σ.t,Dy C.rs σ.m with
 |some x,some y=>some (x,y)
 |_,_=>none
/-! Roots by other names. -/
abbrev Rn:=aa (Nat×Nat)
def Rn.inv(rs:Rn)(n:Nat):ah Nat:=(rs.find? λp=>Nat.beq p.2 n).map (·.1)
def Rn.add(rs:Rn)(r n:Nat):Rn:=bif rs.any (λp=>Nat.beq p.1 r&&Nat.beq p.2 n)then rs else (r,n)::rs
def VK(n:Nat):ah Nat->Bool
 |some m=>Nat.beq m n
 |none=>false
def Rn.ok(rs:Rn):Bool:=rs.all λp=>(Nat.beq p.1 p.2 ||Nat.ble 60000 p.2)&&VK p.2 (rs.lookup p.1)&&VK p.1 (rs.inv p.2)
def Lf.dA(rs:Rn):Lf->Lf
 |.v x=>.v x
 | .own [r]=>(match rs.lookup r with
  |some n=>.own [n]
  |none=>.dead)
 |_=>.dead
def A.dA(rs:Rn):A->A
 |.lf x=>.lf (x.dA rs)
 | .aG r j=>(match rs.lookup r with
  |some n=>.aG n j
  |none=>.undef)
 |.gS cs=>.gS cs
 |.ld f cs=>.ld f cs
 |.agg cs=>.agg (cs.map (Lf.dA rs))
 |_=>.undef
def aU.dA(rs:Rn):aU->aU
 |.az cs=>.az (cs.map (Lf.dA rs))
 |.sl y=>.sl y
 |.mp l=>.mp l
 |.gh _=>.gh []
def S.dA(rs:Rn)(σ:S):S:=⟨λk=>(σ.t k).dA rs,λn=>match rs.inv n with
 |some r=>(σ.m r).map (aU.dA rs)
 |none=>none⟩
def rnL:Lm->Lf->Rn->Rn
 |.own n,.own [r],rs=>rs.add r n
 |_,_,rs=>rs
def VL:aa Lm->aa Lf->Rn->Rn
 |m::C,x::xs,rs=>VL C xs (rnL m x rs)
 |_,_,rs=>rs
def rnT:Tm->A->Rn->Rn
 |.lf m,.lf x,rs=>rnL m x rs
 |.aG n j,.aG r C,rs=>rs.add r n
 |_,_,rs=>rs
def acQ(t:Nat->A):aa (Nat×Tm)->Rn->Rn
 |[],rs=>rs
 |(k,m)::C,rs=>acQ t C (rnT m (t k) rs)
def acR(m:Nat->ah aU):aa (Nat×Rm)->Rn->Rn
 |[],rs=>rs
 | (n,x) :: xs,rs=>acR m xs (match x,rs.inv n with
  | .az C,some r=>(match m r with
   |some (.az cs)=>VL C cs rs
   |_=>rs)
  | .az C,none=>(match m n with
   |some (.az cs)=>VL C cs (rs.add n n)
   |_=>rs)
  |_,some _=>rs
  |_,none=>rs.add n n)
def ic.rn(C:ic)(σ:S):Rn:=acR σ.m C.rs (acQ σ.t C.ts [])
def VM(rs:aa (Nat×Rm))(p:Nat×Tm)(σ:S):S:=match p.2,σ.t p.1 with
 | .lf (.own n),.lf (.v .nil)=>(match rs.lookup n with
  |some (.sl t o)=>bif Nat.ble 60000 n then ⟨bO ((σ.drop n).root n (.sl (.sl t o false []))).t p.1 (.lf (.own [n])),((σ.drop n).root n (.sl (.sl t o false []))).m⟩else σ
  |_=>σ)
 |_,_=>σ
def Nv(rs:aa (Nat×Rm)):aa (Nat×Tm)->S->S
 |[],σ=>σ
 |p::ps,σ=>Nv rs ps (VM rs p σ)
def VN(n j r:Nat)(σ:S):S:=match σ.m r with
 | some (.az cs)=>(match cs[j]? with
  |some (.v .nil)=>⟨σ.t,bO σ.m r (some (.az (cs.set j (.own [n]))))⟩
  |_=>σ)
 |_=>σ
def VO(rs:aa (Nat×Rm))(n j r:Nat)(σ:S):S:=match rs.lookup n with
 |some (.sl t o)=>bif Nat.ble 60000 n then VN n j r ((σ.drop n).root n (.sl (.sl t o false [])))else σ
 |_=>σ
def AZ(rs:aa (Nat×Rm))(r:Nat):Nat->aa Lm->aa Lf->S->S
 |j,.own n::C,.v .nil::cs,σ=>AZ rs r (j+1) C cs (VO rs n j r σ)
 |j,_::C,_::cs,σ=>AZ rs r (j+1) C cs σ
 |_,_,_,σ=>σ
def Nw(rs:aa (Nat×Rm)):aa (Nat×Rm)->S->S
 |[],σ=>σ
 | (r,.az C) :: ps,σ=>Nw rs ps (match σ.m r with
  |some (.az cs)=>AZ rs r 0 C cs σ
  |_=>σ)
 |_::ps,σ=>Nw rs ps σ
def ic.rd1(C:ic)(σ:S):ah C.St:=bif (C.rn σ).ok then C.Nu (Nw C.rs C.rs (σ.dA (C.rn σ)))else none
def ic.rd(C:ic)(σ:S):ah C.St:=match C.Nu σ with
 |some x=>some x
 |none=>C.rd1 (Nv C.rs C.ts σ)
section
variable {P:Program} {w w':World} {w0:Wd} {B N:Nat} {aj ax:bw} {ρ ρ':Nat->Loc} {σ:S} {a:Act} {X:Type} {d:Nat} {r:X} {o:Oper} {Φ:dJ} {Λ:lI}
def Lm.oy{m:Lm}{x:Lf}{y:m.T}(h:m.rd x=some y){u:Value}(C:dm w B aj ρ x u):dm w B aj ρ (m.mk y) u:=by
 unfold Lm.rd at h;split at h
 ·split at h
  next E=>subst E;injection h with h;subst h;exact C
  ·cases h
 ·injection h with h;subst h;exact C
 ·injection h with h;subst h;exact C
 ·rename_i L O;cases D:Nat.beq O L with
  |false=>simp_all
  |true=>obtain rfl:=Nat.eq_of_beq_eq_true D;exact C
 ·rename_i t o x;cases D:Nat.blt o 2 with
  |false=>rw[D]at h;cases h
  | true=>
   rw[D]at h;have:=Nat.le_of_ble_eq_true D;exact⟨by simp[V.aC];omega,C.2.wk (V.FB h)⟩
 ·cases h
def Tm.oy{m:Tm}{x:A}{y:m.T}(h:m.rd x=some y){u:Value}(O:RA w B aj ρ x u):RA w B aj ρ (m.mk y) u:=by
 cases m with
 | lf m=>
  cases x with
  |lf x=>exact Lm.oy h O
  |_=>cases h
 | aG r j=>
  cases x with
  | aG Y j'=>
   have h:(bif Nat.beq Y r&&Nat.beq j' j then some ()else none)=some y:=h;cases C:(Nat.beq Y r&&Nat.beq j' j)with
   |false=>simp_all
   | true=>
    rw[Bool.and_eq_true]at C;obtain rfl:=Nat.eq_of_beq_eq_true C.1;obtain rfl:=Nat.eq_of_beq_eq_true C.2;exact O
  |_=>cases h
 | fp t o=>
  cases x with
  | gS cs=>
   have h:(bif Nat.blt o 2 then dec t o cs else none)=some y:=h;cases C:Nat.blt o 2 with
   |false=>simp_all
   | true=>
    rw[C,cond_true]at h;have ho:=Nat.le_of_ble_eq_true C;have E:=ko t o cs y h;obtain⟨b,off,Z,h2,h3,h4⟩:=O
    refine⟨b,off,Z,h2,h3,λj z D=>?_⟩
    have hj:j<cs.length:=by rw[E.1];exact(List.getElem?_eq_some_iff.1 D).1
    have L:=List.getElem?_eq_getElem hj;obtain⟨g1,v,g2,g3⟩:=h4 j _ L;exact⟨qi t o y (by omega) j z D,v,g2,g3.wk (E.2 j _ z L D)⟩
  |_=>cases h
 | fc f t=>
  cases x with
  | ld f' cs=>
   have h:(bif Nat.beq f' f then dec t 0 cs else none)=some y:=h;cases C:Nat.beq f' f with
   |false=>simp_all
   | true=>
    rw[C,cond_true]at h;obtain rfl:=Nat.eq_of_beq_eq_true C;have E:=ko t 0 cs y h;obtain⟨pv,e0,b,off,Z,h2,h3,h4⟩:=O
    refine⟨pv,e0,b,off,Z,h2,h3,λj z D=>?_⟩
    have hj:j<cs.length:=by rw[E.1];exact(List.getElem?_eq_some_iff.1 D).1
    have L:=List.getElem?_eq_getElem hj;obtain⟨g1,v,g2,g3⟩:=h4 j _ L;exact⟨qi t 0 y (by omega) j z D,v,g2,g3.wk (E.2 j _ z L D)⟩
  |_=>cases h
 | ag t=>
  cases x with
  | agg cs=>
   have h:(match tQ cs with|some U=>dec t 0 U|none=>none)=some y:=h;cases iN:tQ cs with
   |none=>simp_all
   | some U=>
    rw[iN]at h;have h:dec t 0 U=some y:=h;have fB:=Mw _ _ iN;have E:=ko t 0 U y h;obtain⟨us,Z,h2,h3⟩:=O
    refine⟨us,Z,?_,λj x hx=>?_⟩
    ·rw[h2,fB,List.length_map,List.length_map,E.1]
    ·rw[List.getElem?_map]at hx;cases D:(enc t 0 y)[j]? with
     |none=>simp_all
     | some z=>
      rw[D]at hx;injection hx with hx;subst hx;have hj:j<U.length:=by rw[E.1];exact(List.getElem?_eq_some_iff.1 D).1
      have L:=List.getElem?_eq_getElem hj;obtain⟨v,g1,g2⟩:=h3 j (.v U[j]) (by rw[fB,List.getElem?_map,L];rfl);exact⟨v,g1,qi t 0 y (by omega) j z D,g2.2.wk (E.2 j _ z L D)⟩
  |_=>cases h
 | pk r n=>
  cases x with
  | pk Y n'=>
   have h:(bif Nat.beq Y r&&Nat.beq n' n then some ()else none)=some y:=h;cases C:(Nat.beq Y r&&Nat.beq n' n)with
   |false=>simp_all
   | true=>
    rw[Bool.and_eq_true]at C;obtain rfl:=Nat.eq_of_beq_eq_true C.1;obtain rfl:=Nat.eq_of_beq_eq_true C.2;exact O
  |_=>cases h
def acS:∀ (C:aa Lm) (cs:aa Lf) (y:G8 C),Nt C cs=some y -> (v7 C y).length=cs.length /\ ∀ (j:Nat) x,(v7 C y)[j]?=some x -> ∃ z,cs[j]?=some z/\(∀ (w:World) (B:Nat) (aj:bw) (ρ:Nat -> Loc) (u:Value),dm w B aj ρ z u -> dm w B aj ρ x u)
 |[],[],y,h=>⟨rfl,λj x D=>by simp[v7]at D⟩
 | m :: C,c :: cs,y,h=>by
  unfold Nt at h;split at h
  ·rename_i Y ys E L;injection h with h;subst h;obtain⟨O,T⟩:=acS C cs ys L
   refine⟨by simp[v7,O],λj x D=>?_⟩
   cases j with
   |zero=>simp[v7]at D;subst D;exact⟨c,rfl,λw B aj ρ u U=>Lm.oy E U⟩
   |succ j=>exact T j x (by simpa [v7]using D)
  ·cases h
def Rm.oy{m:Rm}{x:aU}{y:m.T}(h:m.rd x=some y){n:Nat}(C:dx w B aj ρ n x):dx w B aj ρ n (m.mk y):=by
 cases m with
 | sl t o=>
  cases C with
  |sl v y' D hr=>exact .sl v _ D (hr.wk (V.FB h))
  |az=>cases h
  |mp=>cases h
  |gh=>cases h
 | mp=>
  cases C with
  |gh=>cases h
  |sl=>cases h
  |az=>cases h
  |mp b c es l D L O he=>injection h with h;subst h;exact .mp b c es _ D L O he
 | st t=>
  cases C with
  |sl=>cases h
  |mp=>cases h
  |gh=>cases h
  | az b off cells e cs us D L O U hc=>
   have h:(match tQ cs with|some E=>dec t 0 E|none=>none)=some y:=h;cases iN:tQ cs with
   |none=>simp_all
   | some E=>
    rw[iN]at h;have h:dec t 0 E=some y:=h;have fB:=Mw _ _ iN;have Z:=ko t 0 E y h
    refine .az b off cells e _ us D L O (by rw[List.length_map,<- Z.1];rw[fB,List.length_map]at U;exact U) λj x C=>?_
    rw[List.getElem?_map]at C;cases Y:(enc t 0 y)[j]? with
    |none=>simp_all
    | some z=>
     rw[Y]at C;injection C with C;subst C;have hj:j<E.length:=by rw[Z.1];exact(List.getElem?_eq_some_iff.1 Y).1
     have hv:=List.getElem?_eq_getElem hj;obtain⟨h1,h2⟩:=hc j (.v E[j]) (by rw[fB,List.getElem?_map,hv];rfl);exact⟨h1,qi t 0 y (by omega) j z Y,h2.2.wk (Z.2 j _ z hv Y)⟩
 | az ms=>
  cases C with
  |sl=>cases h
  |mp=>cases h
  |gh=>cases h
  | az b off cells e cs us D L O U hc=>
   obtain⟨k1,k2⟩:=acS ms cs y h
   refine .az b off cells e _ us D L O (by show off+(v7 ms y).length <= _;rw[k1];exact U) λj x C=>?_
   grind
def VP:∀ (C:aa (Nat×Tm)) (t:Nat -> A) (y:Dx C),G9 C t=some y -> ∀ k,v8 C y k = .undef \/ ∃ m z,(Tm.rd m (t k)=some z/\v8 C y k=m.mk z)
 |[],t,y,h,k=>.inl rfl
 | (n,m) :: C,t,y,h,k=>by
  unfold G9 at h;split at h
  ·rename_i x xs E L;injection h with h;subst h;by_cases O:k=n
   ·subst O;exact .inr ⟨m,x,E,by simp[v8]⟩
   ·have D:Nat.beq k n=false:=by
     cases D:Nat.beq k n with
     |false=>rfl
     |true=>simp_all
    simp only[v8,D,cond_false];exact VP C t xs L k
  ·cases h
def VQ:∀ (C:aa (Nat×Rm)) (t:Nat -> ah aU) (y:v9 C),Dy C t=some y -> ∀ k,we C y k=none \/ ∃ m x z,t k=some x/\Rm.rd m x=some z/\we C y k=some (m.mk z)
 |[],t,y,h,k=>.inl rfl
 | (n,m) :: C,t,y,h,k=>by
  unfold Dy at h;split at h
  ·rename_i x xs D L;injection h with h;subst h;by_cases O:k=n
   ·subst O;cases T:t k with
    |none=>simp_all
    |some z=>rw[T]at D;exact .inr ⟨m,z,x,rfl,D,by simp[we]⟩
   ·have E:Nat.beq k n=false:=by
     cases E:Nat.beq k n with
     |false=>rfl
     |true=>simp_all
    simp only[we,E,cond_false];exact VQ C t xs L k
  ·cases h
def ic.acT{D:ic}{x:D.St}(h:D.Nu σ=some x)(C:R w0 N σ a w):R w0 N (D.mk' x) a w:=by
 unfold ic.Nu at h;split at h
 ·rename_i u v T U;injection h with h;subst h;obtain⟨aj,ρ,C⟩:=C
  refine⟨aj,ρ,C.below,C.cL,λn y E=>?_,λk=>?_,C.size,C.defers,C.fix,C.cT⟩
  ·have E:we D.rs v n=some y:=E;rcases VQ D.rs σ.m v U n with e | ⟨m,x,z,L,O,Y⟩
   ·simp_all
   ·rw[Y]at E;injection E with E;subst E;exact Rm.oy O (C.root n x L)
  ·show RA _ _ _ _ (v8 D.ts u k) _;rcases VP D.ts σ.t u T k with e | ⟨m,z,L,O⟩
   ·rw[e];trivial
   ·rw[O];exact Tm.oy L (C.tmp k)
 ·cases h
def acU{n:Nat}{o:ah Nat}(h:VK n o=true):o=some n:=by
 cases o with
 |none=>cases h
 |some m=>rw[Nat.eq_of_beq_eq_true h]
def acV{rs:Rn}{r n:Nat}(h:rs.lookup r=some n):(r,n)∈rs:=by
 induction rs with
 |nil=>cases h
 |cons p rs C =>grind
def acW{rs:Rn}{r n:Nat}(h:rs.inv n=some r):(r,n)∈rs:=by
 unfold Rn.inv at h;cases C:rs.find? _ with
 |none=>rw[C]at h;cases h
 | some p=>
  rw[C]at h;injection h with h;subst h;have D:=List.find?_some C;have E:=List.mem_of_find?_eq_some C;rw[<- Nat.eq_of_beq_eq_true D];exact E
def Rn.dX(rs:Rn)(ρ:Nat->Loc):Nat->Loc:=λn=>match rs.inv n with
 |some r=>ρ r
 |none=>ρ n
def Rn.Nx{rs:Rn}(h:rs.ok=true){r n:Nat}(C:(r,n)∈rs):(r=n \/ 60000 <= n)/\rs.lookup r=some n/\rs.inv n=some r:=by
 have:=List.all_eq_true.1 h _ C;rw[Bool.and_eq_true,Bool.and_eq_true,Bool.or_eq_true]at this;refine⟨?_,acU this.1.2,acU this.2⟩;simp_all
def dm.dA{rs:Rn}(C:rs.ok=true){x:Lf}{u:Value}(h:dm w B aj ρ x u):dm w B (dI aj rs id) (rs.dX ρ) (x.dA rs) u:=by
 unfold Lf.dA;split
 ·exact⟨h.1,h.2.L9 h.1 λb=>xX⟩
 ·rename_i r;split
  next n D=>have hi:=(Rn.Nx C (acV D)).2.2;refine⟨h.1,?_⟩;have E:=h.2;simp[cH]at E ⊢;unfold Rn.dX;simp_all
  ·trivial
 ·trivial
def Rl.dA{rs:Rn}(O:rs.ok=true)(h:Rl w0 N aj ρ σ a w):Rl w0 N (dI aj rs id) (rs.dX ρ) (σ.dA rs) a w:=by
 have hl:∀ b r n,aj b=some [r] -> rs.lookup r=some n -> dI aj rs id b=some [n]:=by
  intro b r n E L;simp[dI,E,L]
 refine⟨h.below,λb k D=>?_,λn x C=>?_,λk=>?_,h.size,h.defers,λr l U=>?_,h.cT⟩
 ·unfold dI at D;split at D
  ·cases D
  ·rename_i k0 MQ;split at D
   ·cases D
   ·rename_i r U;cases hn:rs.lookup r with
    |none=>grind
    | some n=>
     rw[hn]at D;injection D with D;subst D;obtain⟨E,L,_⟩:=h.cL b k0 MQ;simp_all
 ·have C:(match rs.inv n with | some r=>(σ.m r).map (aU.dA rs) | none=>none)=some x:=C;cases hi:rs.inv n with
  |none=>grind
  | some r=>
   rw[hi]at C;have C:(σ.m r).map (aU.dA rs)=some x:=C;have rJ:=(Rn.Nx O (acW hi)).2.1;have bW:rs.dX ρ n=ρ r:=by unfold Rn.dX;rw[hi]
   cases hm:σ.m r with
   |none=>grind
   | some y=>
    rw[hm]at C;injection C with C;subst C;cases h.root r y hm with
    | az b off cells e cs us E L hh hs hc=>
     refine .az b off cells e _ us (bW.trans E) (hl b r n L rJ) hh (by rw[List.length_map];exact hs) λj x C=>?_
     rw[List.getElem?_map]at C;cases T:cs[j]? with
     |none=>grind
     | some z=>
      rw[T]at C;injection C with C;subst C;exact⟨(hc j z T).1,(hc j z T).2.dA O⟩
    | sl v y E L=>
     exact .sl v y (bW.trans E) (RV.dI (p:=[]) (nm:=id) L rJ)
    |mp b c es l E L hh he=>exact .mp b c es l (bW.trans E) (hl b r n L rJ) hh he
    |gh us xs E C=>exact .gh us _ (bW.trans E) λj x hj=>by simp at hj
 ·show RA _ _ _ _ ((σ.t k).dA rs) _;have D:=h.tmp k;generalize σ.t k=x at D;unfold A.dA;split
  ·exact D.dA O
  ·rename_i r j;split
   next n hn=>have hi:=(Rn.Nx O (acV hn)).2.2;obtain⟨b,off,E,L⟩:=D;exact⟨b,off,by unfold Rn.dX;rw[hi];exact E,L⟩
   ·trivial
  ·obtain⟨b,off,Y,Z,g3,g4⟩:=D
   refine⟨b,off,Y,Z,xX g3,λj x C=>?_⟩
   obtain⟨f1,v,f2,f3⟩:=g4 j x C;exact⟨f1,v,f2,f3.L9 f1 λb=>xX⟩
  ·obtain⟨pv,e0,b,off,Y,Z,g3,g4⟩:=D
   refine⟨pv,e0,b,off,Y,Z,xX g3,λj x C=>?_⟩
   obtain⟨f1,v,f2,f3⟩:=g4 j x C;exact⟨f1,v,f2,f3.L9 f1 λb=>xX⟩
  ·obtain⟨us,Y,Z,g3⟩:=D
   refine⟨us,Y,by rw[List.length_map];exact Z,λj x C=>?_⟩
   rw[List.getElem?_map]at C;rename_i cs;cases T:cs[j]? with
   |none=>grind
   | some z=>
    rw[T]at C;injection C with C;subst C;obtain⟨v,f1,f2⟩:=g3 j z T;exact⟨v,f1,f2.dA O⟩
  ·trivial
 ·show rs.dX ρ r=l;unfold Rn.dX;split
  ·rename_i r0 hi;rcases(Rn.Nx O (acW hi)).1 with e | e
   ·rw[e];exact h.fix r l U
   ·rw[h.cT r (.inr e)]at U;cases U
  ·exact h.fix r l U
def apZ{rs:aa (Nat×Rm)}{p:Nat×Tm}(C:R w0 N σ a w):R w0 N (VM rs p σ) a w:=by
 unfold VM;split
 ·rename_i n hp T;split
  ·rename_i t o hl;cases U:Nat.ble 60000 n with
   |false=>exact C
   | true=>
    have Y:=Nat.le_of_ble_eq_true U;obtain⟨aj,ρ,C⟩:=C;have E:=C.tmp p.1;rw[T]at E;have Z:a.tmps.getD p.1 undef = .slice none 0 0:=by
     have L:=E.2;generalize a.tmps.getD p.1 undef=u at L;cases L;rfl
    have D:=C.new (d:=n) (x:=.sl (.sl t o false [])) (.dw (.slice none 0 0)) (.sl _ _ (bR _ _ _) (.dH _ _ _)) (C.cT n (.inr Y))
    refine⟨aj,_,D.below,D.cL,D.root,λk=>?_,D.size,D.defers,D.fix,D.cT⟩
    show RA _ _ _ _ (bO ((σ.drop n).root n (.sl (.sl t o false []))).t p.1 (.lf (.own [n])) k) _;by_cases O:k=p.1
    ·subst O;rw[bR,Z];exact⟨rfl,by simp[cH,bR]⟩
    ·rw[cw _ _ _ O];exact D.tmp k
  ·exact C
 ·exact C
def ap0{n j r:Nat}{y:V}(C:Rl w0 N aj ρ σ a w)(Y:ρ n = .dw (.slice none 0 0)):Rl w0 N aj ρ (VN n j r σ) a w:=by
 unfold VN;split
 ·rename_i cs Z;split
  ·rename_i T
   refine⟨C.below,C.cL,λL x D=>?_,C.tmp,C.size,C.defers,C.fix,C.cT⟩
   have D:bO σ.m r (some (.az (cs.set j (.own [n])))) L=some x:=D;by_cases U:L=r
   ·subst U;rw[bR]at D;injection D with D;subst D;cases C.root L _ Z with
    | az b off cells e cs us h1 O hh hs hc=>
     refine .az b off cells e _ us h1 O hh (by rw[List.length_set];exact hs) λi z E=>?_
     rw[List.getElem?_set]at E;by_cases hi:j=i
     ·subst hi;have cU:j<cs.length:=(List.getElem?_eq_some_iff.1 T).1;rw[if_pos rfl,if_pos cU]at E;injection E with E;subst E;obtain⟨k1,k2⟩:=hc j _ T;refine⟨k1,?_⟩;have hu:us j = .slice none 0 0:=by
       have O:=k2.2;generalize us j=u at O;cases O;rfl
      rw[hu];exact⟨rfl,by simp only[cH,Y]⟩
     ·grind
   ·rw[cw _ _ _ U]at D;exact C.root L x D
  ·exact C
 ·exact C
def ap1{rs:aa (Nat×Rm)}{n j r:Nat}(C:R w0 N σ a w):R w0 N (VO rs n j r σ) a w:=by
 unfold VO;split
 ·rename_i t o L;cases D:Nat.ble 60000 n with
  |false=>exact C
  | true=>
   have E:=Nat.le_of_ble_eq_true D;obtain⟨aj,ρ,C⟩:=C;exact⟨aj,_,ap0 (y:=.nil) (C.new _ (.sl _ _ (bR _ _ _) (.dH _ _ _)) (C.cT n (.inr E))) (bR _ _ _)⟩
 ·exact C
def VR{rs:aa (Nat×Rm)}{r:Nat}:∀ (C:aa Lm) (cs:aa Lf) (j:Nat) (σ:S),R w0 N σ a w -> R w0 N (AZ rs r j C cs σ) a w
 |[],cs,j,σ,h=>by unfold AZ;exact h
 | m :: C,[],j,σ,h=>by
  unfold AZ;simp_all
 | m :: C,c :: cs,j,σ,h=>by
  unfold AZ;split
  next D E=>cases D;cases E;exact VR C cs _ _ (ap1 h)
  next D E=>cases D;cases E;exact VR C cs _ _ h
  ·exact h
def He{rs:aa (Nat×Rm)}:∀ (ps:aa (Nat×Rm)) (σ:S),R w0 N σ a w -> R w0 N (Nw rs ps σ) a w
 |[],σ,h=>h
 |(r,.sl t o)::ps,σ,h=>He ps σ h
 |(r,.st t)::ps,σ,h=>He ps σ h
 |(r,.mp)::ps,σ,h=>He ps σ h
 | (r,.az C) :: ps,σ,h=>by
  refine He ps _ ?_;split
  ·exact VR C _ 0 σ h
  ·exact h
def acX{rs:aa (Nat×Rm)}:∀ (ps:aa (Nat×Tm)) (σ:S),R w0 N σ a w->R w0 N (Nv rs ps σ) a w
 |[],σ,h=>h
 |p::ps,σ,h=>acX ps _ (apZ h)
def ic.oy{C:ic}{x:C.St}(h:C.rd σ=some x)(D:R w0 N σ a w):R w0 N (C.mk' x) a w:=by
 unfold ic.rd at h;split at h
 next y L=>injection h with h;subst h;exact ic.acT L D
 ·have D:=acX (rs:=C.rs) C.ts σ D;revert h D;generalize Nv C.rs C.ts σ=O;intro h D;unfold ic.rd1 at h;cases E:(C.rn O).ok with
  |false=>simp_all
  | true=>
   rw[E,cond_true]at h;obtain⟨aj,ρ,D⟩:=D;exact ic.acT h (He C.rs _ ⟨_,_,D.dA E⟩)
end
def wg:aa V->aa Nat->aa Lf
 |[],_=>[]
 | x :: xs,ns=>bif x.plain then .v x :: wg xs ns else (match ns with
  |n::ns=>.own [n]::wg xs ns
  |[]=>.dead::wg xs [])
def A0:aa V->aa Nat->(Nat->ah aU)->Nat->ah aU
 |[],_,m,k=>m k
 | x :: xs,ns,m,k=>bif x.plain then A0 xs ns m k else (match ns with
  |n::ns=>bif Nat.beq k n then some (.sl x)else A0 xs ns m k
  |[]=>A0 xs [] m k)
def jl(m:Nat->ah aU):aa Lf->aa Nat->ah (aa V)
 |[],[]=>some []
 | .v x :: cs,ns=>bif x.plain then (match jl m cs ns with
  |some C=>some (x::C)
  |none=>none)else none
 | .own [r] :: cs,n :: ns=>bif Nat.beq r n then (match m n with
  | some (.sl y)=>bif y.plain then none else (match jl m cs ns with
   |some C=>some (y::C)
   |none=>none)
  |_=>none)else none
 |_,_=>none
abbrev Gp:=Nat×TC×Nat×aa Nat
def Hf:aa Gp->Type->Type
 |[],X=>X
 |g::gs,X=>T g.2.1×Hf gs X
def Ny:(gs:aa Gp)->(rs:aa (Nat×Rm))->Hf gs (v9 rs)->Nat->ah aU
 |[],rs,x,k=>we rs x k
 |(n,t,o,ns)::gs,rs,x,k=>bif Nat.beq k n then some (.az (wg (enc t o x.1) ns))else A0 (enc t o x.1) ns (Ny gs rs x.2) k
def Nz:(gs:aa Gp)->(rs:aa (Nat×Rm))->(Nat->ah aU)->ah (Hf gs (v9 rs))
 |[],rs,m=>Dy rs m
 | (n,t,o,ns) :: gs,rs,m=>match m n with
  | some (.az cs)=>(match jl m cs ns with
   | some C=>(match dec t o C,Nz gs rs m with
    |some x,some y=>some (x,y)
    |_,_=>none)
   |none=>none)
  |_=>none
def Dz:aa V->aa Nat->aa Lm
 |[],_=>[]
 |.int k _::xs,ns=>.int k::Dz xs ns
 |.bool _::xs,ns=>.bool::Dz xs ns
 |.str _::xs,ns=>.str::Dz xs ns
 |_::xs,n::ns=>.own n::Dz xs ns
 |_::xs,[]=>.bool::Dz xs []
def VS:aa V->aa Nat->aa (Nat×Rm)
 |.sl t o _ _::xs,n::ns=>(n,.sl t o)::VS xs ns
 |_::xs,ns=>VS xs ns
 |[],_=>[]
def VT:aa Gp->aa (Nat×Rm)->aa (Nat×Rm)
 |[],rs=>rs
 |(n,t,o,ns)::gs,rs=>(n,.az (Dz (shp t o) ns))::(VS (shp t o) ns++VT gs rs)
structure bE where
 ts:List (Nat×Tm)
 rs:List (Nat×Rm)
 gs:List Gp
def bE.St(C:bE):Type:=Dx C.ts×Hf C.gs (v9 C.rs)
def bE.mk'(C:bE)(x:C.St):S:=⟨v8 C.ts x.1,Ny C.gs C.rs x.2⟩
def bE.NA(C:bE)(σ:S):ah C.St:=match G9 C.ts σ.t,Nz C.gs C.rs σ.m with
 |some x,some y=>some (x,y)
 |_,_=>none
def bE.rd(C:bE)(σ:S):ah C.St:=match C.NA σ with
 |some x=>some x
 | none=>match ic.rd ⟨C.ts,VT C.gs C.rs⟩ σ with
  |some z=>C.NA (ic.mk' ⟨C.ts,VT C.gs C.rs⟩ z)
  |none=>none
section
variable {P:Program} {w w':World} {w0:Wd} {B N:Nat} {aj ax:bw} {ρ ρ':Nat->Loc} {σ:S} {a:Act} {m:Nat->ah aU}
def jz.inv{x:V}{xs ys:aa V}(k:jz (x :: xs) ys):∃ y C,ys=y :: C/\Wk x y/\jz xs C:=by
 obtain⟨D,E⟩:=k;cases ys with
 |nil=>simp at D
 |cons y C=>exact⟨y,C,rfl,E 0 x y rfl rfl,by simpa using D,λj a b L O=>E (j+1) a b (by simpa using L) (by simpa using O)⟩
def Wk.acY{x y:V}(h:Wk x y)(C:x.plain=true):y=x:=by
 cases h<;>first|rfl|cases C
def Wk.acZ{x y:V}(h:Wk x y)(C:x.plain=false):y.plain=false:=by
 cases h<;>first|exact C|rfl
def VU:∀ (cs:aa Lf) (ns:aa Nat) (C ys:aa V),jl m cs ns=some C -> jz C ys -> (wg ys ns).length=cs.length /\ ∀ (j:Nat) z,(wg ys ns)[j]?=some z -> cs[j]?=some z
 | [],[],C,ys,h,E=>by
  simp only[jl,Option.some.injEq]at h;subst h;have:ys=[]:=List.eq_nil_of_length_eq_zero E.1.symm;subst this;exact⟨rfl,λj z L=>by simp[wg]at L⟩
 | .v x :: cs,ns,C,ys,h,E=>by
  unfold jl at h;cases D:x.plain with
  |false=>simp_all
  | true=>
   rw[D,cond_true]at h;split at h
   ·rename_i us O;injection h with h;subst h;obtain⟨y,T,rfl,U,Y⟩:=E.inv;obtain rfl:=U.acY D;obtain⟨Z,e2⟩:=VU cs ns us T O Y;simp only[wg,D,cond_true]
    refine⟨by simp[Z],λj z L=>?_⟩
    cases j with
    |zero=>simp_all
    |succ j=>simp_all
   ·cases h
 | .own [r] :: cs,n :: ns,C,ys,h,E=>by
  unfold jl at h;cases hb:Nat.beq r n with
  |false=>simp_all
  | true=>
   rw[hb,cond_true]at h;obtain rfl:=Nat.eq_of_beq_eq_true hb;split at h
   ·rename_i y hy;cases D:y.plain with
    |true=>simp_all
    | false=>
     rw[D,cond_false]at h;split at h
     ·rename_i us O;injection h with h;subst h;obtain⟨y',T,rfl,U,Y⟩:=E.inv;have hq:=U.acZ D;obtain⟨Z,e2⟩:=VU cs ns us T O Y;simp only[wg,hq,cond_false]
      refine⟨by simp[Z],λj z L=>?_⟩
      cases j with
      |zero=>simp_all
      |succ j=>simp_all
     ·cases h
   ·cases h
 |[],_::_,C,ys,h,_=>by simp[jl]at h
 |.dead::_,_,C,ys,h,_=>by simp[jl]at h
 |.own []::_,_,C,ys,h,_=>by simp[jl]at h
 |.own (_::_::_)::_,_,C,ys,h,_=>by simp[jl]at h
 |.own [_]::_,[],C,ys,h,_=>by simp[jl]at h
def VV{f:Nat -> ah aU}{k:Nat}{x:aU}:∀ (cs:aa Lf) (ns:aa Nat) (D ys:aa V),jl m cs ns=some D -> jz D ys -> A0 ys ns f k=some x -> f k=some x \/ ∃ v y,m k=some (.sl v)/\x = .sl y/\Wk v y
 | [],[],D,ys,h,L,C=>by
  simp only[jl,Option.some.injEq]at h;subst h;have:ys=[]:=List.eq_nil_of_length_eq_zero L.1.symm;subst this;exact .inl C
 | .v x' :: cs,ns,D,ys,h,L,C=>by
  unfold jl at h;cases E:x'.plain with
  |false=>simp_all
  | true=>
   rw[E,cond_true]at h;split at h
   next us O=>injection h with h;subst h;obtain⟨y,T,rfl,U,Y⟩:=L.inv;obtain rfl:=U.acY E;simp[A0,E]at C;exact VV cs ns us T O Y C
   ·cases h
 | .own [r] :: cs,n :: ns,D,ys,h,L,C=>by
  unfold jl at h;cases hb:Nat.beq r n with
  |false=>simp_all
  | true=>
   rw[hb,cond_true]at h;obtain rfl:=Nat.eq_of_beq_eq_true hb;split at h
   ·rename_i y hy;cases E:y.plain with
    |true=>simp_all
    | false=>
     rw[E,cond_false]at h;split at h
     ·rename_i us O;injection h with h;subst h;obtain⟨y',T,rfl,U,Y⟩:=L.inv;have hq:=U.acZ E;simp only[A0,hq,cond_false]at C;cases Z:Nat.beq k r with
      | true=>
       rw[Z]at C;injection C with C;obtain rfl:=Nat.eq_of_beq_eq_true Z
       grind
      | false=>
       rw[Z]at C;exact VV cs ns us T O Y C
     ·cases h
   ·cases h
 |[],_::_,D,ys,h,_,_=>by simp[jl]at h
 |.dead::_,_,D,ys,h,_,_=>by simp[jl]at h
 |.own []::_,_,D,ys,h,_,_=>by simp[jl]at h
 |.own (_::_::_)::_,_,D,ys,h,_,_=>by simp[jl]at h
 |.own [_]::_,[],D,ys,h,_,_=>by simp[jl]at h
def ac0:∀ (gs:aa Gp) (rs:aa (Nat×Rm)) (y:Hf gs (v9 rs)),Nz gs rs m=some y -> ∀ k x,Ny gs rs y k=some x -> ∃ O,m k=some O /\ ∀ (w:World) (B:Nat) (aj:bw) (ρ:Nat -> Loc),dx w B aj ρ k O -> dx w B aj ρ k x
 | [],rs,y,h,k,x,C=>by
  have h:Dy rs m=some y:=h;have C:we rs y k=some x:=C;rcases VQ rs m y h k with e|⟨m',O,z,E,L,e3⟩
  ·simp_all
  ·rw[e3]at C;injection C with C;subst C;exact⟨O,E,λw B aj ρ D=>Rm.oy L D⟩
 | (n,t,o,ns) :: gs,rs,y,h,k,x,C=>by
  unfold Nz at h;split at h
  ·rename_i cs hm;split at h
   ·rename_i T Z;split at h
    ·rename_i x1 y1 h1 h2;injection h with h;subst h;have hw:=ko t o T x1 h1;simp only[Ny]at C;cases U:Nat.beq k n with
     | true=>
      rw[U,cond_true]at C;injection C with C;subst C;obtain rfl:=Nat.eq_of_beq_eq_true U;obtain⟨E,L⟩:=VU cs ns T _ Z hw
      refine⟨_,hm,λw B aj ρ D=>?_⟩
      cases D with
      |az b off cells e _ us Y hl hh hs hc=>exact .az b off cells e _ us Y hl hh (by rw[E];exact hs) λj z hz=>hc j z (L j z hz)
     | false=>
      rw[U,cond_false]at C;rcases VV cs ns T _ Z hw C with e|⟨v,y',E,rfl,L⟩
      ·exact ac0 gs rs y1 h2 k x e
      ·refine⟨_,E,λw B aj ρ D=>?_⟩
       cases D with
       |sl u _ Y D=>exact .sl u _ Y (D.wk L)
    ·cases h
   ·cases h
  ·cases h
def bE.ac1{D:bE}{x:D.St}(h:D.NA σ=some x)(C:R w0 N σ a w):R w0 N (D.mk' x) a w:=by
 unfold bE.NA at h;split at h
 ·rename_i u v O T;injection h with h;subst h;obtain⟨aj,ρ,C⟩:=C
  refine⟨aj,ρ,C.below,C.cL,λn y U=>?_,λk=>?_,C.size,C.defers,C.fix,C.cT⟩
  ·obtain⟨Y,E,L⟩:=ac0 D.gs D.rs v T n y U;exact L _ _ _ _ (C.root n Y E)
  ·show RA _ _ _ _ (v8 D.ts u k) _;rcases VP D.ts σ.t u O k with e | ⟨m,z,E,L⟩
   ·rw[e];trivial
   ·rw[L];exact Tm.oy E (C.tmp k)
 ·cases h
def bE.oy{C:bE}{x:C.St}(h:C.rd σ=some x)(D:R w0 N σ a w):R w0 N (C.mk' x) a w:=by
 unfold bE.rd at h;split at h
 next y E=>injection h with h;subst h;exact bE.ac1 E D
 ·split at h
  next z L=>exact bE.ac1 h (ic.oy L D)
  ·cases h
end
def A1:Exit->ah Nat
 |.normal=>some 0
 |.ret=>some 1
 |.exit n=>some (n+2)
 |_=>none
def VW:Nat->Exit
 |0=>.normal
 |1=>.ret
 |n+2=>.exit n
def ue{e:Exit}{n:Nat}(h:A1 e=some n):e=VW n:=by
 cases e<;>simp[A1]at h<;>subst h<;>rfl
def rX:aa (Nat×bE)->Type
 |[]=>Empty
 |(_,C)::r=>C.St⊕rX r
def NB:(l:aa (Nat×bE))->Nat->S->ah (rX l)
 |[],_,_=>none
 | (n,C) :: r,e,σ=>bif Nat.beq n e then (match C.rd σ with
  |some x=>some (.inl x)
  |none=>none)else (match NB r e σ with
  |some x=>some (.inr x)
  |none=>none)
def VX{X:Type}:(l:aa (Nat×bE))->rX l->(Exit->S->ah X)->ah X
 |[],z,_=>nomatch z
 | (n,C) :: r,z,k=>match z with
  |.inl x=>k (VW n) (C.mk' x)
  |.inr z=>VX r z k
def iter{α β:Type}(step:α->ah (α⊕β)):Nat->α->ah β
 |0,_=>none
 | n+1,x=>match step x with
  |some (.inl y)=>iter step n y
  |some (.inr z)=>some z
  |none=>none
def DA(P:Program)(N:Nat)(Φ:dJ)(Λ:lI)(body:Code)(C:bE)(D:aa (Nat×bE))(x:C.St):ah (C.St⊕rX D):=
 jU P N Φ Λ body (C.mk' x) λe σ=>match A1 e with
  | some 0=>(match C.rd σ with
   |some x=>some (.inl x)
   |none=>none)
  | some n=>(match NB D n σ with
   |some x=>some (.inr x)
   |none=>none)
  |none=>none
def VY{X:Type}(id:Nat)(k:Exit->S->ah X)(e:Exit)(σ:S):ah X:=
 match e with
 |.exit C=>if C=id then k .normal σ else k (.exit C) σ
 |e=>k e σ
def NC(id:Nat)(C:bE)(D:aa (Nat×bE))(F:C.St->ah (C.St⊕rX D))(fuel:C.St->Nat):qH:=
 ⟨λX σ k=>match C.rd σ with
  | some x=>(match iter F (fuel x) x with
   |some z=>VX D z (VY id k)
   |none=>none)
  |none=>none⟩
def jm:aa (Bool×TC)->Type
 |[]=>af
 |(_,t)::r=>T t×jm r
def fq:(l:aa (Bool×TC))->jm l->aa Pt
 |[],_=>[]
 |(b,t)::r,x=>(b,enc t 0 x.1)::fq r x.2
def wh:(l:aa (Bool×TC))->aa Pt->ah (jm l)
 |[],[]=>some ()
 | (b,t) :: r,(C,D) :: ps=>bif b==C then (match dec t 0 D,wh r ps with
  |some x,some xs=>some (x,xs)
  |_,_=>none)else none
 |_,_=>none
def fV(ai:aa (Bool×TC))(ro:aa (Bool×TC×Nat))(F:jm ai->ah (gB ro)):gI:=
 ⟨λX args k=>match wh ai args with
  | some x=>(match F x with
   |some y=>k (eA ro y)
   |none=>none)
  |none=>none⟩
def VZ:Pt->A
 |(false,[x])=>.lf (.v x)
 |(true,xs)=>.agg (xs.map .v)
 |(false,.bool true::c::cs)=>.gS (c::cs)
 |(false,.bool false::.int .i64 (.ofNat g)::c::cs)=>.ld g (c::cs)
 |_=>.undef
def ac2(args:aa Pt):S:=⟨λk=>match args[k]? with
 |some p=>VZ p
 |none=>.undef,λ_=>none⟩
def oz{X:Type}(P:Program)(N:Nat)(Φ:dJ)(Λ:lI)(code:Code)(C:Array ResultVar)(args:aa Pt)(k:eY->ah X):ah X:=
 jU P N Φ Λ code (ac2 args) λe σ=>match A1 e with
  |some 0=>Gc P σ C k
  |some 1=>Gc P σ C k
  |_=>none
section
variable {P:Program} {w w':World} {w0:Wd} {B N:Nat} {aj ax:bw} {ρ ρ':Nat->Loc} {σ:S} {a:Act} {X:Type} {d:Nat} {r:X} {o:Oper} {Φ:dJ} {Λ:lI}
def ac3:∀ (l:aa (Nat×bE)) (e:Nat) (z:rX l),NB l e σ=some z->∀ (X:Type) (k:Exit->S->ah X),∃ E,VX l z k=k (VW e) E/\∀ a w,R w0 N σ a w->R w0 N E a w
 |[],e,z,h=>by cases h
 | (n,L) :: l,e,z,h=>by
  intro X k;unfold NB at h;cases C:Nat.beq n e with
  | true=>
   obtain rfl:=Nat.eq_of_beq_eq_true C;rw[C,cond_true]at h;split at h
   next x D=>injection h with h;subst h;exact⟨L.mk' x,rfl,λa w O=>bE.oy D O⟩
   ·cases h
  | false=>
   rw[C,cond_false]at h;split at h
   next x D=>injection h with h;subst h;exact ac3 l e x D X k
   ·cases h
def ap2{id:Nat}{body:Code}{E:bE}{U:aa (Nat×bE)}{F:E.St -> ah (E.St⊕rX U)}{fuel:E.St -> Nat}(dB:eR P Φ)(oA:ow P N Λ (occs body))(hF:∀ x,DA P N Φ Λ body E U x=F x):AQ P N (.block id (.loop body)) (NC id E U F fuel):=by
 intro X σ k r w0 h a w hR;simp only[NC]at h;split at h
 ·rename_i x L;split at h
  ·rename_i z hz;refine wp_block ?_;have key:∀ (n:Nat) (x:E.St),iter F n x=some z -> ∀ (a:Act) (w:World),R w0 N (E.mk' x) a w -> ∀ (b:Frame) (O:aa Item) (cs:aa Frame),
     ∃e T w',Exit.inBlock id (λe T w'=>∃cy,k e cy=some r/\R w0 N cy T w') e T w'/\Arrives P (lone (b.at a (.code body::.inLoop body::O)) cs w) b O cs e T w':=by
    intro n
    induction n with
    |zero=>intro x L;simp[iter]at L
    | succ n ih=>
     intro x L a w hR b O cs;simp only[iter]at L;have iO:∃ y,DA P N Φ Λ body E U x=some y/\(match y with | .inl y=>iter F n y=some z | .inr z'=>z'=z):=by
      rw[hF];split at L
      ·grind
      ·grind
      ·cases L
     obtain⟨y,hy,Y⟩:=iO;unfold DA at hy;have hwp:=G7 (w0:=w0) dB body _ _ hy oA a w hR;obtain⟨e,a1,w1,⟨ot,D,tX⟩,Z⟩:=hwp b (.inLoop body::O) cs;split at D
     ·rename_i C;have C:=ue C;subst C;split at D
      next x1 hx1=>injection D with D;subst D;obtain⟨e2,a2,w2,Al,ap3⟩:=ih x1 Y a1 w1 (bE.oy hx1 tX) b O cs;exact⟨e2,a2,w2,Al,.of_steps (Steps.trans Z (.one step_inLoop)) ap3⟩
      ·cases D
     ·rename_i n' cJ C;have C:=ue C;split at D
      ·rename_i z1 Hg;injection D with D;subst D;have Y:z1=z:=Y;subst Y;obtain⟨σ2,n7,nG⟩:=ac3 (w0:=w0) (N:=N) U n' z1 Hg X (VY id k);rw[n7]at h;rw[<- C]at h;refine⟨e,a1,w1,?_,?_⟩
       ·cases e with
        | exit id'=>
         simp only[VY]at h;simp only[Exit.inBlock];split at h
         ·grind
         ·grind
        |_=>exact⟨σ2,h,nG a1 w1 tX⟩
       ·refine .pass (x:=.inLoop body) rfl (λ_ _=>.inl ?_) Z
        intro e';rw[e']at C
        match n',cJ,C with
        |0,cJ,_=>exact cJ rfl
        |1,_,C=>cases C
        |n+2,_,C=>cases C
      ·cases D
     ·cases D
   intro b O cs;obtain⟨e,T,w',hq,Z⟩:=key (fuel x) x hz a w (bE.oy L hR) b O cs;exact⟨e,T,w',hq,.of_steps (.one step_loop) Z⟩
  ·cases h
 ·cases h
def PV.rP{key:Nat->aa Nat}{b:Bool}{xs ys:aa V}{u:Value}(h:PV w B aj key (b,xs) u)(k:jz xs ys):PV w B aj key (b,ys) u:=by
 obtain⟨us,E,L,O⟩:=h
 refine⟨us,E,L.trans k.1,λj y C=>?_⟩
 have D:j<xs.length:=by rw[k.1];exact(List.getElem?_eq_some_iff.1 C).1
 obtain⟨v,T,U⟩:=O j _ (List.getElem?_eq_getElem D);exact⟨v,T,U.wk (k.2 j _ y (List.getElem?_eq_getElem D) C)⟩
def xU.rP{cs C:aa V}{u:Value}(h:xU w cs u)(k:jz cs C):xU w C u:=by
 obtain⟨b,off,L,O,T⟩:=h
 refine⟨b,off,L,O,λj y D=>?_⟩
 have E:j<cs.length:=by rw[k.1];exact(List.getElem?_eq_some_iff.1 D).1
 obtain⟨v,U,Y⟩:=T j _ (List.getElem?_eq_getElem E);exact⟨v,U,Y.wk (k.2 j _ y (List.getElem?_eq_getElem E) D)⟩
def PA.rP{b:Bool}{xs ys:aa V}{u:Value}(h:PA w (b,xs) u)(k:jz xs ys):PA w (b,ys) u:=by
 cases h with
 |v _ _ h=>exact .v _ _ (h.rP k)
 | p c cs _ h=>
  obtain⟨y,E,rfl,C,D⟩:=k.inv;cases C;have h:=h.rP D;obtain⟨O,dK,rfl,_,_⟩:=D.inv;exact .p _ _ _ h
 | f g c cs u h=>
  obtain⟨y,E,rfl,C,D⟩:=k.inv;cases C;obtain⟨y,E,rfl,C,L⟩:=D.inv;cases C;have h:=h.rP L;obtain⟨O,dK,rfl,_,_⟩:=L.inv;exact .f _ _ _ _ h
def PA.ra{p:Pt}{u:Value}(h:PA w p u)(D:∀ y∈p.2,y.aC=true):RA w w.heap.size (λ_=>none) ρ (VZ p) u:=by
 have U:∀ {cs:aa V} {u:Value},xU w cs u -> (∀ y∈cs,y.aC=true) -> RF w w.heap.size (λ_=>none) cs u:=by
  rintro cs u ⟨b,off,rfl,hb,E⟩ D
  refine⟨b,off,rfl,hb,rfl,λj x Y=>⟨D x (List.mem_of_getElem? Y),E j x Y⟩⟩
 cases h with
 | v _ _ h=>
  obtain⟨us,Z,hs,E⟩:=h;obtain⟨b,xs⟩:=p;cases b with
  | true=>
   refine⟨us,Z,by rw[List.length_map];exact hs,λi y C=>?_⟩
   rw[List.getElem?_map]at C;cases L:xs[i]? with
   |none=>simp_all
   | some z=>
    rw[L]at C;injection C with C;subst C;obtain⟨v,O,T⟩:=E i z L;exact⟨v,O,D z (List.mem_of_getElem? L),T⟩
  | false=>
   subst Z;have h1:=hs.symm;obtain⟨x,rfl⟩:=List.length_eq_one_iff.1 h1;obtain⟨v,O,T⟩:=E 0 x rfl;have:u=v:=by simpa using O
   subst this;exact⟨D x (by simp),T⟩
 |p c cs _ h=>exact U h λy C=>D y (.tail _ C)
 |f g c cs u h=>exact⟨u,rfl,U h λy C=>D y (.tail _ (.tail _ C))⟩
def V0:∀ (l:aa (Bool×TC)) (ps:aa Pt) (x:jm l),wh l ps=some x -> (fq l x).length=ps.length /\ ∀ (i:Nat) p,(fq l x)[i]?=some p -> ∃ q,ps[i]?=some q/\q.1=p.1/\jz q.2 p.2
 |[],[],x,h=>⟨rfl,λi p C=>by simp[fq]at C⟩
 | (b,t) :: r,(E,L) :: ps,x,h=>by
  unfold wh at h;cases D:b==E with
  |false=>simp_all
  | true=>
   rw[D,cond_true]at h;have D:b=E:=by simpa using D
   subst D;split at h
   ·rename_i y ys O T;injection h with h;subst h;obtain⟨U,Y⟩:=V0 r ps ys T
    refine⟨by simp[fq,U],λi p C=>?_⟩
    cases i with
    |zero=>simp[fq]at C;subst C;exact⟨(b,L),rfl,rfl,ko t 0 L y O⟩
    |succ i=>exact Y i p (by simpa [fq]using C)
   ·cases h
 |[],_::_,x,h=>by simp[wh]at h
 |_::_,[],x,h=>by simp[wh]at h
def jV(l:aa (Bool×TC×Nat)):Bool:=l.all λp=>Nat.ble (full p.2.1) p.2.2
def ac4(t:TC)(g:Nat)(x:T t)(h:full t <= g):(enc t g x).all V.loc=true:=by
 rw[List.all_eq_true];intro y D;have L:=xo t g x y D;have E:=L8 t g x y D;cases y with
 | sl O C q l=>
  have U:C=g:=by simpa [V.gr]using L
  subst U;have E:=Nat.le_of_ble_eq_true E;show xV O C=true
  match C,h with
  |0,h=>omega
  |1,h=>omega
  | n+2,h=>
   simp only[xV,Bool.or_eq_true];left;exact Nat.ble_eq_true_of_le (by omega)
 |_=>rfl
def V1:∀ (l:aa (Bool×TC×Nat)) (ps:aa Pt) (x:gB l),jV l=true -> og l ps=some x -> (rK l x).length=ps.length /\ ∀ (nm:Nat -> Nat) (off:Nat) (D:aa Value),iu w B aj nm off ps D -> iu w B aj nm off (rK l x) D
 |[],[],x,_,h=>⟨rfl,λnm off D E=>E⟩
 | [(b,t,g)],[(L,D)],x,T,h=>by
  unfold og at h;cases C:b==L with
  |false=>rw[C]at h;cases h
  | true=>
   rw[C]at h;have h:dec t g D=some x:=h;have C:b=L:=by simpa using C
   subst C;have Y:full t <= g:=by simpa [jV]using T
   refine⟨rfl,λnm off us E=>?_⟩
   match us,E with
   |[u],⟨⟨_,O⟩,_⟩=>exact⟨⟨ac4 t g x Y,O.rP (ko t g D x h)⟩,trivial⟩
 | (b,t,g) :: q :: r,(L,D) :: ps,x,T,h=>by
  unfold og at h;cases C:b==L with
  |false=>grind
  | true=>
   rw[C,cond_true]at h;have C:b=L:=by simpa using C
   subst C;have U:full t <= g/\jV (q :: r)=true:=by
    simp only[jV,List.all_cons,Bool.and_eq_true]at T ⊢;simp_all
   split at h
   ·rename_i y ys O Z;injection h with h;subst h;obtain⟨k1,k2⟩:=V1 (q :: r) ps ys U.2 Z
    refine⟨by simp[rK,k1],λnm off us E=>?_⟩
    match us,E with
    | u :: us,⟨⟨_,hp⟩,tR⟩=>
     have hlen:=(ko t g D y O).1;refine⟨⟨ac4 t g y U.1,hp.rP (ko t g D y O)⟩,?_⟩;simp_all
   ·cases h
 |[],_::_,x,_,h=>by simp[og]at h
 |[_],[],x,_,h=>by simp[og]at h
 |[_],_::_::_,x,_,h=>by simp[og]at h
 |_::_::_,[],x,_,h=>by simp[og]at h
def ac5{l:aa (Bool×TC×Nat)}{E:eY}{x:gB l}(O:jV l=true)(h:jS l E=some x){nm:Nat -> Nat}{v:Value}(D:oe w B aj nm E v):oe w B aj nm (eA l x) v:=by
 cases E with
 | one p=>
  obtain⟨C,L⟩:=V1 (w:=w) (B:=B) (aj:=aj) l [p] x O h;have D:iu w B aj nm 0 [p] [v]:=D;have:=L nm 0 [v] D;unfold eA
  match hm:rK l x,C,this with
  |[q],_,this=>exact this
  |[],C,_=>cases C
  |_::_::_,C,_=>simp at C
 | dW ps=>
  simp only[jS]at h;cases U:Nat.beq ps.length 1 with
  |true=>simp_all
  | false=>
   rw[U,cond_false]at h;obtain⟨C,L⟩:=V1 (w:=w) (B:=B) (aj:=aj) l ps x O h;obtain⟨T,e,D⟩:=D;have:=L nm 0 _ D;unfold eA
   match hm:rK l x,C,this with
   |[q],C,this=>simp_all
   |[],_,this=>exact⟨T,e,this⟩
   |_::_::_,_,this=>exact⟨T,e,this⟩
def ac6:∀ (l:aa (Bool×TC)) (x:jm l),(fq l x).length=l.length
 |[],x=>rfl
 |(b,t)::l,x=>by simp[fq,ac6 l]
def ac7:∀ (l:aa (Bool×TC)) (x:jm l) (j:Nat) (p:Pt),(fq l x)[j]?=some p->∀ y∈p.2,y.aC=true
 |[],x,j,p,C,_,_=>by simp[fq]at C
 | (b,t) :: l,x,0,p,C,y,D=>by
  simp[fq]at C;subst C;obtain⟨i,hi⟩:=List.mem_iff_getElem?.1 D;exact qi t 0 x.1 (by omega) i y hi
 |(b,t)::l,x,j+1,p,C,y,D=>ac7 l x.2 j p (by simpa [fq]using C) y D
def Hh{f:Nat}{fn:Func}{code:Code}{rY:aa Pt}{ro:aa (Bool×TC×Nat)}{y:gB ro}(hf:P.funcs[f]?=some fn)(L:fn.body=some code)(hN:fn.ntmps=N)(U:rY.length <= N)(dN:jV ro=true)
  (dB:eR P Φ) (oA:ow P N Λ (occs code)) (ap4:∀(j:Nat) p,rY[j]?=some p -> ∀y∈p.2,y.aC=true) (O:oz P N Φ Λ code fn.results rY (jS ro)=some y) (nm:Nat -> Nat) (w:World) (bN:Array Value) (Y:nD w rY bN) (Z:Hd w (λ_=>none)):
  Calls P f bN w λe w'=>∃v ax,e = .returned v/\Below w.heap.size w w'/\(∀b k,ax b=some k -> w.heap.size <= b/\b<w'.heap.size/\k≠[])/\oe w' w.heap.size ax nm (eA ro y) v:=by
 have U:bN.size <= N:=by rw[Y.1];exact U
 refine calls_of_wp hf L ?_;unfold oz at O;have hR:R (.of w Z) N (ac2 rY) { tmps:=bN++Array.replicate (fn.ntmps-bN.size) undef,defers:=[] } w:=by
  refine⟨λ_=>none,λ_=>.az 0 0,.of (Below.refl w.heap.size w) (Nat.le_refl _),(λb k D=>by cases D),(λn y O=>by cases O),λj=>?_,by simp[hN];omega,rfl,(λr l h=>by cases h),(λ_ _=>rfl)⟩
  show RA w w.heap.size _ _ (match rY[j]? with|some p=>VZ p|none=>.undef) _;cases hp:rY[j]? with
  |none=>trivial
  | some p=>
   obtain⟨u,hu,qz⟩:=Y.2 j p hp;have hj:=(Array.getElem?_eq_some_iff.1 hu).1;have e:(bN++Array.replicate (fn.ntmps-bN.size) undef).getD j undef=u:=by rw[Array.getD_eq_getD_getElem?,Array.getElem?_append_left hj,hu];rfl
   rw[e];exact qz.ra (ap4 j p hp)
 refine wp_mono (G7 (w0:=.of w Z) dB code _ _ O oA _ w hR) λe T w' C=>?_
 obtain⟨cy,D,aj,ρ,E⟩:=C;have fin:Gc P cy fn.results (jS ro)=some y -> T.defers=[] /\ ∃ v,(results fn T.tmps).run P w' = .ok v w' /\ ∃ yz ax,Ending.returned v=Ending.returned yz/\Below w.heap.size w w'/\(∀ b k,ax b=some k -> w.heap.size <= b/\b<w'.heap.size/\k≠[])/\oe w' w.heap.size ax nm (eA ro y) yz:=by
  intro lJ;obtain⟨res,jR,cV⟩:=ann lJ;obtain⟨v,ax,h1,h2,h3⟩:=cV aj ρ T w' E nm;exact⟨E.defers,v,h1,v,ax,rfl,⟨E.below.os,E.below.tape,E.below.output,E.below.size,λk D=>E.below.block k D rfl⟩,λb k L=>⟨(h2 b k L).1.resolve_right (λh=>h rfl),(h2 b k L).2⟩,ac5 dN jR h3⟩
 split at D
 next C=>have C:=ue C;subst C;exact fin D
 next C=>have C:=ue C;subst C;exact fin D
 ·cases D
def ap5{ai:aa (Bool×TC)}{args:aa Pt}{x:jm ai}{bN:Array Value}(E:wh ai args=some x)(C:nD w args bN):nD w (fq ai x) bN:=by
 obtain⟨L,O⟩:=V0 ai args x E
 refine⟨C.1.trans L.symm,λj p T=>?_⟩
 obtain⟨q,U,D,Y⟩:=O j p T;obtain⟨u,Z,qz⟩:=C.2 j q U;refine⟨u,Z,?_⟩;obtain⟨b,ys⟩:=p;obtain⟨b',xs⟩:=q;simp only at D;subst D;exact qz.rP Y
def V2{f:Nat}{ai:aa (Bool×TC)}{ro:aa (Bool×TC×Nat)}{F:jm ai->ah (gB ro)}(h:∀ x y,F x=some y->∀ (nm:Nat->Nat) (w:World) (bN:Array Value),nD w (fq ai x) bN->Hd w (λ_=>none)->
  Calls P f bN w λe w'=>∃v ax,e = .returned v/\Below w.heap.size w w'/\(∀b k,ax b=some k->w.heap.size<=b/\b<w'.heap.size/\k≠[])/\oe w' w.heap.size ax nm (eA ro y) v):gu P f (fV ai ro F):=by
 refine⟨λargs X Y k g=>?_,λargs T C nm w bN D E=>?_⟩
 ·unfold fV;dsimp only;split
  ·split<;>rfl
  ·rfl
 ·simp only[fV]at C;split at C
  ·rename_i x L;split at C
   next y O=>injection C with C;subst C;exact h x y O nm w bN (ap5 L D) E
   ·cases C
  ·cases C
def ap6{f:Nat}{fn:Func}{code:Code}{ai:aa (Bool×TC)}{ro:aa (Bool×TC×Nat)}{F:jm ai->ah (gB ro)}(C:P.funcs[f]?=some fn)(D:fn.body=some code)(E:fn.ntmps=N)(L:(fn.name == "runtime.NumGoroutine")=false)(O:Nat.ble ai.length N=true)(T:jV ro=true)
  (U:eR P Φ) (Y:ow P N Λ (occs code)) (Z:∀x,oz P N Φ Λ code fn.results (fq ai x) (jS ro)=F x):enters P f/\gu P f (fV ai ro F):=
 ⟨⟨fn,C,L,by rw[D];rfl⟩,V2 λx y hy nm w bN jQ hQ=>Hh C D E (by rw[ac6];exact Nat.le_of_ble_eq_true O) T U Y (ac7 ai x) ((Z x).trans hy) nm w bN jQ hQ⟩
def ap7{f:Nat}{fn:Func}{code:Code}{t:TC}{g:Nat}{F:aa (T t)->ah (aa (T t))}(E:P.funcs[f]?=some fn)(L:fn.body=some code)(U:fn.ntmps=N)(A3:(fn.name == "runtime.NumGoroutine")=false)(Hi:Nat.ble 1 N=true)(Y:jV [(false,.sl t,g)]=true)
  (Z:eR P Φ) (oA:ow P N Λ (occs code)) (hF:∀x:aa (T t),oz P N Φ Λ code fn.results [(false,[.sl t 0 false x])] (jS [(false,.sl t,g)])=F x)
  (h0:oz P N Φ Λ code fn.results [(false,[.nil])] (jS [(false,.sl t,g)])=some ([]:aa (T t))) (h1:oz P N Φ Λ code fn.results [(false,[.sl t 0 true []])] (jS [(false,.sl t,g)])=some ([]:aa (T t))):
  enters P f/\gu P f (fV [(false,.sl t)] [(false,.sl t,g)] λx=>bif ir x.1 then some ([]:aa (T t))else F x.1):=by
 refine⟨⟨fn,E,A3,by rw[L];rfl⟩,V2 λx y D nm w bN O hQ=>?_⟩
 obtain⟨l,_⟩:=x;have O:nD w [(false,[.sl t 0 false l])] bN:=O;have hle:1<=N:=Nat.le_of_ble_eq_true Hi;have ND:∀ (v:V),v.aC=true->∀ (j:Nat) p,([(false,[v])]:aa Pt)[j]?=some p->∀ y∈p.2,y.aC=true:=by
  intro v hv j p C y D;rcases j with _|j
  ·injection C with C;subst C;rw[List.mem_singleton.1 D];exact hv
  ·cases C
 obtain⟨u,hu,C⟩:=O.2 0 _ rfl;obtain⟨us,e,_,hv⟩:=C.pv;have e:us = #[u]:=e;subst e;obtain⟨v,g1,hr⟩:=hv 0 _ rfl;have g1:u=v:=by simpa using g1
 subst g1;have one:∀ v:V,RV w w.heap.size (λ_=>none) [] v u->nD w [(false,[v])] bN:=λv hr=>⟨O.1,λj p C=>by
  rcases j with _|j
  ·injection C with C;subst C;exact⟨u,hu,.v _ _ ⟨#[u],rfl,rfl,λi x hx=>by
    rcases i with _|i
    ·injection hx with hx;subst hx;exact⟨u,rfl,hr⟩
    ·cases hx⟩⟩
  ·cases C⟩
 cases l with
 |cons a l=>exact Hh (rY:=[(false,[.sl t 0 false (a::l)])]) E L U hle Y Z oA (ND _ rfl) ((hF _).trans D) nm w bN O hQ
 | nil=>
  have D:some ([]:aa (T t))=some y:=D;injection D with D;subst D;cases hr with
  |dH=>exact Hh (rY:=[(false,[.nil])]) E L U hle Y Z oA (ND _ rfl) h0 nm w bN (one _ (.nil _)) hQ
  |eF _ _ _ A c ho=>exact Hh (rY:=[(false,[.sl t 0 true []])]) E L U hle Y Z oA (ND _ rfl) h1 nm w bN (one _ (.eP _ _ _ _ _ ho)) hQ
  |aC _ _ _ qn l b off cap us ho hl CW hB gH hc lz=>exact Hh (rY:=[(false,[.sl t 0 true []])]) E L U hle Y Z oA (ND _ rfl) h1 nm w bN (one _ (.eP _ _ _ _ _ ho)) hQ
end
def Hj(N:Nat)(σ:S)(t:Nat):S:=match σ.t t with
 | .view [q] s 0 j=>bif Nat.blt t N then (match σ.m q with
  |some (.sl (.sl C (o+2) D l))=>bif Nat.beq (full C) 0 then (((σ.drop q).drop t).root t (.sl (.sl C 2 false (l.take j)))).set t (.lf (.own [t]))else σ
  |_=>σ)else σ
 |_=>σ
def uf(N:Nat)(σ:S):aa ResultVar->S
 |[]=>σ
 |.tmp t::r=>uf N (Hj N σ t) r
 |_::r=>uf N σ r
def A4{X:Type}(P:Program)(N:Nat)(Φ:dJ)(Λ:lI)(code:Code)(C:Array ResultVar)(D:aa In)(args:aa Ar)(k:aa In->eY->ah X):ah X:=
 jU P N Φ Λ code (Au D args) λe σ=>match A1 e with
  |some 0=>Gj P (uf N σ C.toList) C D k
  |some 1=>Gj P (uf N σ C.toList) C D k
  |_=>none
section
variable {P:Program} {w w':World} {w0:Wd} {B N:Nat} {aj ax:bw} {ρ ρ':Nat->Loc} {σ:S} {a:Act} {X:Type} {d:Nat} {r:X} {o:Oper} {Φ:dJ} {Λ:lI}
def Rl.Hj{t:Nat}(h:Rl w0 N aj ρ σ a w):∃ ax ρ',Rl w0 N ax ρ' (Proofs.YtnilicojgkhpnaaGreat.Hj N σ t) a w:=by
 unfold Proofs.YtnilicojgkhpnaaGreat.Hj;split
 ·rename_i q s j ht;cases hN:Nat.blt t N with
  |false=>exact⟨aj,ρ,h⟩
  | true=>
   have hN:t<N:=by have:=Nat.le_of_ble_eq_true hN;omega
   rw[cond_true];split
   ·rename_i E g qn l hm;cases Y:Nat.beq (full E) 0 with
    |false=>exact⟨aj,ρ,h⟩
    | true=>
     have Y:=Nat.eq_of_beq_eq_true Y;rw[cond_true];have hv:=h.tmp t;rw[ht]at hv;obtain⟨A,n,c,gq,_,hj,hu⟩:=hv;have fh:sliced A 0 j c s = .slice A j c:=by cases A<;>simp[sliced,Addr.add]
     rw[fh]at hu;let D:bw:=λb=>match aj b with
      |some k=>bif cB q k then (bif Nat.beq k.length 1 then some [t]else none)else some k
      |none=>none
     have hrel:Rel q aj D:=⟨h.vw,λb hb=>by simp[D,hb],λb k hb C=>by simp[D,hb,C]⟩
     have h1:=h.rel hrel (λb k C=>by
      simp only[D]at C;cases Z:aj b with
      |none=>rw[Z]at C;cases C
      | some k'=>
       rw[Z]at C;simp only at C;refine⟨⟨_,rfl⟩,?_⟩;cases hq:cB q k' with
       | true=>
        rw[hq,cond_true]at C;cases hlen:Nat.beq k'.length 1 with
        |true=>rw[hlen,cond_true]at C;injection C with C;rw[<- C];simp
        |false=>rw[hlen,cond_false]at C;cases C
       | false=>
        rw[hq,cond_false]at C;injection C with C;subst C;exact(h.cL b k' Z).2.2)
     have dN:=h.root q _ hm;generalize O:aU.sl (.sl E (g+2) qn l)=z at dN;cases dN with
     |az=>cases O
     |mp=>cases O
     |gh=>cases O
     | sl v y bW T=>
      injection O with O;subst O;simp only[cH,bW]at gq;injection gq with gq;subst gq;have hn:n=l.length:=by cases T<;>rfl
      have ap8:RV w w0.heap.size D [t] (.sl E 2 false (l.take j)) (.slice A j c):=by
       cases T with
       | dH=>
        have:j=0:=by simpa using hj
        subst this;exact .dH _ _ _
       |eF _ _ _ _ _ ho=>omega
       |eP _ _ _ _ _ ho=>omega
       |aC _ _ _ _ _ _ _ _ _ ho=>omega
       | own _ _ _ _ _ b cap cs us oc hh hs tN qj hc T=>
        have Z:(l.take j).length=j:=by rw[List.length_take];omega
        have hle:∀i (hi:i<(l.take j).length),∃qE:i<l.length,(l.take j)[i]=l[i]:=λi hi=>⟨by omega,List.getElem_take⟩
        have:=RV.own (w:=w) (B:=w0.heap.size) (aj:=D) [t] E 0 false (l.take j) b c cs us (by simp[D,oc,cB]) hh hs (by omega) ⟨qj.1,λh=>by cases h⟩ (λi hi k x U=>by
         obtain⟨qE,e⟩:=hle i hi;rw[e,C0 E Y 0]at U;exact hc i qE k x U) (λi hi k x U=>by
         obtain⟨qE,e⟩:=hle i hi;rw[e,C0 E Y 0]at U;exact(T i qE k x U).ru (xm E g _ Y x (List.mem_of_getElem? U)))
        rw[Z]at this;exact this
      have hrm:CX w w D D t:=⟨Nat.le_refl _,λ_ _ _=>rfl,λ_ _=>rfl,h1.vw⟩
      have L:=h1.xD (d:=t) (ρ':=bO ρ t (.dw (.slice A j c))) (x:=.sl (.sl E 2 false (l.take j))) (h.cT t (.inl hN)) ⟨rfl,rfl,rfl,Nat.le_refl _,λ_ _ _=>rfl⟩ hrm (λb k hb C=>by
       have:=(h1.cL b k C).2.1;omega) (λr T=>cw _ _ _ T) (.sl _ _ (bR _ _ _) ap8)
      refine⟨_,_,L.below,L.cL,L.root,λk=>?_,L.size,L.defers,L.fix,L.cT⟩
      show RA w w0.heap.size D _ (bO _ t _ k) _;by_cases C:k=t
      ·subst C;rw[bR,hu];exact⟨rfl,by simp only[cH,bR]⟩
      ·rw[cw _ _ _ C];exact L.tmp k
   ·exact⟨aj,ρ,h⟩
 ·exact⟨aj,ρ,h⟩
def Rl.uf:∀ (l:aa ResultVar) (σ:S) (aj:bw) (ρ:Nat -> Loc),Rl w0 N aj ρ σ a w -> ∃ ax ρ',Rl w0 N ax ρ' (Proofs.YtnilicojgkhpnaaGreat.uf N σ l) a w
 |[],_,aj,ρ,h=>⟨aj,ρ,h⟩
 | .tmp t :: r,_,_,_,h=>by
  obtain⟨C,D,E⟩:=h.Hj;exact Rl.uf r _ C D E
 |.cell _ _::r,_,aj,ρ,h=>Rl.uf r _ aj ρ h
def fnM_core{f:Nat}{fn:Func}{code:Code}{C:aa In}{args:aa Ar}{k:aa In -> eY -> ah X}(hf:P.funcs[f]?=some fn)(U:fn.body=some code)(hN:fn.ntmps=N)(Hl:N <= 20000)(hlen:args.length <= N)
  (dB:eR P Φ) (oA:ow P N Λ (occs code)) (h:A4 P N Φ Λ code fn.results C args k=some r) (nm:Nat -> Nat) (w:World) (aj:bw) (ρ:Nat -> Loc) (bN:Array Value)
  (hE:nH w w.heap.size aj ρ 0 C) (jA:∀b k,aj b=some k -> b<w.heap.size/\k≠[]) (fN:bN.size=args.length) (hv:∀i,RA w w.heap.size aj ρ ((Au C args).t i) (bN.getD i undef)) (Y:Hd w aj):
  Calls P f bN w λe w'=>∃v ax outs D,k outs D=some r/\e = .returned v/\gT ⟨w,aj,λ_=>none,Y,λ_ _=>rfl⟩ w w'/\(∀b k,ax b=some k -> (w.heap.size <= b \/ aj b≠none)/\b<w'.heap.size/\k≠[])/\oe w' w.heap.size ax nm D v/\pq w w' ax ρ nm 0 D.len C outs:=by
 let W:Wd:=⟨w,aj,λr=>if 20000 <= r/\r<60000 then some (ρ r)else none,Y,λr hr=>if_neg (by omega)⟩
 refine calls_of_wp hf U ?_;unfold A4 at h;have hR:R W N (Au C args) { tmps:=bN++Array.replicate (fn.ntmps-bN.size) undef,defers:=[] } w:=by
  refine⟨aj,ρ,.of (Below.refl w.heap.size w) (Nat.le_refl _),λb k U=>⟨.inr (by rw[show W.L b=aj b from rfl,U];simp),jA b k U⟩,nH.roots C 0 _ hE (λr x hx=>by cases hx),λj=>?_,by simp[hN];omega,rfl,λr l hr=>?_,λr hr=>?_⟩
  ·by_cases hj:j<bN.size
   ·have e:(bN++Array.replicate (fn.ntmps-bN.size) undef).getD j undef=bN.getD j undef:=by
     rw[Array.getD_eq_getD_getElem?,Array.getElem?_append_left hj,Array.getD_eq_getD_getElem?]
    rw[e];exact hv j
   ·have e:(Au C args).t j = .undef:=by
     simp only[Au,List.getElem?_eq_none (by omega:args.length <= j)]
    rw[e];trivial
  ·grind
  ·grind
 refine wp_mono (G7 (w0:=W) dB code _ _ h oA _ w hR) λe Z w' E=>?_
 obtain⟨cy,T,Gf,rG,O⟩:=E;have fin:Gj P (Proofs.YtnilicojgkhpnaaGreat.uf N cy fn.results.toList) fn.results C k=some r -> Z.defers=[] /\ ∃ v,(results fn Z.tmps).run P w' = .ok v w' /\ ∃ yz ax outs D,k outs D=some r/\Ending.returned v=Ending.returned yz/\gT ⟨w,aj,λ_=>none,Y,λ_ _=>rfl⟩ w w'/\(∀ b k,ax b=some k -> (w.heap.size <= b \/ aj b≠none)/\b<w'.heap.size/\k≠[])/\oe w' w.heap.size ax nm D yz/\pq w w' ax ρ nm 0 D.len C outs:=by
  intro lJ;obtain⟨outs,D,hko,cV⟩:=anp (w0:=W) rfl (λr h1 h2=>if_pos ⟨h1,h2⟩) (nH.Ui C 0 hE) lJ;obtain⟨cZ,dY,nG⟩:=Rl.uf _ cy Gf rG O;obtain⟨v,ax,h1,h2,h3,h4⟩:=cV cZ dY Z w' nG nm;exact⟨O.defers,v,h1,v,ax,outs,D,hko,rfl,⟨O.below.os,O.below.tape,O.below.output,O.below.size,λk T=>O.below.block k T⟩,h2,h3,h4⟩
 split at T
 next E=>have E:=ue E;subst E;exact fin T
 next E=>have E:=ue E;subst E;exact fin T
 ·cases T
end
def pJ:(l:aa (Bool×TC×Nat))->aa In->ah (qy l)
 |[],[]=>some ()
 | (true,t,g) :: r,.az cs :: is=>match dec t g cs,pJ r is with
  |some x,some xs=>some (x,xs)
  |_,_=>none
 | (false,t,g) :: r,.sl y :: is=>match (bif Nat.ble 1000000 g then (bif y.iL then none else y.eo t (g+2))else bif y.iL then y.eo t (g+2)else none),pJ r is with
  |some x,some xs=>some (x,xs)
  |_,_=>none
 |_,_=>none
def NF:aa In->aa In->aa In->Prop
 |[],[],[]=>True
 |.az L::C,.az cs::r,.az dK::D=>(jz cs dK/\L.map (λv=>(v.plain,v.aC))=dK.map (λv=>(v.plain,v.aC))/\∀x∈dK,x.iL=true)/\NF C r D
 |.sl _::C,.sl y::r,.sl E::D=>(Wk y E/\(y = .nil->E = .nil))/\NF C r D
 |_,_,_=>False
def NG:∀ (ps:aa PK) (C:kA ps) (is:aa In) (x:qy (ep ps)),pJ (ep ps) is=some x -> NF (lE ps C) is (jC (ep ps) x)
 |[],_,[],x,_=>trivial
 |[],_,_::_,x,h=>by simp[pJ,ep]at h
 |.v b t::ps,C,is,x,h=>NG ps C.2 is x h
 |.p t g off::ps,C,[],x,h=>by simp[pJ,ep]at h
 |.s t g::ps,C,[],x,h=>by simp[pJ,ep]at h
 |.p t g off::ps,C,.sl _::_,x,h=>by simp[pJ,ep]at h
 |.s t g::ps,C,.az _::_,x,h=>by simp[pJ,ep]at h
 | .p t g off :: ps,C,.az cs :: is,x,h=>by
  have h:pJ ((true,t,g)::ep ps) (.az cs::is)=some x:=h;unfold pJ at h;split at h
  next y ys D L=>injection h with h;subst h;exact⟨⟨ko t g cs y D,amr t g C.1 y,λz O=>Ta t g y z O⟩,NG ps C.2 is ys L⟩
  ·cases h
 | .s t g :: ps,C,.sl y :: is,x,h=>by
  have h:pJ ((false,t,g)::ep ps) (.sl y::is)=some x:=h;unfold pJ at h;split at h
  ·rename_i z T D L;injection h with h;subst h;refine⟨?_,NG ps C.2 is T L⟩;cases U:Nat.ble 1000000 g with
   | true=>
    cases E:y.iL with
    |true=>simp_all
    | false=>
     have:y = .nil:=by cases y<;>first|rfl|cases E
     subst this;exact⟨.same _,λ_=>rfl⟩
   | false=>
    cases E:y.iL with
    |false=>simp_all
    | true=>
     rw[U,E]at D;exact⟨V.FB D,λe=>by subst e;cases E⟩
  ·cases h
def pq.typed{w w':World}{ax:bw}{ρ:Nat -> Loc}{nm:Nat -> Nat}:∀ (E:aa In) (i Y:Nat) (outs T:aa In),pq w w' ax ρ nm i Y E outs -> NF E outs T -> Gi w w' ax ρ nm i Y E T
 |[],i,Y,[],[],h,C=>trivial
 | .az cs0 :: E,i,Y,.az cs1 :: outs,.az cs2 :: T,h,C=>by
  obtain⟨⟨b,off,cells,vM,e,e',Z,h2,h3,h4,h5,h6,h7⟩,hr⟩:=h;obtain⟨⟨U,V3,hnn⟩,ny⟩:=C
  refine⟨⟨b,off,cells,vM,e,e',Z,h2,h3,h4,by rw[<- U.1];exact h5,by rw[<- U.1];exact h6,λj x hx=>?_⟩,pq.typed E _ _ outs T hr ny⟩
  have hj:j<cs1.length:=by rw[U.1];exact(List.getElem?_eq_some_iff.1 hx).1
  obtain⟨u,hu,hc⟩:=h7 j _ (List.getElem?_eq_getElem hj);have C:=U.2 j _ x (List.getElem?_eq_getElem hj) hx;have V4:∀ L,cs0[j]?=some L -> L.plain=x.plain/\L.aC=x.aC:=by
   intro L h0;have e1:(cs0.map (λv=>(v.plain,v.aC)))[j]?=(cs2.map (λv=>(v.plain,v.aC)))[j]?:=by rw[V3]
   grind
  have hxn:=hnn x (List.mem_of_getElem? hx);generalize cs1[j]=y at hc C;refine⟨u,hu,?_⟩;rcases hc with ⟨D,O⟩|⟨D,O,L,c3,c4⟩|⟨D,O,c6,⟨L,c3,c4⟩,c5⟩|⟨D,O⟩
  ·cases C with
   |same=>grind
   |nil t o=>cases D
   |q t o l=>cases D
   |gr=>cases D
  ·subst D O;have hf:x.aC=false:=by rw[<- (V4 L c3).2];exact c4
   cases C with
   |same=>cases hxn
   |nil t o=>exact .inr (.inr ⟨hf,.dH _ _ _⟩)
  ·cases C with
   |same=>grind
   |nil t o=>cases c6
   |q t o l=>exact .inr (.inl ⟨rfl,O,c5⟩)
   |gr t o o' qn l Z h2=>simp[V.aC]at O;omega
  ·have hf:=C.abd D;exact .inr (.inr ⟨hf,O.wk C⟩)
 | .sl y0 :: E,i,Y,.sl y1 :: outs,.sl y2 :: T,h,C=>by
  obtain⟨h,hr⟩:=h;obtain⟨⟨U,hn⟩,ny⟩:=C;exact⟨h.imp hn (λ⟨v,Z,h2⟩=>⟨v,Z,h2.wk U⟩),pq.typed E _ _ outs T hr ny⟩
 |[],_,_,_::_,_,h,_=>h.elim
 |[],_,_,[],_::_,_,h=>h.elim
 |.az _::_,_,_,[],_,h,_=>h.elim
 |.sl _::_,_,_,[],_,h,_=>h.elim
 |.az _::_,_,_,.sl _::_,_,h,_=>h.elim
 |.sl _::_,_,_,.az _::_,_,h,_=>h.elim
 |.az _::_,_,_,.az _::_,[],_,h=>h.elim
 |.az _::_,_,_,.az _::_,.sl _::_,_,h=>h.elim
 |.sl _::_,_,_,.sl _::_,[],_,h=>h.elim
 |.sl _::_,_,_,.sl _::_,.az _::_,_,h=>h.elim
def ac8:∀ (l:aa (Bool×TC×Nat)) (ps:aa Pt) (x:gB l),og l ps=some x -> (ps.map λp=>p.2.length)=((rK l x).map λp=>p.2.length)
 |[],[],x,h=>rfl
 | [(b,t,g)],[(D,E)],x,h=>by
  unfold og at h;cases C:b==D with
  |false=>rw[C]at h;cases h
  | true=>
   rw[C]at h;simp[rK,(ko t g E x h).1]
 | (b,t,g) :: q :: r,(D,E) :: ps,x,h=>by
  unfold og at h;cases C:b==D with
  |false=>simp_all
  | true=>
   rw[C]at h;split at h
   next y ys L O=>injection h with h;subst h;simp only[rK,List.map_cons];rw[ac8 _ ps ys O,(ko t g E y L).1]
   ·cases h
def ap9{l:aa (Bool×TC×Nat)}{C:eY}{x:gB l}(h:jS l C=some x):C.len=(eA l x).len:=by
 have key:∀ ps,og l ps=some x -> (ps.map λp=>p.2.length).sum=(eA l x).len:=by
  intro ps h;rw[ac8 l ps x h];unfold eA
  match hm:rK l x with
  |[q]=>simp[eY.len]
  |[]=>rfl
  |_::_::_=>rfl
 cases C with
 |one p=>have:=key [p] h;simpa [eY.len]using this
 | dW ps=>
  simp only[jS]at h;cases D:Nat.beq ps.length 1 with
  |true=>simp_all
  |false=>rw[D]at h;exact key ps h
section
variable {P:Program} {w w':World} {w0:Wd} {B N:Nat} {aj ax:bw} {ρ ρ':Nat->Loc} {σ:S} {a:Act} {X:Type} {d:Nat} {r:X} {o:Oper} {Φ:dJ} {Λ:lI}
def DB(l ro:aa (Bool×TC×Nat))(outs:aa In)(C:eY):ah (gB ro×qy l):=
 match jS ro C,pJ l outs with
 |some x,some y=>some (x,y)
 |_,_=>none
def NH{f:Nat}{fn:Func}{code:Code}{ps:aa PK}{ro:aa (Bool×TC×Nat)}{F:kA ps->ah (gB ro×qy (ep ps))}(L:P.funcs[f]?=some fn)(O:fn.body=some code)(U:fn.ntmps=N)(Y:(fn.name == "runtime.NumGoroutine")=false)(Z:Nat.ble ps.length N=true)(Hl:Nat.ble N 20000=true)(dN:jV ro=true)
  (dB:eR P Φ) (oA:ow P N Λ (occs code)) (hF:∀x,A4 P N Φ Λ code fn.results (lE ps x) (iP ps 0 x) (DB (ep ps) ro)=F x):enters P f/\rL P f ⟨ps,ro,F⟩:=by
 refine⟨⟨fn,L,Y,by rw[O];rfl⟩,λx y h nm w aj ρ bN hE jA D hv hQ=>?_⟩
 have h:F x=some y:=h;rw[<-hF x]at h;have hlen:∀ (ps:aa PK) (i:Nat) (x:kA ps),(iP ps i x).length=ps.length:=by
  intro ps
  induction ps with
  |nil=>intro i x;rfl
  | cons p ps E=>
   intro i x;cases p with
   |v=>exact congrArg (· + 1) (E _ _)
   |p=>exact congrArg (· + 1) (E _ _)
   |s=>exact congrArg (· + 1) (E _ _)
 have D:bN.size=(iP ps 0 x).length:=by rw[hlen];exact D
 refine(fnM_core L O U (Nat.le_of_ble_eq_true Hl) (by rw[hlen];exact Nat.le_of_ble_eq_true Z) dB oA h nm w aj ρ bN hE jA D hv hQ).mono λe w' rH=>?_
 obtain⟨v,ax,outs,res,C,he,jj,hl,jR,Ux⟩:=rH;unfold DB at C;split at C
 next y1 y2 T h2=>injection C with C;subst C;refine⟨v,ax,he,jj,hl,ac5 dN T jR,?_⟩;rw[<-ap9 T];exact pq.typed _ _ _ _ _ Ux (NG ps x outs y2 h2)
 ·cases C
end
set_option maxRecDepth 100000
section
variable {P:Program} {w w':World} {w0:Wd} {B N:Nat} {aj ax:bw} {ρ ρ':Nat->Loc} {σ:S} {a:Act} {X:Type} {d:Nat} {r:X} {o:Oper} {Φ:dJ} {Λ:lI}
end
def nV(i j:Nat):Nat:=20001+1000*i+j
def DC(i j:Nat)(x:V):Lf:=match x with
 |.sl ..=>.own [nV i j]
 |x=>.v x
def wj(i:Nat):Nat->aa V->aa Lf
 |_,[]=>[]
 |j,x::xs=>DC i j x::wj i (j+1) xs
def V5(args:aa Pt)(n:Nat):ah aU:=bif Nat.ble 20001 n&&Nat.blt n 60000 then (match args[(n-20001) / 1000]? with
 | some (_,xs)=>(match xs[(n-20001) % 1000]? with
  |some (.sl t g q l)=>some (.sl (.sl t g q l))
  |_=>none)
 |none=>none)else none
def ac9(args:aa Pt):S:=⟨λi=>match args[i]? with
 |some (false,[x])=>.lf (DC i 0 x)
 |some (true,xs)=>.agg (wj i 0 xs)
 |_=>.undef,V5 args⟩
def NI(σ:S)(C:Array ResultVar)(a j:Nat)(t:TC):ah (Nat×Nat):=match C.toList with
 | [.tmp s]=>(match σ.t s with
  |.view [n] D i k=>bif Nat.beq n (nV a j)&&Nat.beq D (aA t)then some (i,k)else none
  |_=>none)
 |_=>none
def ada(P:Program)(N:Nat)(Φ:dJ)(Λ:lI)(code:Code)(C:Array ResultVar)(a j:Nat)(t:TC)(args:aa Pt):ah (Nat×Nat):=
 jU P N Φ Λ code (ac9 args) λe σ=>match A1 e with
  |some 0=>NI σ C a j t
  |some 1=>NI σ C a j t
  |_=>none
def V6(ai:aa (Bool×TC))(a j:Nat)(t:TC)(F:jm ai->ah (Nat×Nat)):AH:=⟨a,j,t,λargs=>match wh ai args with
 |some x=>F x
 |none=>none⟩
section
variable {P:Program} {w w':World} {w0:Wd} {B N:Nat} {aj ax:bw} {ρ ρ':Nat->Loc} {σ:S} {a:Act} {X:Type} {d:Nat} {r:X} {o:Oper} {Φ:dJ} {Λ:lI}
def adb(i:Nat):∀ (xs:aa V) (C j:Nat),(wj i C xs)[j]?=(xs[j]?).map λx=>DC i (C+j) x
 |[],C,j=>by simp[wj]
 |x::xs,C,0=>by simp[wj]
 | x :: xs,C,j+1=>by
  simp[wj,List.getElem?_cons_succ,adb]
  grind
def ade(i:Nat):∀ (xs:aa V) (C:Nat),(wj i C xs).length=xs.length
 |[],_=>rfl
 |x::xs,C=>by simp[wj,ade i xs (C+1)]
def adf{i j:Nat}(h:j<1000):(nV i j-20001) / 1000=i/\(nV i j-20001) % 1000=j:=by
 unfold nV;omega
def yA(bN:Array Value)(n:Nat):Loc:=.dw ((rR bN ((n-20001) / 1000) ((n-20001) % 1000)).getD undef)
def adg{bN:Array Value}{i j:Nat}{x:V}{u:Value}(D:j<1000)(E:rR bN i j=some u)(L:x.aC=true)(C:RV w B (λ_=>none) [] x u):dm w B (λ_=>none) (yA bN) (DC i j x) u:=by
 unfold DC;split
 ·refine⟨C.kZ rfl rfl,?_⟩;obtain⟨O,T⟩:=adf (i:=i) D;simp only[cH,yA,O,T,E];rfl
 ·exact⟨L,C⟩
def aqa{f:Nat}{fn:Func}{code:Code}{ai:aa (Bool×TC)}{O T:Nat}{t:TC}{F:jm ai -> ah (Nat×Nat)}(hf:P.funcs[f]?=some fn)(hb:fn.body=some code)(hN:fn.ntmps=N)(A3:(fn.name == "runtime.NumGoroutine")=false)(Hi:Nat.ble ai.length N=true)(Hl:Nat.ble N 20000=true)(fN:(ai.all λp=>Nat.blt (aA p.2) 1000&&(p.1 || Nat.beq (aA p.2) 1))=true)(hjj:Nat.blt T 1000=true)(haa:Nat.blt O 30=true)
  (dB:eR P Φ) (oA:ow P N Λ (occs code)) (hF:∀x,ada P N Φ Λ code fn.results O T t (fq ai x)=F x):enters P f/\MY P f (V6 ai O T t F):=by
 refine⟨⟨fn,hf,A3,by rw[hb];rfl⟩,λargs p h w bN jQ hQ=>?_⟩
 simp only[V6]at h;split at h
 ·rename_i x hx;obtain⟨k1,k2⟩:=V0 ai args x hx;have hlen:∀ (l:aa (Bool×TC)) (x:jm l),(fq l x).length=l.length:=by
   intro l
   induction l with
   |nil=>intro x;rfl
   |cons p l ih=>obtain⟨b,t⟩:=p;intro x;simp[fq,ih]
  have gq:bN.size=ai.length:=by rw[jQ.1,<- k1,hlen]
  have hle:bN.size <= N:=by rw[gq];exact Nat.le_of_ble_eq_true Hi
  have Hl:=Nat.le_of_ble_eq_true Hl;have v5:∀ (l:aa (Bool×TC)) (x:jm l),(l.all λp=>Nat.blt (aA p.2) 1000&&(p.1 || Nat.beq (aA p.2) 1))=true -> ∀ (j:Nat) p,(fq l x)[j]?=some p -> (∀ y∈p.2,y.aC=true)/\p.2.length<1000/\(p.1=true \/ p.2.length=1):=by
   intro l
   induction l with
   |nil=>intro x _ j p U;simp[fq]at U
   | cons c l ih=>
    obtain⟨b,t⟩:=c;intro x hs j p U;rw[List.all_cons,Bool.and_eq_true]at hs;cases j with
    | zero=>
     simp[fq]at U;subst U
     refine⟨λy C=>?_,?_⟩
     ·obtain⟨i,hi⟩:=List.mem_iff_getElem?.1 C;exact qi t 0 x.1 (by omega) i y hi
     ·show (enc t 0 x.1).length<1000/\(b=true \/ (enc t 0 x.1).length=1);rw[jg];have h8:=hs.1;rw[Bool.and_eq_true,Bool.or_eq_true]at h8;have h9:=Nat.le_of_ble_eq_true h8.1;exact⟨h9,h8.2.imp id Nat.eq_of_beq_eq_true⟩
    |succ j=>exact ih x.2 hs.2 j p (by simpa [fq]using U)
  have oa:∀ (i:Nat) (p:Pt),(fq ai x)[i]?=some p -> ∃ u:Value,bN[i]?=some u/\PV w w.heap.size (λ_=>none) (λ_=>[]) p u/\(∀ y∈p.2,y.aC=true)/\p.2.length<1000:=by
   intro i p U;obtain⟨q,hq,C1,Al⟩:=k2 i p U;obtain⟨u,Y,qz⟩:=jQ.2 i q hq;obtain⟨g1,g2,g3⟩:=v5 ai x fN i p U;refine⟨u,Y,?_,g1,g2⟩;obtain⟨b,ys⟩:=p;obtain⟨b',xs⟩:=q;simp only at C1;subst C1;have hw:=qz.rP Al;rcases g3 with g3|g3
   ·simp only at g3;subst g3;exact hw.pvS
   ·obtain⟨y,rfl⟩:=List.length_eq_one_iff.1 g3;cases b' with
    |true=>exact hw.pvS
    |false=>exact hw.pv
  have V7:∀ (i:Nat) (p:Pt),(fq ai x)[i]?=some p -> ∀ (j:Nat) y,p.2[j]?=some y -> ∃ u,rR bN i j=some u/\RV w w.heap.size (λ_=>none) [] y u/\y.aC=true/\j<1000:=by
   intro i p U j y C;obtain⟨u,Y,⟨us,D,h2,h3⟩,h4,h5⟩:=oa i p U;obtain⟨v,E,L⟩:=h3 j y C;refine⟨v,?_,L,h4 y (List.mem_of_getElem? C),by have:=(List.getElem?_eq_some_iff.1 C).1;omega⟩;unfold rR;rw[Y];obtain⟨b,ys⟩:=p;cases b with
   | true=>
    have D:u = .agg us:=D;subst D;exact E
   | false=>
    have D:us = #[u]:=D;subst D;have hj:j=0:=by
     have:=(Array.getElem?_eq_some_iff.1 E).1
     simpa using this
    subst hj;have:u=v:=by simpa using E
    subst this;have tZ:∀ us,u ≠ .agg us:=by
     rintro us rfl;cases L
    cases u<;>first|exact absurd rfl (tZ _)|rfl
  let W:Wd:=⟨w,λ_=>none,λr=>if 20000 <= r/\r<60000 then some (yA bN r)else none,hQ,λr L=>if_neg (by omega)⟩
  refine calls_of_wp hf hb ?_;rw[<- hF x]at h;unfold ada at h;have hR:R W N (ac9 (fq ai x)) { tmps:=bN++Array.replicate (fn.ntmps-bN.size) undef,defers:=[] } w:=by
   refine⟨λ_=>none,yA bN,.of (Below.refl w.heap.size w) (Nat.le_refl _),(λb k hk=>by cases hk),(λn y C=>?_),λi=>?_,by simp[hN];omega,rfl,λr l L=>?_,λr L=>?_⟩
   ·have C:V5 (fq ai x) n=some y:=C;unfold V5 at C;cases hb:(Nat.ble 20001 n&&Nat.blt n 60000)with
    |false=>rw[hb]at C;cases C
    | true=>
     rw[hb,cond_true]at C;split at C
     ·rename_i b xs U;split at C
      next t' g q l hl=>injection C with C;subst C;obtain⟨u,Y,L,tK,_⟩:=V7 _ _ U _ _ hl;refine .sl u _ ?_ (L.key tK);unfold yA;simp[*]
      ·cases C
     ·cases C
   ·show RA w w.heap.size _ _ (match (fq ai x)[i]? with | some (false,[x])=>A.lf (DC i 0 x) | some (true,xs)=>.agg (wj i 0 xs) | _=>.undef) _;have CQ:∀ p:Pt,(fq ai x)[i]?=some p -> ∃ u:Value,bN[i]?=some u/\(bN++Array.replicate (fn.ntmps-bN.size) undef).getD i undef=u:=by
     intro p U;obtain⟨u,Y,_⟩:=oa i p U;have hi:=(Array.getElem?_eq_some_iff.1 Y).1;exact⟨u,Y,by rw[Array.getD_eq_getD_getElem?,Array.getElem?_append_left hi,Y];rfl⟩
    split
    ·rename_i x' jO;obtain⟨u,Y,e⟩:=CQ _ jO;rw[e];obtain⟨v,E,L,tK,_⟩:=V7 i _ jO 0 x' rfl;have Gg:u=v:=by
      unfold rR at E;rw[Y]at E;obtain⟨u2,o9,⟨us,D,h2,h3⟩,_⟩:=oa i _ jO;rw[Y]at o9;injection o9 with o9;subst o9;have D:us = #[u]:=D;subst D;obtain⟨v3,hv3,hr3⟩:=h3 0 x' rfl;have:u=v3:=by simpa using hv3
      subst this;have tZ:∀ us,u ≠ .agg us:=by
       rintro us rfl;cases hr3
      cases u<;>first|exact absurd rfl (tZ _)|(simp only[show Nat.beq 0 0=true from rfl,cond_true,Option.some.injEq]at E;exact E)
     subst Gg;exact adg (by omega) E tK L
    ·rename_i xs jO;obtain⟨u,Y,e⟩:=CQ _ jO;rw[e];obtain⟨u2,o9,⟨us,D,h2,h3⟩,_⟩:=oa i _ jO;rw[Y]at o9;injection o9 with o9;subst o9;have D:u = .agg us:=D
     refine⟨us,D,by rw[ade];exact h2,λj y C=>?_⟩
     rw[adb]at C;cases hz:xs[j]? with
     |none=>rw[hz]at C;cases C
     | some z=>
      rw[hz]at C;injection C with C;subst C;obtain⟨v,E,L,tK,hj⟩:=V7 i _ jO j z hz;have huj:us[j]?=some v:=by
       unfold rR at E;rw[Y,D]at E;exact E
      refine⟨v,huj,?_⟩;rw[Nat.zero_add];exact adg hj E tK L
    ·trivial
   ·have L:(if 20000 <= r/\r<60000 then some (yA bN r)else none)=some l:=L;split at L
    ·injection L
    ·cases L
   ·show (if 20000 <= r/\r<60000 then some (yA bN r)else none)=none;rw[if_neg (by omega)]
  refine wp_mono (G7 (w0:=W) dB code _ _ h oA _ w hR) λe a' w' he=>?_
  obtain⟨cy,hk,Gf,rG,cW⟩:=he;have fin:NI cy fn.results O T t=some p -> a'.defers=[] /\ ∃ u,(results fn a'.tmps).run P w' = .ok u w' /\ ∃ A n cap,rR bN O T=some (.slice A n cap)/\p.1 <= p.2/\p.2 <= n/\Ending.returned u = .returned (sliced A p.1 p.2 cap (aA t))/\Below w.heap.size w w':=by
   intro lJ;unfold NI at lJ;split at lJ
   ·rename_i s hs;split at lJ
    ·rename_i n sz i k E;cases fQ:(Nat.beq n (nV O T)&&Nat.beq sz (aA t))with
     |false=>rw[fQ]at lJ;cases lJ
     | true=>
      rw[fQ,cond_true]at lJ;injection lJ with lJ;subst lJ;rw[Bool.and_eq_true]at fQ;have hn:=Nat.eq_of_beq_eq_true fQ.1;have aqb:=Nat.eq_of_beq_eq_true fQ.2;subst hn aqb;have D:=cW.tmp s;rw[E]at D;obtain⟨A,m,c,Z,e2,e3,e4⟩:=D;have hjj:=Nat.le_of_ble_eq_true hjj;have tZ:20000 <= nV O T:=by unfold nV;omega
      by_cases cU:nV O T<60000
      ·have aqc:=cW.fix (nV O T) (yA bN (nV O T)) (if_pos ⟨tZ,cU⟩);have Z:(match rG (nV O T)with | .dw v=>some v | _=>none)=some (Value.slice A m c):=Z;rw[aqc]at Z;obtain⟨d1,d2⟩:=adf (i:=O) (j:=T) (by omega);have Z:some ((rR bN ((nV O T-20001) / 1000) ((nV O T-20001) % 1000)).getD undef)=some (Value.slice A m c):=Z;rw[d1,d2]at Z;injection Z with Z
       refine⟨cW.defers,_,?_,A,m,c,?_,e2,e3,congrArg Ending.returned e4,⟨cW.below.os,cW.below.tape,cW.below.output,cW.below.size,λk hk=>cW.below.block k hk rfl⟩⟩
       ·have jR:results fn a'.tmps=(do let vs <- fn.results.mapM (rI a'.tmps);pure (if h:vs.size=1 then vs[0]else .tuple vs)):=by
         unfold results;congr 1
        have v5:fn.results = #[.tmp s]:=by apply Array.ext';exact hs
        rw[jR,v5];simp[rI]
       ·cases hl:rR bN O T with
        |none=>rw[hl]at Z;cases Z
        |some u=>rw[hl]at Z;exact congrArg some Z
      ·exfalso;have:=Nat.le_of_ble_eq_true haa;unfold nV at cU;omega
    ·cases lJ
   ·cases lJ
  split at hk
  next he=>have he:=ue he;subst he;exact fin hk
  next he=>have he:=ue he;subst he;exact fin hk
  ·cases hk
 ·cases h
end
def Wd.pin(d:Wd)(g:Nat)(l:ah Loc)(D:20000<=g):Wd:=⟨d.w,d.L,λr=>if r=g then l else d.F r,d.held,λr C=>by
 show (if r=g then l else d.F r)=none;rw[if_neg (by omega)];exact d.low r C⟩
def A5(g:Nat):aa (Bool×aa Lf)->A
 |[(false,[x])]=>.lf (x.drop g)
 |[(true,cs)]=>.agg (cs.map (Lf.drop g))
 |[(false,_)]=>.undef
 |ps=>.dW (ps.map λp=>(p.1,p.2.map (Lf.drop g)))
def A6{X:Type}(P:Program)(g:Nat)(D:Array ResultVar)(C:S)(k:S->A->ah X):ah X:=
 qx P C D.toList λps=>match C.m g with
  |some (.gh ys)=>k ⟨λj=>((ys.map (A.drop g))[j]?).getD .undef,(C.drop g).m⟩ (A5 g ps)
  |_=>none
def adh(g N:Nat)(σ:S)(xs:aa A):S:=⟨λj=>((xs.map (A.drop g))[j]?).getD .undef,bO (σ.drop g).m g (some (.gh ((List.range N).map λj=>(σ.t j).drop g)))⟩
def noB:lI:=λ_=>none
def Ho{X:Type}(P:Program)(M g:Nat)(Φ:dJ)(code:Code)(C:Array ResultVar)(N:Nat)(σ:S)(xs:aa A)(k:S->A->ah X):ah X:=
 bif Nat.ble xs.length M then jU P M Φ noB code (adh g N σ xs) λe D=>match A1 e with
  |some 0=>A6 P g C D k
  |some 1=>A6 P g C D k
  |_=>none
 else none
def adi(P:Program)(M g:Nat)(Φ:dJ)(code:Code)(C:Array ResultVar):rS:=⟨λX N σ xs k=>Ho P M g Φ code C N σ xs k⟩
section
variable {P:Program} {w w':World} {w0:Wd} {B M N g:Nat} {aj ax:bw} {ρ ρ':Nat->Loc} {σ:S} {a:Act} {X:Type} {d:Nat} {r:X} {o:Oper} {Φ:dJ} {Λ:lI}
def V8{C:ah Tmp}{D:Bool}:cv λX k=>qF (X:=X) σ C D k:=λX Y k g=>by
 unfold qF
 repeat' first|rfl|refine cN ?_ ?_|split
def aqd{ops:Array Oper}{L i:Nat}:cv λX k=>GR (X:=X) P N Φ ops L i σ o k:=λX Y k g=>by
 unfold GR;split
 ·refine(U8 _ _ _ _).trans (congrArg _ (funext λv=>?_))
  exact cN (vS _ _ _ _) rfl
 ·exact vS _ _ _ _
 ·rfl
def V9(D:eR P Φ){ops:Array Oper}:∀ (f L:Nat) (σ:S),cv λX k=>pE (X:=X) P N Φ ops f L σ k
 | 0,L,σ=>λX Y k g=>by
  unfold pE;split<;>rfl
 | f+1,L,σ=>λX Y k g=>by
  have st:∀E o T,cv λX k=>cY (X:=X) P N Φ ops σ o λO=>qF O o.dst T λC=>pE P N Φ ops f E C k:=λE o T=>(ace D).comp λO=>V8.comp λC=>V9 D f E C
  unfold pE
  repeat' first
   |rfl
   |exact st _ _ _ _ _ _ _
   |exact(aqd.comp λO=>V8.comp λC=>V9 D f _ C) X Y k g
   |split
def aqe{t:TypeId}{x lo hi C:A}{X Y:Type}(k:ah X)(g:X->ah Y):(Dn P σ t x lo hi C k).bind g=Dn P σ t x lo hi C (k.bind g):=by
 unfold Dn
 repeat' first
  |rfl
  |refine(vR _ _ _ _ _).trans (congrArg _ (funext λy=>?_))
  |split
def aqf(C:eR P Φ):cv λX k=>GN (X:=X) P N Φ σ o k:=λX Y k g=>by
 unfold GN
 repeat' first
  |exact ab7 C _ _ _ _
  |exact aoH _ _ _ _
  |exact(aqe _ _).trans (congrArg _ (cN rfl rfl))
  |split
def Wa(C:eR P Φ){ops:Array Oper}:∀ (rest:aa Oper) (j:Nat) (σ:S),cv λX k=>AM (X:=X) P N Φ ops j rest σ k
 |[],j,σ=>λ_ _ _ _=>rfl
 | o :: rest,j,σ=>λX Y k g=>by
  unfold AM;split
  ·exact((aqf C).comp λD=>V8.comp λE=>Wa C rest _ E) X Y k g
  ·exact(vS.comp λD=>Wa C rest _ D) X Y k g
  ·rfl
def adj(E:eR P Φ):∀ (c:Code) (σ:S),Dm λX k=>jU (X:=X) P N Φ noB c σ k:=by
 intro c
 induction c with
 | region id ops draw=>
  intro σ X Y k g;cases draw with
  |true=>exact cN (V9 E _ _ _ _ _ _ _) rfl
  |false=>exact Wa E _ _ _ _ _ _ _
 | seq x y C D=>
  intro σ X Y k g
  refine(C σ _ _ _ _).trans (congrArg _ (funext λe=>funext λL=>?_))
  cases e with
  |normal=>exact D L _ _ _ _
  |_=>rfl
 | cond c x y C D=>
  intro σ X Y k g;simp only[jU];split
  ·exact cN (C σ _ _ _ _) (D σ _ _ _ _)
  ·rfl
 | block id c O=>
  intro σ X Y k g
  refine(O σ _ _ _ _).trans (congrArg _ (funext λe=>funext λL=>?_))
  cases e with
  | exit T=>
   simp only;split<;>rfl
  |_=>rfl
 |_=>intro σ X Y k g;rfl
def NJ:∀ (l:aa ResultVar),cv λX k=>qx (X:=X) P σ l k
 |[]=>λ_ _ _ _=>rfl
 | .tmp t :: rest=>λX Y k g=>by
  simp only[qx];split
  ·exact NJ rest _ _ _ _
  ·rfl
 | .cell c ty :: rest=>λX Y k g=>by
  simp only[qx]
  refine(abv _ _ _ _).trans (congrArg _ (funext λy=>?_))
  split
  ·exact NJ rest _ _ _ _
  ·rfl
def adk{C:Array ResultVar}:Dm λX k=>A6 (X:=X) P g C σ k:=λX Y k f=>by
 unfold A6
 refine(NJ _ _ _ _ _).trans (congrArg _ (funext λps=>?_))
 split<;>rfl
def aqg(C:eR P Φ){code:Code}{D:Array ResultVar}{xs:aa A}:Dm λX k=>Ho (X:=X) P M g Φ code D N σ xs k:=λX Y k f=>by
 unfold Ho
 refine cN ((adj C _ _ _ _ _ _).trans (congrArg _ (funext λe=>funext λE=>?_))) rfl
 split
 ·exact adk _ _ _ _
 ·exact adk _ _ _ _
 ·rfl
def aqh{D:Array ResultVar}{E:S}{y:A}(h:A6 P g D σ (λσ y=>some (σ,y))=some (E,y)):∃ ys ps,σ.m g=some (.gh ys)/\qx P σ D.toList some=some ps/\⟨λj=>((ys.map (A.drop g))[j]?).getD .undef,(σ.drop g).m⟩=E/\A5 g ps=y:=by
 unfold A6 at h;obtain⟨ps,C,L⟩:=(NJ _).lA h;split at C
 next ys O=>injection C with C;injection C with T U;exact⟨ys,ps,O,L.at_ _,T,U⟩
 ·cases C
def List.adl(xs:aa A)(g j:Nat):((xs.map (A.drop g))[j]?).getD .undef=A.drop g ((xs[j]?).getD .undef):=by
 rw[List.getElem?_map];cases xs[j]?<;>rfl
def RP.A5{ps:aa (Bool×aa Lf)}{C:aa Value}(O:∀ r,r≠g->ρ' r=ρ r)(E:C.length=ps.length)(h:∀ (i:Nat) p v,ps[i]?=some p->C[i]?=some v->RP w B aj ρ p v):
  RA w B aj ρ' (A5 g ps) (if h:C.toArray.size=1 then C.toArray[0]else .tuple C.toArray):=by
 have dW:ps.length≠1->RA w B aj ρ' (.dW (ps.map λp=>(p.1,p.2.map (Lf.drop g)))) (if h:C.toArray.size=1 then C.toArray[0]else .tuple C.toArray):=by
  intro U;rw[dif_neg (by simpa [E]using U)]
  refine⟨C.toArray,rfl,by simpa using E,λj p D=>?_⟩
  rw[List.getElem?_map]at D;cases L:ps[j]? with
  |none=>rw[L]at D;cases D
  | some q=>
   rw[L]at D;injection D with D;subst D;have T:j<C.length:=by rw[E];exact(List.getElem?_eq_some_iff.1 L).1
   exact⟨C[j],by simp[T],(h j q C[j] L (List.getElem?_eq_getElem T)).dX O⟩
 unfold Proofs.YtnilicojgkhpnaaGreat.A5;split
 ·rename_i x
  match C,E,h with
  | [v],_,h=>
   have:=h 0 _ v rfl rfl;obtain⟨u,Y,Z⟩:=this.2 0 x rfl;have:v=u:=by simpa using Y
   subst this;exact Z.dX O
 ·rename_i cs
  match C,E,h with
  |[v],_,h=>exact RP.dX O (p:=(true,cs)) (h 0 _ v rfl rfl)
 ·trivial
 ·rename_i h1 h2 h3
  refine dW λe=>?_
  obtain⟨⟨b,cs⟩,rfl⟩:=List.length_eq_one_iff.1 e;cases b with
  |true=>exact h2 cs rfl
  |false=>exact h3 cs rfl
def aqi{f:Nat}{fn:Func}{code:Code}(hf:P.funcs[f]?=some fn)(O:fn.body=some code)(hN:fn.ntmps=M)(hM:M<=20000)(A3:(fn.name == "runtime.NumGoroutine")=false)(hg:20000<=g/\g<60000)(dB:eR P Φ):
  enters P f/\jk P f (adi P M g Φ code fn.results):=by
 refine⟨⟨fn,hf,A3,by rw[O];rfl⟩,λN σ xs=>aqg dB,λN σ xs τ0 y0 h w0 aj ρ a w bN E fN hv=>?_⟩
 have h:Ho P M g Φ code fn.results N σ xs _=_:=h;unfold Ho at h;cases hl:Nat.ble xs.length M with
 |false=>rw[hl]at h;cases h
 | true=>
  rw[hl,cond_true]at h;have vE:=Nat.le_of_ble_eq_true hl;obtain⟨e,τ,h1,h2⟩:=(adj dB _ _).lA h;have h3:(e = .normal\/e = .ret)/\A6 P g fn.results τ (λσ y=>some (σ,y))=some (τ0,y0):=by
   split at h1
   next Z=>exact⟨.inl (ue Z),h1⟩
   next Z=>exact⟨.inr (ue Z),h1⟩
   ·cases h1
  obtain⟨hex,h3⟩:=h3;obtain⟨ys,ps,hy,pn,rfl,rfl⟩:=aqh h3;let us:=a.tmps.toList
  let W:Wd:=w0.pin g (some (.bN us)) hg.1
  let rG:=bO ρ g (.bN us)
  have bW:∀r,r≠g->rG r=ρ r:=λr hr=>cw _ _ _ hr
  have jh:∀ j,us.getD j undef=a.tmps.getD j undef:=λj=>by
   show a.tmps.toList.getD j undef=_;rw[List.getD_eq_getElem?_getD,Array.getElem?_toList,Array.getD_eq_getD_getElem?]
  have hle:bN.size<=M:=by rw[fN];exact vE
  have tX:Rl W M aj rG (adh g N σ xs) { tmps:=bN++Array.replicate (fn.ntmps-bN.size) undef,defers:=[] } w:=by
   refine⟨⟨E.below.os,E.below.tape,E.below.output,E.below.size,E.below.block⟩,E.cL,λr x C=>?_,λj=>?_,by simp[hN];omega,rfl,λr l hr=>?_,λr hr=>?_⟩
   ·have C:bO (σ.drop g).m g (some (.gh ((List.range N).map λj=>(σ.t j).drop g))) r=some x:=C;by_cases D:r=g
    ·subst D;rw[bR]at C;injection C with C;subst C
     refine .gh us _ (bR _ _ _) λj x T=>?_
     rw[List.getElem?_map]at T;cases hr:(List.range N)[j]? with
     |none=>rw[hr]at T;cases T
     | some j'=>
      rw[hr]at T;injection T with T;obtain⟨cU,mg⟩:=List.getElem?_eq_some_iff.1 hr;rw[List.getElem_range]at mg;subst mg T;rw[jh];exact(E.tmp j).dX bW
    ·rw[cw _ _ _ D]at C;have C:(bif Nat.beq r g then none else (σ.m r).map (aU.drop g))=some x:=C;cases O:Nat.beq r g with
     |true=>rw[O]at C;cases C
     | false=>
      rw[O,cond_false]at C;cases hm:σ.m r with
      |none=>rw[hm]at C;cases C
      | some y=>
       rw[hm]at C;injection C with C;subst C;exact(E.root r y hm).dX bW D
   ·show RA w w0.heap.size aj rG (((xs.map (A.drop g))[j]?).getD .undef) _;rw[List.adl];by_cases T:j<bN.size
    ·have e1:(bN++Array.replicate (fn.ntmps-bN.size) undef).getD j undef=bN.getD j undef:=by
      rw[Array.getD_eq_getD_getElem?,Array.getElem?_append_left T,Array.getD_eq_getD_getElem?]
     show RA w w0.heap.size aj rG _ ((bN++Array.replicate (fn.ntmps-bN.size) undef).getD j undef);rw[e1];exact(hv j).dX bW
    ·rw[List.getElem?_eq_none (by omega:xs.length<=j)];trivial
   ·have hr:(if r=g then some (Loc.bN us)else w0.F r)=some l:=hr;by_cases D:r=g
    ·rw[if_pos D]at hr;injection hr with hr;rw[D,<-hr];exact bR _ _ _
    ·rw[if_neg D]at hr;rw[bW r D];exact E.fix r l hr
   ·show (if r=g then some (Loc.bN us)else w0.F r)=none;rw[if_neg (by omega)];rcases hr with hr | hr
    ·exact w0.low r (by omega)
    ·exact E.cT r (.inr hr)
  refine calls_of_wp hf O ?_
  refine wp_mono (G7 (w0:=W) dB code _ (λe τ=>some (e,τ)) (h2 _ _) (λp hp b O=>by cases O) _ w ⟨aj,rG,tX⟩) λe' U w' Z=>?_
  obtain⟨cy,ny,ax,ρ',L⟩:=Z;injection ny with ny;injection ny with k1 k2;subst k1 k2;have Gw:ρ' g = .bN us:=L.fix g _ (if_pos rfl);let dY:=bO ρ' g ((w0.F g).getD (.az 0 0))
  have De:∀r,r≠g->dY r=ρ' r:=λr hr=>cw _ _ _ hr
  obtain⟨vJ,Wb,iM⟩:=Gh (w0:=W) (N:=M) _ _ pn;injection Wb with Wb;subst Wb;obtain⟨vs,cV,hlen,iN⟩:=iM ax ρ' U w' L;have aqj:(fn.results.mapM (rI U.tmps)).run P w' = .ok vs.toArray w':=by
   rw[Array.mapM_eq_mapM_toList];simp[cV]
  have jR:results fn U.tmps=(do let vs <-fn.results.mapM (rI U.tmps);pure (if h:vs.size=1 then vs[0]else .tuple vs)):=by
   unfold results;congr 1
  have hRf:Rl w0 N ax dY ⟨λj=>((ys.map (A.drop g))[j]?).getD .undef,(cy.drop g).m⟩ a w':=by
   refine⟨⟨L.below.os,L.below.tape,L.below.output,L.below.size,L.below.block⟩,L.cL,λr x C=>?_,λj=>?_,E.size,E.defers,λr l hr=>?_,E.cT⟩
   ·have C:(bif Nat.beq r g then none else (cy.m r).map (aU.drop g))=some x:=C;cases O:Nat.beq r g with
    |true=>rw[O]at C;cases C
    | false=>
     have D:r≠g:=by rintro rfl;simp at O
     rw[O,cond_false]at C;cases hm:cy.m r with
     |none=>rw[hm]at C;cases C
     | some y=>
      rw[hm]at C;injection C with C;subst C;exact(L.root r y hm).dX De D
   ·show RA w' w0.heap.size ax dY (((ys.map (A.drop g))[j]?).getD .undef) _;rw[List.adl];cases hyj:ys[j]? with
    |none=>trivial
    | some y=>
     have dN:=L.root g _ hy;generalize Y:aU.gh ys=z at dN;cases dN with
     |az=>cases Y
     |sl=>cases Y
     |mp=>cases Y
     | gh Ml xs' vQ hx3=>
      injection Y with Y;subst Y;rw[Gw]at vQ;injection vQ with vQ;subst vQ;have:=hx3 j y hyj;rw[jh]at this;exact this.dX De
   ·by_cases D:r=g
    ·subst D;show bO ρ' r ((w0.F r).getD (.az 0 0)) r=l;rw[bR,hr];rfl
    ·rw[De r D];exact L.fix r l ((if_neg D).trans hr)
  have fin:U.defers=[]/\∃ v,(results fn U.tmps).run P w' = .ok v w'/\∃ yz ax ρ',Ending.returned v=Ending.returned yz/\Rl w0 N ax ρ' ⟨λj=>((ys.map (A.drop g))[j]?).getD .undef,(cy.drop g).m⟩ a w'/\RA w' w0.heap.size ax ρ' (A5 g vJ) yz:=
   ⟨L.defers,_,by rw[jR,Sem.run_bind,aqj,Result.andThen_ok,Sem.run_pure],_,ax,dY,rfl,hRf,RP.A5 De hlen iN⟩
  rcases hex with rfl|rfl
  ·exact fin
  ·exact fin
end
def rZ:Nat:=1000000000
def stays(n:Nat):Bool:=Nat.ble 20000 (n % rZ)
def aqk:60000<=rZ:=Nat.le_of_ble_eq_true rfl
def oB(n:Nat):Nat:=bif stays n then n else n+rZ
def yB(n:Nat):ah Nat:=bif stays n then some n else bif Nat.ble rZ n && !stays (n-rZ)then some (n-rZ)else none
def jE:aa Nat->aa Nat
 |[]=>[]
 |[r]=>[oB r]
 |x::y::k=>x::jE (y::k)
def Lf.up:Lf->Lf
 |.v x=>.v x
 |.own k=>.own (jE k)
 |.dead=>.dead
def A.up:A->A
 |.undef=>.undef
 |.skip=>.skip
 |.lf x=>.lf x.up
 |.agg cs=>.agg (cs.map Lf.up)
 |.dW xs=>.dW (xs.map λp=>(p.1,p.2.map Lf.up))
 |.ptr k=>.ptr (jE k)
 |.aG r j=>.aG (oB r) j
 |.gS cs=>.gS cs
 |.ld f cs=>.ld f cs
 |.pk r n=>.pk (oB r) n
 |.view k s i j=>.view (jE k) s i j
 |.fn f cap=>.fn f (cap.map λp=>(oB p.1,p.2))
def aU.up:aU->aU
 |.az cs=>.az (cs.map Lf.up)
 |.sl y=>.sl y
 |.mp l=>.mp l
 |.gh xs=>.gh (xs.map A.up)
def S.up(σ:S):S:=⟨λk=>(σ.t k).up,λn=>match yB n with
 |some r=>(σ.m r).map aU.up
 |none=>none⟩
def upI(c:rS):rS:=⟨λX N σ xs k=>c.run X N σ.up (xs.map A.up) λC y=>k C.up y.up⟩
section
variable {P:Program} {w w':World} {w0:Wd} {B N:Nat} {aj ax:bw} {ρ ρ':Nat->Loc} {σ:S} {a:Act} {X:Type}
def aql(r:Nat):yB (oB r)=some r:=by
 unfold yB oB;cases h:stays r with
 |true=>simp_all
 | false=>
  have C:stays (r+rZ)=false:=by
   unfold stays at h ⊢;simp_all
  have D:Nat.ble rZ (r+rZ)=true:=Nat.ble_eq_true_of_le (Nat.le_add_left _ _);simp[*]
def aqm{n r:Nat}(h:yB n=some r):n=oB r:=by
 unfold yB at h;cases D:stays n with
 | true=>
  rw[D]at h;injection h with h;subst h;simp[oB,D]
 | false=>
  rw[D,cond_false]at h;cases C:(Nat.ble rZ n && !stays (n-rZ))with
  |false=>simp_all
  | true=>
   rw[C]at h;have h:=Option.some.inj h;rw[Bool.and_eq_true]at C;have L:=Nat.le_of_ble_eq_true C.1;have E:stays r=false:=by rw[<- h];simpa using C.2
   simp[oB,E,cond_false];omega
def kI(aj:bw):bw:=λb=>(aj b).map jE
def ug(ρ:Nat->Loc):Nat->Loc:=λn=>match yB n with
 |some r=>ρ r
 |none=>ρ n
def A7(r:Nat):ug ρ (oB r)=ρ r:=by unfold ug;rw[aql]
def aqn{k:aa Nat}(h:k≠[]):jE k≠[]:=by
 match k with
 |[r]=>simp[jE]
 |x::y::k=>simp[jE]
def DD{x:Nat}{k:aa Nat}(h:k≠[]):jE (x :: k)=x :: jE k:=by
 match k with
 |[]=>exact absurd rfl h
 |y::k=>rfl
def adm(x y:Nat)(k:aa Nat):∃ C D,jE (x :: y :: k)=x :: C :: D:=by
 match k with
 |[]=>exact⟨_,_,rfl⟩
 |z::k=>exact⟨y,_,rfl⟩
def Wc:∀ (k:aa Nat) (ad:Addr),addrAt w aj ρ k=some ad -> addrAt w (kI aj) (ug ρ) (jE k)=some ad
 |[],_,h=>by simp[addrAt]at h
 | [j,i,s,r],ad,h=>by
  simp only[addrAt]at h;simp only[jE,addrAt,A7];split at h
  ·rename_i b n c C;split at h
   next D=>rw[if_pos (by simp[kI,D,jE])];exact h
   ·cases h
  ·cases h
 | j :: i :: s :: x :: y :: q,ad,h=>by
  simp only[addrAt]at h;split at h
  ·rename_i b n c C;split at h
   ·rename_i D;cases E:addrAt w aj ρ (x :: y :: q)with
    |none=>simp_all
    | some O=>
     have L:=Wc (x::y::q) O E;have e:kI aj b=some (jE (x::y::q)):=by simp[kI,D]
     rw[DD (by simp),DD (by simp),DD (by simp)];rw[E]at C;obtain⟨U,Y,T⟩:=adm x y q;rw[T]at L e ⊢;simp only[addrAt,L,C,e,if_true];exact h
   ·cases h
  ·cases h
def adn{k:aa Nat}{u:Value}(h:cH w aj ρ k=some u):cH w (kI aj) (ug ρ) (jE k)=some u:=by
 match k with
 | [r]=>
  simp[jE,cH,A7];exact h
 | x :: y :: k=>
  simp[cH]at h;cases C:addrAt w aj ρ _ with
  |none=>rw[C]at h;cases h
  | some ad=>
   have:=Wc _ _ C;obtain⟨E,L,D⟩:=adm x y k;rw[D]at this ⊢;simp[cH,this];simp_all
def We{b:Nat}(h:aj b=none):kI aj b=none:=by simp[kI,h]
def RV.up(E:∀ b k,aj b=some k->k≠[]){k:aa Nat}{x:V}{v:Value}(h:RV w B aj k x v):RV w B (kI aj) (jE k) x v:=
 h.map (Q:=λk C=>C=jE k) (Nat.le_refl _) (λb _ h=>⟨rfl,We h⟩) (λb k C _ D e=>by
  subst e;exact⟨rfl,by simp[kI,D],λj i s=>by rw[DD (by simp),DD (by simp),DD (E b k D)]⟩) (.inr rfl)
def dm.up(C:∀ b k,aj b=some k->k≠[]){x:Lf}{u:Value}(h:dm w B aj ρ x u):dm w B (kI aj) (ug ρ) x.up u:=by
 cases x with
 |v x=>exact⟨h.1,RV.up C h.2⟩
 |own k=>exact⟨h.1,adn h.2⟩
 |dead=>trivial
def dM.up(E:∀ b k,aj b=some k -> k≠[]){cs:aa Lf}{us:Array Value}(h:dM w B aj ρ cs us):dM w B (kI aj) (ug ρ) (cs.map Lf.up) us:=by
 refine⟨by rw[List.length_map];exact h.1,λj x C=>?_⟩
 rw[List.getElem?_map]at C;cases D:cs[j]? with
 |none=>simp_all
 | some z=>
  rw[D]at C;injection C with C;subst C;obtain⟨u,L,O⟩:=h.2 j z D;exact⟨u,L,O.up E⟩
def RP.up(C:∀ b k,aj b=some k->k≠[]){p:Bool×aa Lf}{u:Value}(h:RP w B aj ρ p u):RP w B (kI aj) (ug ρ) (p.1,p.2.map Lf.up) u:=by
 obtain⟨b,cs⟩:=p;cases b with
 | true=>
  obtain⟨us,rfl,h⟩:=h;exact⟨us,rfl,dM.up C h⟩
 |false=>exact dM.up C h
def RA.up(L:∀ b k,aj b=some k -> k≠[]){x:A}{u:Value}(h:RA w B aj ρ x u):RA w B (kI aj) (ug ρ) x.up u:=by
 cases x with
 |undef=>trivial
 |skip=>exact h
 |lf x=>exact dm.up L h
 |agg cs=>exact RP.up L (p:=(true,cs)) h
 | dW xs=>
  obtain⟨us,rfl,D,E⟩:=h
  refine⟨us,rfl,by rw[List.length_map];exact D,λj p C=>?_⟩
  rw[List.getElem?_map]at C;cases O:xs[j]? with
  |none=>simp_all
  | some z=>
   rw[O]at C;injection C with C;subst C;obtain⟨v,T,U⟩:=E j z O;exact⟨v,T,U.up L⟩
 | ptr k=>
  obtain⟨ad,rfl,h⟩:=h;exact⟨ad,rfl,Wc _ _ h⟩
 | aG r j=>
  obtain⟨b,off,D,E⟩:=h;exact⟨b,off,(A7 r).trans D,E⟩
 | gS cs=>
  obtain⟨b,off,Y,Z,g3,g4⟩:=h
  refine⟨b,off,Y,Z,We g3,λj x hx=>?_⟩
  obtain⟨f1,v,f2,f3⟩:=g4 j x hx;exact⟨f1,v,f2,RV.up L f3⟩
 | ld f cs=>
  obtain⟨pv,e0,h⟩:=h;refine⟨pv,e0,?_⟩;obtain⟨b,off,Y,Z,g3,g4⟩:=h
  refine⟨b,off,Y,Z,We g3,λj x hx=>?_⟩
  obtain⟨f1,v,f2,f3⟩:=g4 j x hx;exact⟨f1,v,f2,RV.up L f3⟩
 | pk r n=>
  obtain⟨b,D,E⟩:=h;exact⟨b,(A7 r).trans D,E⟩
 | view k s i j=>
  obtain⟨A,n,c,D,E⟩:=h;exact⟨A,n,c,adn D,E⟩
 | fn f cap=>
  obtain⟨vs,rfl,D,E⟩:=h
  refine⟨vs,rfl,by rw[List.length_map];exact D,λj p C=>?_⟩
  rw[List.getElem?_map]at C;cases O:cap[j]? with
  |none=>simp_all
  | some z=>
   rw[O]at C;injection C with C;subst C;obtain⟨b,off,T,U⟩:=E j z O;exact⟨b,off,(A7 _).trans T,U⟩
def dx.up(U:∀ b k,aj b=some k -> k≠[]){r:Nat}{x:aU}(h:dx w B aj ρ r x):dx w B (kI aj) (ug ρ) (oB r) x.up:=by
 have T:=A7 (ρ:=ρ) r;have Z:∀{b},aj b=some [r] -> kI aj b=some [oB r]:=λh=>by simp[kI,h,jE]
 cases h with
 | az b off cells e cs us C L Y hs hc=>
  refine .az b off cells e _ us (T.trans C) (Z L) Y (by rw[List.length_map];exact hs) λj x D=>?_
  rw[List.getElem?_map]at D;cases E:cs[j]? with
  |none=>simp_all
  | some z=>
   rw[E]at D;injection D with D;subst D;exact⟨(hc j z E).1,(hc j z E).2.up U⟩
 |sl v y C L=>exact .sl v y (T.trans C) (RV.up U L)
 |mp b c es l C L Y he=>exact .mp b c es l (T.trans C) (Z L) Y he
 | gh us xs C D=>
  refine .gh us _ (T.trans C) λj x O=>?_
  rw[List.getElem?_map]at O;cases E:xs[j]? with
  |none=>simp_all
  | some z=>
   rw[E]at O;injection O with O;subst O;exact RA.up U (D j z E)
def Rl.up(h:Rl w0 N aj ρ σ a w):Rl w0 N (kI aj) (ug ρ) σ.up a w:=by
 have T:=λb k D=>(h.cL b k D).2.2
 refine⟨h.below,λb k D=>?_,λn x C=>?_,λk=>RA.up T (h.tmp k),h.size,h.defers,λr l E=>?_,h.cT⟩
 ·unfold kI at D;cases U:aj b with
  |none=>simp_all
  | some q=>
   rw[U]at D;injection D with D;obtain⟨L,O,Z⟩:=h.cL b q U;exact⟨L,O,by rw[<- D];exact aqn Z⟩
 ·have C:(match yB n with | some r=>(σ.m r).map _ | none=>none)=some x:=C;cases Y:yB n with
  |none=>simp_all
  | some r=>
   rw[Y]at C;have C:(σ.m r).map _=some x:=C;cases hm:σ.m r with
   |none=>simp_all
   | some y=>
    rw[hm]at C;injection C with C;subst C;rw[aqm Y];exact(h.root r y hm).up T
 ·have hs:stays r=true:=by
   have L:20000 <= r:=Nat.le_of_not_lt λcU=>by rw[w0.low r cU]at E;cases E
   have O:r<60000:=Nat.lt_of_not_le λhle=>by rw[h.cT r (.inr hle)]at E;cases E
   unfold stays;rw[Nat.mod_eq_of_lt (Nat.lt_of_lt_of_le O aqk)];exact Nat.ble_eq_true_of_le L
  have hu:oB r=r:=by simp[oB,hs]
  have:=A7 (ρ:=ρ) r;rw[hu]at this;rw[this];exact h.fix r l E
def aqo{f:Nat}{c:rS}(h:jk P f c):jk P f (upI c):=by
 refine⟨λN σ xs X Y k g=>h.1 N σ.up (xs.map A.up) X Y _ g,λN σ xs τ z O w0 aj ρ a w bN E T U=>?_⟩
 obtain⟨Z,y,C,h2⟩:=(h.1 N σ.up (xs.map A.up)).lA O;injection C with C;injection C with h4 h5;subst h4 h5;have h3:=h.2 N σ.up (xs.map A.up) Z y (h2 _ _);have cJ:∀b k,aj b=some k->k≠[]:=λb k D=>(E.cL b k D).2.2
 refine(h3 w0 _ _ a w bN E.up (by rw[List.length_map];exact T) λi=>?_).mono λe w' hp=>?_
 ·rw[List.getElem?_map];have:=U i;cases hx:xs[i]? with
  |none=>trivial
  | some x=>
   rw[hx]at this;exact RA.up cJ this
 ·obtain⟨v,ax,ρ',he,L,hy⟩:=hp;exact⟨v,_,_,he,L.up,RA.up (λb k D=>(L.cL b k D).2.2) hy⟩
end
def aQ:Nat:=4611686018427387904
def pK(c:Code)(id:Nat):Code:=match (occs c).lookup id with
 |some (.loop b)=>b
 |_=>.skip
def aN(fn:Func):Code:=fn.body.getD .skip
def kJ(l:aa (Nat×ov)):dJ:=λf=>l.lookup f
def A8(P:Program):aa (Nat×ov)->Prop
 |[]=>True
 |(f,c)::l=>(enters P f/\UR P f c)/\A8 P l
def uh{P:Program}:∀ (l:aa (Nat×ov)),A8 P l -> eR P (kJ l)
 |[],_=>λf c h=>by cases h
 | (E,L) :: l,⟨O,D⟩=>λf c h=>by
  have C:List.lookup f _=some c:=h;rw[List.lookup_cons]at C;split at C
  ·simp_all
  ·exact uh l D f c C
def iS(l:aa (Nat×qH)):lI:=λid=>l.lookup id
def Wf(P:Program)(N:Nat)(code:Code):aa (Nat×qH)->Prop
 |[]=>True
 |(id,b)::l=>(∃c,(occs code).lookup id=some c/\AQ P N (.block id c) b)/\Wf P N code l
def ids(l:aa (Nat×Code)):Bool:=(l.map (·.1)).all λi=>Nat.beq ((l.filter λp=>Nat.beq p.1 i).length) 1
def ado:∀ (l:aa (Nat×Code)) (p:Nat×Code),(∀ q∈l,q.1=p.1 -> q=p) -> p∈l -> l.lookup p.1=some p.2
 |[],p,_,h=>by cases h
 | q :: l,p,C,h=>by
  rw[List.lookup_cons];by_cases D:p.1=q.1
  ·simp_all
  ·have E:(p.1==q.1)=false:=by simpa using D
   rw[E];rcases List.mem_cons.1 h with rfl|h
   ·simp_all
   ·exact ado l p (λq L=>C q (.tail _ L)) h
def aqp{l:aa (Nat×Code)}(h:ids l=true){p q:Nat×Code}(D:p∈l)(E:q∈l)(L:q.1=p.1):q=p:=by
 have C:=List.all_eq_true.1 h p.1 (List.mem_map_of_mem D);have C:=Nat.eq_of_beq_eq_true C;have O:p∈l.filter λr=>Nat.beq r.1 p.1:=List.mem_filter.2 ⟨D,by simp⟩
 have T:q∈l.filter λr=>Nat.beq r.1 p.1:=List.mem_filter.2 ⟨E,by simp[L]⟩
 obtain⟨z,U⟩:=List.length_eq_one_iff.1 C
 grind
def adp{P:Program}{N:Nat}{code:Code}(hi:ids (occs code)=true):∀ (l:aa (Nat×qH)),Wf P N code l -> ow P N (iS l) (occs code)
 |[],_=>λp D b h=>by cases h
 | (id,T) :: l,⟨⟨c,U,Y⟩,L⟩=>λp D b h=>by
  have C:List.lookup p.1 _=some b:=h;rw[List.lookup_cons]at C;split at C
  ·rename_i E;have E:p.1=id:=by simpa using E
   injection C with C;subst C;have:=ado _ p (λq O e=>aqp hi D O e) D;simp_all
  ·exact adp hi l L p D b C
def pL{P:Program}{N:Nat}{l:aa (Nat×Code)}:ow P N (iS []) l:=λp C b h=>by cases h
def ci(P:Program)(fn:Func)(C:Nat)(l:aa (Nat×ov)):rS:=adi P fn.ntmps (59000+C) (kJ l) (aN fn) fn.results
def pM{P:Program}{f:Nat}{fn:Func}(C:Nat)(l:aa (Nat×ov))(D:P.funcs[f]?=some fn)(E:A8 P l)(L:fn.body=some (aN fn):=by kernel_rfl)(O:Nat.ble fn.ntmps 20000=true:=by kernel_rfl)(T:Nat.ble C 900=true:=by kernel_rfl)(U:(fn.name == "runtime.NumGoroutine")=false:=by kernel_rfl):enters P f/\jk P f (ci P fn C l):=
 aqi D L rfl (Nat.le_of_ble_eq_true O) U ⟨by omega,by have:=Nat.le_of_ble_eq_true T;omega⟩ (uh l E)
def cj(P:Program)(fn:Func)(C:Nat)(l:aa (Nat×ov)):rS:=upI (ci P fn C l)
def qL{P:Program}{f:Nat}{fn:Func}{C:Nat}{l:aa (Nat×ov)}(h:enters P f/\jk P f (ci P fn C l)):enters P f/\jk P f (cj P fn C l):=⟨h.1,aqo h.2⟩
def NK{P:Program}{f:Nat}{fn:Func}{ai:aa (Bool×TC)}{ro:aa (Bool×TC×Nat)}{F:jm ai->ah (gB ro)}(N:Nat)(l:aa (Nat×ov))(b:aa (Nat×qH))(C:P.funcs[f]?=some fn)(D:A8 P l)(E:ow P N (iS b) (occs (aN fn)))(L:∀x,oz P N (kJ l) (iS b) (aN fn) fn.results (fq ai x) (jS ro)=F x)(O:fn.body=some (aN fn):=by kernel_rfl)(T:fn.ntmps=N:=by kernel_rfl)(U:(fn.name == "runtime.NumGoroutine")=false:=by kernel_rfl)(Y:Nat.ble ai.length N=true:=by kernel_rfl)(Z:jV ro=true:=by kernel_rfl):enters P f/\gu P f (fV ai ro F):=ap6 C O T U Y Z (uh l D) E L
def A9{P:Program}{f:Nat}{fn:Func}{t:TC}{g:Nat}{F:aa (T t)->ah (aa (T t))}(N:Nat)(l:aa (Nat×ov))(b:aa (Nat×qH))(C:P.funcs[f]?=some fn)(D:A8 P l)(E:ow P N (iS b) (occs (aN fn)))(L:∀ x:aa (T t),oz P N (kJ l) (iS b) (aN fn) fn.results [(false,[.sl t 0 false x])] (jS [(false,.sl t,g)])=F x)
  (O:oz P N (kJ l) (iS b) (aN fn) fn.results [(false,[.nil])] (jS [(false,.sl t,g)])=some ([]:aa (T t)):=by kernel_rfl) (U:oz P N (kJ l) (iS b) (aN fn) fn.results [(false,[.sl t 0 true []])] (jS [(false,.sl t,g)])=some ([]:aa (T t)):=by kernel_rfl)
  (Y:fn.body=some (aN fn):=by kernel_rfl) (Z:fn.ntmps=N:=by kernel_rfl) (A3:(fn.name == "runtime.NumGoroutine")=false:=by kernel_rfl) (Hi:Nat.ble 1 N=true:=by kernel_rfl) (dN:jV [(false,.sl t,g)]=true:=by kernel_rfl):enters P f/\gu P f (fV [(false,.sl t)] [(false,.sl t,g)] λx=>bif ir x.1 then some ([]:aa (T t))else F x.1):=ap7 C Y Z A3 Hi dN (uh l D) E L O U
def gV{α β:Type}(a:α)(f:α->β):β:=f a
def adq{P:Program}{id:Nat}{body:Code}{C:bE}{D:aa (Nat×bE)}{F:C.St->ah (C.St⊕rX D)}{fuel:C.St->Nat}(N:Nat)(l:aa (Nat×ov))(b:aa (Nat×qH))(E:A8 P l)(L:ow P N (iS b) (occs body))(O:∀x,DA P N (kJ l) (iS b) body C D x=F x):AQ P N (.block id (.loop body)) (NC id C D F fuel):=ap2 (uh l E) L O
abbrev W6 (x:Int):Int:=IntKind.i64.wrap x
/-! Words for what printed functions say often. -/
def xI{α β:Type}(l:aa α)(i:Int)(k:α->ah β):ah β:=if h:0<=i/\i.toNat<l.length then (let e:=l[i.toNat]'h.2;k e)else none
def xC{α β:Type}(l:aa α)(i:Int)(k:ah β):ah β:=if h:0<=i/\i.toNat<l.length then k else none
def xM{α β:Type}(l:aa α)(i:Int)(k:α->ah β):ah β:=if h:i.toNat<l.length then (let e:=l[i.toNat]'h;k e)else none
def xL{α β:Type}(l:aa α)(i:Int)(k:α->ah β):ah β:=if h:0<=i/\i.toNat<l.length then (if h:i.toNat<l.length then (let e:=l[i.toNat]'h;k e)else none)else none
def xZ{α:Type}(l:aa α):Bool:=bD (([]:aa α).length+l.length)
def xA{α:Type}(l:aa α):aa α:=([]:aa α)++l
def aW{S A C:Type}(L:S->ah (S⊕(A⊕Empty)))(s:S)(f:A->ah C):ah C:=(iter L aQ s).bind (Sum.elim f (λz=>nomatch z))
def br{S A B C:Type}(L:S->ah (S⊕(A⊕(B⊕Empty))))(s:S)(f:A->ah C)(g:B->ah C):ah C:=(iter L aQ s).bind (Sum.elim f (Sum.elim g (λz=>nomatch z)))
def xG{S E:Type}(s:S):ah (S⊕E):=some (.inl s)
def aq{S A E:Type}(v:A):ah (S⊕(A⊕E)):=some (.inr (.inl v))
def aM{S A B E:Type}(v:B):ah (S⊕(A⊕(B⊕E))):=some (.inr (.inr (.inl v)))
abbrev tI:Tm:=.lf (.int .i64)
abbrev tB:Tm:=.lf (.bool)
structure KC (P:Program) where
 f:Nat
 c:ov
 ok:enters P f/\UR P f c
def KL{P:Program}(l:aa (KC P)):aa (Nat×ov):=l.map λk=>(k.f,k.c)
def sg{P:Program}:∀ l:aa (KC P),A8 P (KL l)
 |[]=>trivial
 |k::l=>⟨k.ok,sg l⟩
structure BK (P:Program) (N:Nat) (code:Code) where
 id:Nat
 b:qH
 ok:AQ P N (.block id (.loop (pK code id))) b
section
variable {P:Program} {f N:Nat} {fn:Func} {code:Code}
def BL(l:aa (BK P N code)):aa (Nat×qH):=l.map λk=>(k.id,k.b)
def BC(l:aa (BK P N code)):aa (ah Code):=l.map λk=>(occs code).lookup k.id
def BD(l:aa (BK P N code)):aa (ah Code):=l.map λk=>some (.loop (pK code k.id))
def adr:∀ l:aa (BK P N code),BC l=BD l -> Wf P N code (BL l)
 |[],_=>trivial
 | k :: l,h=>by
  unfold BC BD at h;injection h with C D;exact⟨⟨_,C,k.ok⟩,adr l D⟩
def BT(l:aa (BK P N code))(C:BC l=BD l)(hi:ids (occs code)=true):ow P N (iS (BL l)) (occs code):=adp hi _ (adr l C)
def lB(id:Nat)(C:bE)(D:aa (Nat×bE))(F:C.St->ah (C.St⊕rX D)):qH:=NC id C D F λ_=>aQ
def lp{body:Code}{id:Nat}{C:bE}{D:aa (Nat×bE)}{F:C.St->ah (C.St⊕rX D)}(l:aa (KC P))(E:∀x,DA P N (kJ (KL l)) (iS []) body C D x=F x:=by intro x;kernel_rfl):AQ P N (.block id (.loop body)) (lB id C D F):=adq N (KL l) [] (sg l) pL E
def lq{id:Nat}{C:bE}{D:aa (Nat×bE)}{F:C.St->ah (C.St⊕rX D)}(l:aa (KC P))(b:aa (BK P N code))(E:BC b=BD b:=by kernel_rfl)(hi:ids (occs code)=true:=by kernel_rfl)(L:∀x,DA P N (kJ (KL l)) (iS (BL b)) code C D x=F x:=by intro x;kernel_rfl):AQ P N (.block id (.loop code)) (lB id C D F):=adq N (KL l) (BL b) (sg l) (BT b E hi) L
def kp{ai:aa (Bool×TC)}{ro:aa (Bool×TC×Nat)}{F:jm ai->ah (gB ro)}(N:Nat)(l:aa (KC P))(C:P.funcs[f]?=some fn)(D:∀x,oz P N (kJ (KL l)) (iS []) (aN fn) fn.results (fq ai x) (jS ro)=F x:=by intro x;kernel_rfl)(E:fn.body=some (aN fn):=by kernel_rfl)(L:fn.ntmps=N:=by kernel_rfl)(O:(fn.name == "runtime.NumGoroutine")=false:=by kernel_rfl)(T:Nat.ble ai.length N=true:=by kernel_rfl)(U:jV ro=true:=by kernel_rfl):enters P f/\gu P f (fV ai ro F):=NK N (KL l) [] C (sg l) pL D E L O T U
def kq{ai:aa (Bool×TC)}{ro:aa (Bool×TC×Nat)}{F:jm ai->ah (gB ro)}(N:Nat)(l:aa (KC P))(b:aa (BK P N (aN fn)))(C:P.funcs[f]?=some fn)(D:BC b=BD b:=by kernel_rfl)(hi:ids (occs (aN fn))=true:=by kernel_rfl)(E:∀x,oz P N (kJ (KL l)) (iS (BL b)) (aN fn) fn.results (fq ai x) (jS ro)=F x:=by intro x;kernel_rfl)(L:fn.body=some (aN fn):=by kernel_rfl)(O:fn.ntmps=N:=by kernel_rfl)(T:(fn.name == "runtime.NumGoroutine")=false:=by kernel_rfl)(U:Nat.ble ai.length N=true:=by kernel_rfl)(Y:jV ro=true:=by kernel_rfl):enters P f/\gu P f (fV ai ro F):=NK N (KL l) (BL b) C (sg l) (BT b D hi) E L O T U Y
def km{ps:aa PK}{ro:aa (Bool×TC×Nat)}{F:kA ps->ah (gB ro×qy (ep ps))}(N:Nat)(l:aa (KC P))(C:P.funcs[f]?=some fn)(D:∀x,A4 P N (kJ (KL l)) (iS []) (aN fn) fn.results (lE ps x) (iP ps 0 x) (DB (ep ps) ro)=F x:=by intro x;kernel_rfl)(E:fn.body=some (aN fn):=by kernel_rfl)(L:fn.ntmps=N:=by kernel_rfl)(O:(fn.name == "runtime.NumGoroutine")=false:=by kernel_rfl)(T:Nat.ble ps.length N=true:=by kernel_rfl)(U:Nat.ble N 20000=true:=by kernel_rfl)(Y:jV ro=true:=by kernel_rfl):enters P f/\rL P f ⟨ps,ro,F⟩:=NH C E L O T U Y (uh _ (sg l)) pL D
def kn{ps:aa PK}{ro:aa (Bool×TC×Nat)}{F:kA ps->ah (gB ro×qy (ep ps))}(N:Nat)(l:aa (KC P))(b:aa (BK P N (aN fn)))(C:P.funcs[f]?=some fn)(D:BC b=BD b:=by kernel_rfl)(hi:ids (occs (aN fn))=true:=by kernel_rfl)(E:∀x,A4 P N (kJ (KL l)) (iS (BL b)) (aN fn) fn.results (lE ps x) (iP ps 0 x) (DB (ep ps) ro)=F x:=by intro x;kernel_rfl)(L:fn.body=some (aN fn):=by kernel_rfl)(O:fn.ntmps=N:=by kernel_rfl)(T:(fn.name == "runtime.NumGoroutine")=false:=by kernel_rfl)(U:Nat.ble ps.length N=true:=by kernel_rfl)(Y:Nat.ble N 20000=true:=by kernel_rfl)(Z:jV ro=true:=by kernel_rfl):enters P f/\rL P f ⟨ps,ro,F⟩:=NH C L O T U Y Z (uh _ (sg l)) (BT b D hi) E
def aJ(ai:aa (Bool×TC))(ro:aa (Bool×TC×Nat))(F:jm ai->ah (gB ro))(N:Nat)(l:aa (KC P))(C:P.funcs[f]?=some fn)(D:∀x,oz P N (kJ (KL l)) (iS []) (aN fn) fn.results (fq ai x) (jS ro)=F x:=by intro x;kernel_rfl)(E:fn.body=some (aN fn):=by kernel_rfl)(L:fn.ntmps=N:=by kernel_rfl)(O:(fn.name == "runtime.NumGoroutine")=false:=by kernel_rfl)(T:Nat.ble ai.length N=true:=by kernel_rfl)(U:jV ro=true:=by kernel_rfl):KC P:=⟨f,.p (fV ai ro F),NK N (KL l) [] C (sg l) pL D E L O T U⟩
def bJ(ai:aa (Bool×TC))(ro:aa (Bool×TC×Nat))(F:jm ai->ah (gB ro))(N:Nat)(l:aa (KC P))(b:aa (BK P N (aN fn)))(C:P.funcs[f]?=some fn)(D:BC b=BD b:=by kernel_rfl)(hi:ids (occs (aN fn))=true:=by kernel_rfl)(E:∀x,oz P N (kJ (KL l)) (iS (BL b)) (aN fn) fn.results (fq ai x) (jS ro)=F x:=by intro x;kernel_rfl)(L:fn.body=some (aN fn):=by kernel_rfl)(O:fn.ntmps=N:=by kernel_rfl)(T:(fn.name == "runtime.NumGoroutine")=false:=by kernel_rfl)(U:Nat.ble ai.length N=true:=by kernel_rfl)(Y:jV ro=true:=by kernel_rfl):KC P:=⟨f,.p (fV ai ro F),NK N (KL l) (BL b) C (sg l) (BT b D hi) E L O T U Y⟩
def wm(ps:aa PK)(ro:aa (Bool×TC×Nat))(F:kA ps->ah (gB ro×qy (ep ps)))(N:Nat)(l:aa (KC P))(C:P.funcs[f]?=some fn)(D:∀x,A4 P N (kJ (KL l)) (iS []) (aN fn) fn.results (lE ps x) (iP ps 0 x) (DB (ep ps) ro)=F x:=by intro x;kernel_rfl)(E:fn.body=some (aN fn):=by kernel_rfl)(L:fn.ntmps=N:=by kernel_rfl)(O:(fn.name == "runtime.NumGoroutine")=false:=by kernel_rfl)(T:Nat.ble ps.length N=true:=by kernel_rfl)(U:Nat.ble N 20000=true:=by kernel_rfl)(Y:jV ro=true:=by kernel_rfl):KC P:=⟨f,.m ⟨ps,ro,F⟩,NH C E L O T U Y (uh _ (sg l)) pL D⟩
def iT(ps:aa PK)(ro:aa (Bool×TC×Nat))(F:kA ps->ah (gB ro×qy (ep ps)))(N:Nat)(l:aa (KC P))(b:aa (BK P N (aN fn)))(C:P.funcs[f]?=some fn)(D:BC b=BD b:=by kernel_rfl)(hi:ids (occs (aN fn))=true:=by kernel_rfl)(E:∀x,A4 P N (kJ (KL l)) (iS (BL b)) (aN fn) fn.results (lE ps x) (iP ps 0 x) (DB (ep ps) ro)=F x:=by intro x;kernel_rfl)(L:fn.body=some (aN fn):=by kernel_rfl)(O:fn.ntmps=N:=by kernel_rfl)(T:(fn.name == "runtime.NumGoroutine")=false:=by kernel_rfl)(U:Nat.ble ps.length N=true:=by kernel_rfl)(Y:Nat.ble N 20000=true:=by kernel_rfl)(Z:jV ro=true:=by kernel_rfl):KC P:=⟨f,.m ⟨ps,ro,F⟩,NH C L O T U Y Z (uh _ (sg l)) (BT b D hi) E⟩
def bu{A Z R:Type}(F:A->R)(x:A×Z):R:=F x.1
def aY{A B Z R:Type}(F:A->B->R)(x:A×B×Z):R:=F x.1 x.2.1
def eZ{A B C Z R:Type}(F:A->B->C->R)(x:A×B×C×Z):R:=F x.1 x.2.1 x.2.2.1
def qM{A B C D Z R:Type}(F:A->B->C->D->R)(x:A×B×C×D×Z):R:=F x.1 x.2.1 x.2.2.1 x.2.2.2.1
def DE{A B C D E Z R:Type}(F:A->B->C->D->E->R)(x:A×B×C×D×E×Z):R:=F x.1 x.2.1 x.2.2.1 x.2.2.2.1 x.2.2.2.2.1
end
end Go.Proofs.YtnilicojgkhpnaaGreat
