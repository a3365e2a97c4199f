/-
  Running the program over pure contents, and that it follows (part Z). Nothing here is a claim.
-/
import Derived.Test.YtpigmalhjkekiaaGreatV4
set_option linter.unusedSimpArgs false
namespace Go.Proofs.YtpigmalhjkekiaaGreat
set_option linter.defProp false
open Go.RowKit
set_option linter.unusedVariables false
section
variable {P:Program} {w w':World} {w0:Wd} {B N:Nat} {af aA:bk} {ρ ρ':Nat->Loc} {σ:S} {a:Act} {X:Type} {d:Nat} {r:X} {o:Oper} {Φ:ef} {Λ:mB}
def akj{I:aj Tmp}{g:Bool}{k:S -> aj X}(h:sP σ I g k=some r):∃ D,k D=some r /\ ∀ a w,R w0 N σ a w -> R w0 N D a w:=by
 unfold sP at h;cases g with
 |false=>grind
 | true=>
  rw[au]at h;split at h
  ·rename_i d;split at h
   ·rename_i b hb;have key:∀ c:Bool,b=c -> ∀ a w,R w0 N σ a w -> R w0 N (σ.set d (.lf (.v (.bool c)))) a w:=by
     rintro c rfl a w ⟨af,ρ,C⟩
     refine⟨af,ρ,C.below,C.cV,C.root,λk=>?_,C.size,C.defers,C.fix,C.cL⟩
     show RA w w0.heap.size af ρ (bG σ.t d (.lf (.v (.bool b))) k) _;by_cases E:k=d
     ·subst E;rw[bK,<- hb];exact C.tmp k
     ·rw[cr _ _ _ E];exact C.tmp k
    grind
   ·grind
  ·grind
def LH(Y:fK P Φ)(ops:Array Oper):∀ (rest:aa Oper) (j:Nat) (σ:S) (k:S -> aj X),BG P N Φ ops j rest σ k=some r -> ∃ c8,k c8=some r /\ ∀ a w,R w0 N σ a w -> ∀ Q,(∀ I w',R w0 N c8 I w' -> Q Exit.normal I w') -> wpList P ops Q rest a w
 |[],j,σ,k,h=>⟨σ,h,λa w D Q E=>E a w D⟩
 | o :: rest,j,σ,k,h=>by
  unfold BG at h;split at h
  ·rename_i Z;obtain⟨qd,h1,vJ⟩:=aje Y h;obtain⟨σ2,h2,vi⟩:=akj h1;obtain⟨O,T,U⟩:=LH Y ops rest (j+1) σ2 k h2
   refine⟨O,T,λa w D Q E=>?_⟩
   obtain⟨af,ρ,C⟩:=D;simp only[wpList,DW Z C,if_true];exact .inl (vJ a w _ Q ⟨af,ρ,C⟩ λI w' sO=>U I w' (vi I w' sO) Q E)
  ·rename_i Z;unfold gW at h;split at h
   ·rename_i hd;obtain⟨O,T,U⟩:=LH Y ops rest _ σ k h
    refine⟨O,T,λa w D Q E=>?_⟩
    obtain⟨af,ρ,C⟩:=D;simp[wpList,DW Z C,hd];exact U a w ⟨af,ρ,C⟩ Q E
   ·rename_i d hd;cases hN:Nat.blt d N with
    |false=>simp_all
    | true=>
     rw[hN,au]at h;obtain⟨O,T,U⟩:=LH Y ops rest (j+1) _ k h
     refine⟨O,T,λa w D Q E=>?_⟩
     obtain⟨af,ρ,C⟩:=D;simp only[wpList,DW Z C,hd];exact U _ w ⟨af,ρ,C.set rfl (by have:=cz hN;omega)⟩ Q E
  ·cases h
def DX(dN:fK P Φ):∀ (c:Code) (σ:S) (k:Exit->S->aj X),lz P N Φ Λ c σ k=some r->oV P N Λ (occs c)->AW P w0 N c σ λe E=>k e E=some r:=by
 intro c
 induction c with
 |skip=>exact λσ k h _ a w C=>wp_skip ⟨σ,h,C⟩
 |label l=>exact λσ k h _ a w C=>wp_label ⟨σ,h,C⟩
 |ret=>exact λσ k h _ a w C=>wp_ret ⟨σ,h,C⟩
 |exit id=>exact λσ k h _ a w C=>wp_exit ⟨σ,h,C⟩
 | region id ops draw=>
  intro σ k h _ a w C;cases draw with
  | true=>
   simp only[lz]at h;cases hm:P.follows .mixedOrders with
   |false=>rw[hm]at h;cases h
   | true=>
    rw[hm,au]at h
    haveI:Inhabited Wd:=⟨w0⟩
    exact aki dN hm h (λτ iQ a w C=>⟨τ,iQ,C⟩) C
  | false=>
   simp only[lz]at h;obtain⟨E,h',hw⟩:=LH (w0:=w0) dN ops _ _ _ _ h;exact wp_region_list (hw a w C _ λT w' D=>⟨E,h',D⟩)
 | seq x y U Y=>
  intro σ k h I a w C;simp only[lz]at h;have Z:=U σ _ h (λp hp=>I p (List.mem_append_left _ hp))
  refine wp_seq (wp_mono (Z a w C) λe T w' he=>?_)
  obtain⟨E,O,D⟩:=he;cases e with
  |normal=>exact Y E k O (λp hp=>I p (List.mem_append_right _ hp)) T w' D
  |_=>exact⟨E,O,D⟩
 | cond c x y U Y=>
  intro σ k h I a w C;simp only[lz]at h;split at h
  ·rename_i b hb;obtain⟨af,ρ,D⟩:=C;have hc:=D.aK c;rw[hb]at hc;have Zt:=hc.2.yS;cases b with
   |true=>exact wp_cond_true Zt (U σ k h (λp hp=>I p (List.mem_append_left _ hp)) a w ⟨af,ρ,D⟩)
   |false=>exact wp_cond_false Zt (Y σ k h (λp hp=>I p (List.mem_append_right _ hp)) a w ⟨af,ρ,D⟩)
  ·cases h
 | block id c ih=>
  intro σ k h I a w C;simp only[lz]at h;split at h
  next b hb=>exact I (id,c) (.head _) b hb X σ k r w0 h a w C
  ·have Z:=ih σ _ h (λp hp=>I p (.tail _ hp))
   refine wp_block (wp_mono (Z a w C) λe T w' he=>?_)
   obtain⟨E,O,D⟩:=he;cases e with
   | exit Zu=>
    simp only[Exit.inBlock];by_cases hid:Zu=id
    ·simp only[hid,if_true]at O ⊢;exact⟨E,O,D⟩
    ·simp only[hid,if_false]at O ⊢;exact⟨E,O,D⟩
   |_=>exact⟨E,O,D⟩
 |_=>exact λσ k h=>by simp[lz]at h
end
/-! What a loop carries. -/
inductive Lm where
 |int (k:IntKind)
 |bool
 |str
 |own (r:Nat)
 |aG (t:TC) (o:Nat)
def Lm.T:Lm->Type
 |.int _=>Int
 |.bool=>Bool
 |.str=>ByteArray
 |.own _=>ah
 |.aG t _=>aa (Proofs.YtpigmalhjkekiaaGreat.T t)
def Lm.mk:(m:Lm)->m.T->Lf
 |.int k,n=>.v (.int k n)
 |.bool,b=>.v (.bool b)
 |.str,s=>.v (.str s)
 |.own r,_=>.own [r]
 |.aG t o,l=>.v (.sl t o false l)
def Lm.rd:(m:Lm)->Lf->aj m.T
 |.int k,.v (.int C n)=>if C=k then some n else none
 |.bool,.v (.bool b)=>some b
 |.str,.v (.str s)=>some s
 |.own r,.own [D]=>bif Nat.beq D r then some ()else none
 |.aG t o,.v x=>bif Nat.blt o 2 then x.fk t o else none
 |_,_=>none
inductive Tm where
 |lf (m:Lm)
 |aL (r j:Nat)
 |fp (t:TC) (o:Nat)
 |fc (f:Nat) (t:TC)
 |ag (t:TC)
 |pk (r n:Nat)
def Tm.T:Tm->Type
 |.lf m=>m.T
 |.aL _ _=>ah
 |.fp t _=>Proofs.YtpigmalhjkekiaaGreat.T t
 |.fc _ t=>Proofs.YtpigmalhjkekiaaGreat.T t
 |.ag t=>Proofs.YtpigmalhjkekiaaGreat.T t
 |.pk _ _=>ah
def Tm.mk:(m:Tm)->m.T->A
 |.lf m,x=>.lf (m.mk x)
 |.aL r j,_=>.aL r j
 |.fp t o,x=>.iW (enc t o x)
 |.fc f t,x=>.m7 f (enc t 0 x)
 |.ag t,x=>.agg ((enc t 0 x).map .v)
 |.pk r n,_=>.pk r n
def Tm.rd:(m:Tm)->A->aj m.T
 |.lf m,.lf x=>m.rd x
 |.aL r j,.aL C D=>bif Nat.beq C r&&Nat.beq D j then some ()else none
 |.fp t o,.iW cs=>bif Nat.blt o 2 then dec t o cs else none
 |.fc f t,.m7 f' cs=>bif Nat.beq f' f then dec t 0 cs else none
 | .ag t,.agg cs=>(match vn cs with
  |some E=>dec t 0 E
  |none=>none)
 |.pk r n,.pk C n'=>bif Nat.beq C r&&Nat.beq n' n then some ()else none
 |_,_=>none
def G1:aa Lm->Type
 |[]=>ah
 |m::C=>m.T×G1 C
def xU:(C:aa Lm)->G1 C->aa Lf
 |[],_=>[]
 |m::C,x=>m.mk x.1::xU C x.2
def LI:(C:aa Lm)->aa Lf->aj (G1 C)
 |[],[]=>some ()
 | m :: C,x :: xs=>match m.rd x,LI C xs with
  |some y,some ys=>some (y,ys)
  |_,_=>none
 |_,_=>none
inductive Rm where
 |sl (t:TC) (o:Nat)
 |st (t:TC)
 |aB (ms:List Lm)
 |mp
def Rm.T:Rm->Type
 |.sl t _=>aa (Proofs.YtpigmalhjkekiaaGreat.T t)
 |.st t=>Proofs.YtpigmalhjkekiaaGreat.T t
 |.aB C=>G1 C
 |.mp=>aa (Int×Bool)
def Rm.mk:(m:Rm)->m.T->aS
 |.sl t o,l=>.sl (.sl t o false l)
 |.st t,x=>.aB ((enc t 0 x).map .v)
 |.aB C,x=>.aB (xU C x)
 |.mp,l=>.mp l
def Rm.rd:(m:Rm)->aS->aj m.T
 |.sl t o,.sl y=>y.fk t o
 | .st t,.aB cs=>(match vn cs with
  |some C=>dec t 0 C
  |none=>none)
 |.aB D,.aB cs=>LI D cs
 |.mp,.mp l=>some l
 |_,_=>none
def DY:aa (Nat×Tm)->Type
 |[]=>ah
 |(_,m)::C=>m.T×DY C
def xV:(C:aa (Nat×Tm))->DY C->Nat->A
 |[],_,_=>.undef
 |(n,m)::C,x,k=>bif Nat.beq k n then m.mk x.1 else xV C x.2 k
def G2:(C:aa (Nat×Tm))->(Nat->A)->aj (DY C)
 |[],_=>some ()
 | (n,m) :: C,t=>match m.rd (t n),G2 C t with
  |some x,some xs=>some (x,xs)
  |_,_=>none
def xW:aa (Nat×Rm)->Type
 |[]=>ah
 |(_,m)::C=>m.T×xW C
def xX:(C:aa (Nat×Rm))->xW C->Nat->aj aS
 |[],_,_=>none
 |(n,m)::C,x,k=>bif Nat.beq k n then some (m.mk x.1)else xX C x.2 k
def DZ:(C:aa (Nat×Rm))->(Nat->aj aS)->aj (xW C)
 |[],_=>some ()
 | (n,m) :: C,t=>match (t n).bind m.rd,DZ C t with
  |some x,some xs=>some (x,xs)
  |_,_=>none
structure jw where
 ts:List (Nat×Tm)
 rs:List (Nat×Rm)
def jw.St(C:jw):Type:=DY C.ts×xW C.rs
def jw.mk'(C:jw)(x:C.St):S:=⟨xV C.ts x.1,xX C.rs x.2⟩
def jw.LJ(C:jw)(σ:S):aj C.St:=match G2 C.ts σ.t,DZ C.rs σ.m with
 |some x,some y=>some (x,y)
 |_,_=>none
/-! Roots by other names. -/
abbrev Rn:=aa (Nat×Nat)
def Rn.inv(rs:Rn)(n:Nat):aj Nat:=(rs.find? λp=>Nat.beq p.2 n).map (·.1)
def Rn.add(rs:Rn)(r n:Nat):Rn:=bif rs.any (λp=>Nat.beq p.1 r&&Nat.beq p.2 n)then rs else (r,n)::rs
def Sr(n:Nat):aj Nat->Bool
 |some m=>Nat.beq m n
 |none=>false
def Rn.ok(rs:Rn):Bool:=rs.all λp=>(Nat.beq p.1 p.2 ||Nat.ble 60000 p.2)&&Sr p.2 (rs.lookup p.1)&&Sr p.1 (rs.inv p.2)
def Lf.dZ(rs:Rn):Lf->Lf
 |.v x=>.v x
 | .own [r]=>(match rs.lookup r with
  |some n=>.own [n]
  |none=>.dead)
 |_=>.dead
def A.dZ(rs:Rn):A->A
 |.lf x=>.lf (x.dZ rs)
 | .aL r j=>(match rs.lookup r with
  |some n=>.aL n j
  |none=>.undef)
 |.iW cs=>.iW cs
 |.m7 f cs=>.m7 f cs
 |.agg cs=>.agg (cs.map (Lf.dZ rs))
 |_=>.undef
def aS.dZ(rs:Rn):aS->aS
 |.aB cs=>.aB (cs.map (Lf.dZ rs))
 |.sl y=>.sl y
 |.mp l=>.mp l
 |.gh _=>.gh []
def S.dZ(rs:Rn)(σ:S):S:=⟨λk=>(σ.t k).dZ rs,λn=>match rs.inv n with
 |some r=>(σ.m r).map (aS.dZ rs)
 |none=>none⟩
def Zv:Lm->Lf->Rn->Rn
 |.own n,.own [r],rs=>rs.add r n
 |_,_,rs=>rs
def Ss:aa Lm->aa Lf->Rn->Rn
 |m::C,x::xs,rs=>Ss C xs (Zv m x rs)
 |_,_,rs=>rs
def rnT:Tm->A->Rn->Rn
 |.lf m,.lf x,rs=>Zv m x rs
 |.aL n j,.aL r C,rs=>rs.add r n
 |_,_,rs=>rs
def Zw(t:Nat->A):aa (Nat×Tm)->Rn->Rn
 |[],rs=>rs
 |(k,m)::C,rs=>Zw t C (rnT m (t k) rs)
def Zx(m:Nat->aj aS):aa (Nat×Rm)->Rn->Rn
 |[],rs=>rs
 | (n,x) :: xs,rs=>Zx m xs (match x,rs.inv n with
  | .aB C,some r=>(match m r with
   |some (.aB cs)=>Ss C cs rs
   |_=>rs)
  | .aB C,none=>(match m n with
   |some (.aB cs)=>Ss C cs (rs.add n n)
   |_=>rs)
  |_,some _=>rs
  |_,none=>rs.add n n)
def jw.rn(C:jw)(σ:S):Rn:=Zx σ.m C.rs (Zw σ.t C.ts [])
def Su(rs:aa (Nat×Rm))(p:Nat×Tm)(σ:S):S:=match p.2,σ.t p.1 with
 | .lf (.own n),.lf (.v .nil)=>(match rs.lookup n with
  |some (.sl t o)=>bif Nat.ble 60000 n then ⟨bG ((σ.drop n).root n (.sl (.sl t o false []))).t p.1 (.lf (.own [n])),((σ.drop n).root n (.sl (.sl t o false []))).m⟩else σ
  |_=>σ)
 |_,_=>σ
def LK(rs:aa (Nat×Rm)):aa (Nat×Tm)->S->S
 |[],σ=>σ
 |p::ps,σ=>LK rs ps (Su rs p σ)
def Sv(n j r:Nat)(σ:S):S:=match σ.m r with
 | some (.aB cs)=>(match cs[j]? with
  |some (.v .nil)=>⟨σ.t,bG σ.m r (some (.aB (cs.set j (.own [n]))))⟩
  |_=>σ)
 |_=>σ
def Sw(rs:aa (Nat×Rm))(n j r:Nat)(σ:S):S:=match rs.lookup n with
 |some (.sl t o)=>bif Nat.ble 60000 n then Sv n j r ((σ.drop n).root n (.sl (.sl t o false [])))else σ
 |_=>σ
def BQ(rs:aa (Nat×Rm))(r:Nat):Nat->aa Lm->aa Lf->S->S
 |j,.own n::C,.v .nil::cs,σ=>BQ rs r (j+1) C cs (Sw rs n j r σ)
 |j,_::C,_::cs,σ=>BQ rs r (j+1) C cs σ
 |_,_,_,σ=>σ
def LL(rs:aa (Nat×Rm)):aa (Nat×Rm)->S->S
 |[],σ=>σ
 | (r,.aB C) :: ps,σ=>LL rs ps (match σ.m r with
  |some (.aB cs)=>BQ rs r 0 C cs σ
  |_=>σ)
 |_::ps,σ=>LL rs ps σ
def jw.Zy(C:jw)(σ:S):aj C.St:=bif (C.rn σ).ok then C.LJ (LL C.rs C.rs (σ.dZ (C.rn σ)))else none
def jw.rd(C:jw)(σ:S):aj C.St:=match C.LJ σ with
 |some x=>some x
 |none=>C.Zy (LK C.rs C.ts σ)
section
variable {P:Program} {w w':World} {w0:Wd} {B N:Nat} {af aA:bk} {ρ ρ':Nat->Loc} {σ:S} {a:Act} {X:Type} {d:Nat} {r:X} {o:Oper} {Φ:ef} {Λ:mB}
def Lm.qi{m:Lm}{x:Lf}{y:m.T}(h:m.rd x=some y){u:Value}(C:dM w B af ρ x u):dM w B af ρ (m.mk y) u:=by
 unfold Lm.rd at h;split at h
 ·split at h
  next D=>subst D;injection h with h;subst h;exact C
  ·cases h
 ·injection h with h;subst h;exact C
 ·injection h with h;subst h;exact C
 ·rename_i E I;cases hb:Nat.beq I E with
  |false=>simp_all
  |true=>obtain rfl:=cN hb;exact C
 ·rename_i t o x;cases hb:Nat.blt o 2 with
  |false=>rw[hb]at h;cases h
  | true=>
   rw[hb]at h;have:=cz hb;exact⟨by simp[V.aG];omega,C.2.wk (V.Ft h)⟩
 ·cases h
def Tm.qi{m:Tm}{x:A}{y:m.T}(h:m.rd x=some y){u:Value}(E:RA w B af ρ x u):RA w B af ρ (m.mk y) u:=by
 cases m with
 | lf m=>
  cases x with
  |lf x=>exact Lm.qi h E
  |_=>cases h
 | aL r j=>
  cases x with
  | aL O j'=>
   have h:(bif Nat.beq O r&&Nat.beq j' j then some ()else none)=some y:=h;cases hb:(Nat.beq O r&&Nat.beq j' j)with
   |false=>simp_all
   | true=>
    rw[aJ]at hb;obtain rfl:=cN hb.1;obtain rfl:=cN hb.2;exact E
  |_=>cases h
 | fp t o=>
  cases x with
  | iW cs=>
   have h:(bif Nat.blt o 2 then dec t o cs else none)=some y:=h;cases hb:Nat.blt o 2 with
   |false=>simp_all
   | true=>
    rw[hb,au]at h;have ho:=cz hb;have D:=lJ t o cs y h;obtain⟨b,off,U,Y,Z,h4⟩:=E
    refine⟨b,off,U,Y,Z,λj z C=>?_⟩
    have hj:j<cs.length:=by rw[D.1];exact(dK.1 C).1
    have hv:=bJ hj;obtain⟨g1,v,g2,g3⟩:=h4 j _ hv;exact⟨pW t o y (by omega) j z C,v,g2,g3.wk (D.2 j _ z hv C)⟩
  |_=>cases h
 | fc f t=>
  cases x with
  | m7 f' cs=>
   have h:(bif Nat.beq f' f then dec t 0 cs else none)=some y:=h;cases hb:Nat.beq f' f with
   |false=>simp_all
   | true=>
    rw[hb,au]at h;obtain rfl:=cN hb;have D:=lJ t 0 cs y h;obtain⟨pv,e0,b,off,U,Y,Z,h4⟩:=E
    refine⟨pv,e0,b,off,U,Y,Z,λj z C=>?_⟩
    have hj:j<cs.length:=by rw[D.1];exact(dK.1 C).1
    have hv:=bJ hj;obtain⟨g1,v,g2,g3⟩:=h4 j _ hv;exact⟨pW t 0 y (by omega) j z C,v,g2,g3.wk (D.2 j _ z hv C)⟩
  |_=>cases h
 | ag t=>
  cases x with
  | agg cs=>
   have h:(match vn cs with|some I=>dec t 0 I|none=>none)=some y:=h;cases lP:vn cs with
   |none=>simp_all
   | some I=>
    rw[lP]at h;have h:dec t 0 I=some y:=h;have lN:=Kw _ _ lP;have D:=lJ t 0 I y h;obtain⟨us,U,Y,Z⟩:=E
    refine⟨us,U,?_,λj x hx=>?_⟩
    ·rw[Y,lN,eS,eS,D.1]
    ·rw[ez]at hx;cases C:(enc t 0 y)[j]? with
     |none=>simp_all
     | some z=>
      rw[C]at hx;injection hx with hx;subst hx;have hj:j<I.length:=by rw[D.1];exact(dK.1 C).1
      have hv:=bJ hj;obtain⟨v,g1,g2⟩:=Z j (.v I[j]) (by rw[lN,ez,hv];rfl);exact⟨v,g1,pW t 0 y (by omega) j z C,g2.2.wk (D.2 j _ z hv C)⟩
  |_=>cases h
 | pk r n=>
  cases x with
  | pk O n'=>
   have h:(bif Nat.beq O r&&Nat.beq n' n then some ()else none)=some y:=h;cases hb:(Nat.beq O r&&Nat.beq n' n)with
   |false=>simp_all
   | true=>
    rw[aJ]at hb;obtain rfl:=cN hb.1;obtain rfl:=cN hb.2;exact E
  |_=>cases h
def Zz:∀ (C:aa Lm) (cs:aa Lf) (y:G1 C),LI C cs=some y -> (xU C y).length=cs.length /\ ∀ (j:Nat) x,(xU C y)[j]?=some x -> ∃ z,cs[j]?=some z/\(∀ (w:World) (B:Nat) (af:bk) (ρ:Nat -> Loc) (u:Value),dM w B af ρ z u -> dM w B af ρ x u)
 |[],[],y,h=>⟨rfl,λj x D=>by simp[xU]at D⟩
 | m :: C,c :: cs,y,h=>by
  unfold LI at h;split at h
  ·rename_i Y ys E I;injection h with h;subst h;obtain⟨O,T⟩:=Zz C cs ys I
   refine⟨by simp[xU,O],λj x D=>?_⟩
   cases j with
   |zero=>simp[xU]at D;subst D;exact⟨c,rfl,λw B af ρ u U=>Lm.qi E U⟩
   |succ j=>exact T j x (by simpa [xU]using D)
  ·cases h
def Rm.qi{m:Rm}{x:aS}{y:m.T}(h:m.rd x=some y){n:Nat}(C:dW w B af ρ n x):dW w B af ρ n (m.mk y):=by
 cases m with
 | sl t o=>
  cases C with
  |sl v y' D hr=>exact .sl v _ D (hr.wk (V.Ft h))
  |aB=>cases h
  |mp=>cases h
  |gh=>cases h
 | mp=>
  cases C with
  |gh=>cases h
  |sl=>cases h
  |aB=>cases h
  |mp b c es l D hl hh he=>injection h with h;subst h;exact .mp b c es _ D hl hh he
 | st t=>
  cases C with
  |sl=>cases h
  |mp=>cases h
  |gh=>cases h
  | aB b off cells e cs us D hl hh I Y=>
   have h:(match vn cs with|some E=>dec t 0 E|none=>none)=some y:=h;cases Z:vn cs with
   |none=>simp_all
   | some E=>
    rw[Z]at h;have h:dec t 0 E=some y:=h;have lN:=Kw _ _ Z;have U:=lJ t 0 E y h
    refine .aB b off cells e _ us D hl hh (by rw[eS,<- U.1];rw[lN,eS]at I;exact I) λj x C=>?_
    rw[ez]at C;cases O:(enc t 0 y)[j]? with
    |none=>simp_all
    | some z=>
     rw[O]at C;injection C with C;subst C;have hj:j<E.length:=by rw[U.1];exact(dK.1 O).1
     have hv:=bJ hj;obtain⟨h1,h2⟩:=Y j (.v E[j]) (by rw[lN,ez,hv];rfl);exact⟨h1,pW t 0 y (by omega) j z O,h2.2.wk (U.2 j _ z hv O)⟩
 | aB ms=>
  cases C with
  |sl=>cases h
  |mp=>cases h
  |gh=>cases h
  | aB b off cells e cs us D hl hh I Y=>
   obtain⟨k1,k2⟩:=Zz ms cs y h
   refine .aB b off cells e _ us D hl hh (by show off+(xU ms y).length <= _;rw[k1];exact I) λj x C=>?_
   grind
def Sx:∀ (C:aa (Nat×Tm)) (t:Nat -> A) (y:DY C),G2 C t=some y -> ∀ k,xV C y k = .undef \/ ∃ m z,(Tm.rd m (t k)=some z/\xV C y k=m.mk z)
 |[],t,y,h,k=>.inl rfl
 | (n,m) :: C,t,y,h,k=>by
  unfold G2 at h;split at h
  ·rename_i x xs D E;injection h with h;subst h;by_cases I:k=n
   ·subst I;exact .inr ⟨m,x,D,by simp[xV]⟩
   ·have hb:Nat.beq k n=false:=by
     cases hb:Nat.beq k n with
     |false=>rfl
     |true=>simp_all
    simp only[xV,hb,ax];exact Sx C t xs E k
  ·cases h
def Sz:∀ (C:aa (Nat×Rm)) (t:Nat -> aj aS) (y:xW C),DZ C t=some y -> ∀ k,xX C y k=none \/ ∃ m x z,t k=some x/\Rm.rd m x=some z/\xX C y k=some (m.mk z)
 |[],t,y,h,k=>.inl rfl
 | (n,m) :: C,t,y,h,k=>by
  unfold DZ at h;split at h
  ·rename_i x xs D E;injection h with h;subst h;by_cases I:k=n
   ·subst I;cases O:t k with
    |none=>simp_all
    |some z=>rw[O]at D;exact .inr ⟨m,z,x,rfl,D,by simp[xX]⟩
   ·have hb:Nat.beq k n=false:=by
     cases hb:Nat.beq k n with
     |false=>rfl
     |true=>simp_all
    simp only[xX,hb,ax];exact Sz C t xs E k
  ·cases h
def jw.ZA{D:jw}{x:D.St}(h:D.LJ σ=some x)(C:R w0 N σ a w):R w0 N (D.mk' x) a w:=by
 unfold jw.LJ at h;split at h
 ·rename_i u v T U;injection h with h;subst h;obtain⟨af,ρ,C⟩:=C
  refine⟨af,ρ,C.below,C.cV,λn y E=>?_,λk=>?_,C.size,C.defers,C.fix,C.cL⟩
  ·have E:xX D.rs v n=some y:=E;rcases Sz D.rs σ.m v U n with e | ⟨m,x,z,I,O,Y⟩
   ·simp_all
   ·rw[Y]at E;injection E with E;subst E;exact Rm.qi O (C.root n x I)
  ·show RA _ _ _ _ (xV D.ts u k) _;rcases Sx D.ts σ.t u T k with e | ⟨m,z,I,O⟩
   ·rw[e];trivial
   ·rw[O];exact Tm.qi I (C.tmp k)
 ·cases h
def ZB{n:Nat}{o:aj Nat}(h:Sr n o=true):o=some n:=by
 cases o with
 |none=>cases h
 |some m=>rw[cN h]
def ZC{rs:Rn}{r n:Nat}(h:rs.lookup r=some n):(r,n)∈rs:=by
 induction rs with
 |nil=>cases h
 |cons p rs C =>grind
def ZD{rs:Rn}{r n:Nat}(h:rs.inv n=some r):(r,n)∈rs:=by
 unfold Rn.inv at h;cases C:rs.find? _ with
 |none=>rw[C]at h;cases h
 | some p=>
  rw[C]at h;injection h with h;subst h;have D:=List.find?_some C;have E:=List.mem_of_find?_eq_some C;rw[<- cN D];exact E
def Rn.eZ(rs:Rn)(ρ:Nat->Loc):Nat->Loc:=λn=>match rs.inv n with
 |some r=>ρ r
 |none=>ρ n
def Rn.LM{rs:Rn}(h:rs.ok=true){r n:Nat}(C:(r,n)∈rs):(r=n \/ 60000 <= n)/\rs.lookup r=some n/\rs.inv n=some r:=by
 have:=bT.1 h _ C;rw[aJ,aJ,dQ]at this;refine⟨?_,ZB this.1.2,ZB this.2⟩;simp_all
def dM.dZ{rs:Rn}(C:rs.ok=true){x:Lf}{u:Value}(h:dM w B af ρ x u):dM w B (eE af rs id) (rs.eZ ρ) (x.dZ rs) u:=by
 unfold Lf.dZ;split
 ·exact⟨h.1,h.2.J8 h.1 λb=>zl⟩
 ·rename_i r;split
  next n hn=>have hi:=(Rn.LM C (ZC hn)).2.2;refine⟨h.1,?_⟩;have D:=h.2;simp[cQ]at D ⊢;unfold Rn.eZ;simp_all
  ·trivial
 ·trivial
def Rl.dZ{rs:Rn}(O:rs.ok=true)(h:Rl w0 N af ρ σ a w):Rl w0 N (eE af rs id) (rs.eZ ρ) (σ.dZ rs) a w:=by
 have hl:∀ b r n,af b=some [r] -> rs.lookup r=some n -> eE af rs id b=some [n]:=by
  intro b r n E I;simp[eE,E,I]
 refine⟨h.below,λb k D=>?_,λn x C=>?_,λk=>?_,h.size,h.defers,λr l U=>?_,h.cL⟩
 ·unfold eE at D;split at D
  ·cases D
  ·rename_i k0 KW;split at D
   ·cases D
   ·rename_i r U;cases hn:rs.lookup r with
    |none=>grind
    | some n=>
     rw[hn]at D;injection D with D;subst D;obtain⟨E,I,_⟩:=h.cV b k0 KW;simp_all
 ·have C:(match rs.inv n with | some r=>(σ.m r).map (aS.dZ rs) | none=>none)=some x:=C;cases hi:rs.inv n with
  |none=>grind
  | some r=>
   rw[hi]at C;have C:(σ.m r).map (aS.dZ rs)=some x:=C;have ua:=(Rn.LM O (ZD hi)).2.1;have cm:rs.eZ ρ n=ρ r:=by unfold Rn.eZ;rw[hi]
   cases hm:σ.m r with
   |none=>grind
   | some y=>
    rw[hm]at C;injection C with C;subst C;cases h.root r y hm with
    | aB b off cells e cs us E I hh hs hc=>
     refine .aB b off cells e _ us (cm.trans E) (hl b r n I ua) hh (by rw[eS];exact hs) λj x C=>?_
     rw[ez]at C;cases T:cs[j]? with
     |none=>grind
     | some z=>
      rw[T]at C;injection C with C;subst C;exact⟨(hc j z T).1,(hc j z T).2.dZ O⟩
    | sl v y E I=>
     exact .sl v y (cm.trans E) (RV.eE (p:=[]) (nm:=id) I ua)
    |mp b c es l E I hh he=>exact .mp b c es l (cm.trans E) (hl b r n I ua) hh he
    |gh us xs E C=>exact .gh us _ (cm.trans E) λj x hj=>by simp at hj
 ·show RA _ _ _ _ ((σ.t k).dZ rs) _;have D:=h.tmp k;generalize σ.t k=x at D;unfold A.dZ;split
  ·exact D.dZ O
  ·rename_i r j;split
   next n hn=>have hi:=(Rn.LM O (ZC hn)).2.2;obtain⟨b,off,E,I⟩:=D;exact⟨b,off,by unfold Rn.eZ;rw[hi];exact E,I⟩
   ·trivial
  ·obtain⟨b,off,Y,Z,g3,g4⟩:=D
   refine⟨b,off,Y,Z,zl g3,λj x C=>?_⟩
   obtain⟨f1,v,f2,f3⟩:=g4 j x C;exact⟨f1,v,f2,f3.J8 f1 λb=>zl⟩
  ·obtain⟨pv,e0,b,off,Y,Z,g3,g4⟩:=D
   refine⟨pv,e0,b,off,Y,Z,zl g3,λj x C=>?_⟩
   obtain⟨f1,v,f2,f3⟩:=g4 j x C;exact⟨f1,v,f2,f3.J8 f1 λb=>zl⟩
  ·obtain⟨us,Y,Z,g3⟩:=D
   refine⟨us,Y,by rw[eS];exact Z,λj x C=>?_⟩
   rw[ez]at C;rename_i cs;cases T:cs[j]? with
   |none=>grind
   | some z=>
    rw[T]at C;injection C with C;subst C;obtain⟨v,f1,f2⟩:=g3 j z T;exact⟨v,f1,f2.dZ O⟩
  ·trivial
 ·show rs.eZ ρ r=l;unfold Rn.eZ;split
  ·rename_i r0 hi;rcases(Rn.LM O (ZD hi)).1 with e | e
   ·rw[e];exact h.fix r l U
   ·rw[h.cL r (.inr e)]at U;cases U
  ·exact h.fix r l U
def akk{rs:aa (Nat×Rm)}{p:Nat×Tm}(C:R w0 N σ a w):R w0 N (Su rs p σ) a w:=by
 unfold Su;split
 ·rename_i n hp T;split
  ·rename_i t o hl;cases hb:Nat.ble 60000 n with
   |false=>exact C
   | true=>
    have hn:=cz hb;obtain⟨af,ρ,C⟩:=C;have E:=C.tmp p.1;rw[T]at E;have U:a.tmps.getD p.1 undef = .slice none 0 0:=by
     have I:=E.2;generalize a.tmps.getD p.1 undef=u at I;cases I;rfl
    have D:=C.new (d:=n) (x:=.sl (.sl t o false [])) (.dG (.slice none 0 0)) (.sl _ _ (bK _ _ _) (.eD _ _ _)) (C.cL n (.inr hn))
    refine⟨af,_,D.below,D.cV,D.root,λk=>?_,D.size,D.defers,D.fix,D.cL⟩
    show RA _ _ _ _ (bG ((σ.drop n).root n (.sl (.sl t o false []))).t p.1 (.lf (.own [n])) k) _;by_cases O:k=p.1
    ·subst O;rw[bK,U];exact⟨rfl,by simp[cQ,bK]⟩
    ·rw[cr _ _ _ O];exact D.tmp k
  ·exact C
 ·exact C
def akl{n j r:Nat}{y:V}(C:Rl w0 N af ρ σ a w)(hn:ρ n = .dG (.slice none 0 0)):Rl w0 N af ρ (Sv n j r σ) a w:=by
 unfold Sv;split
 ·rename_i cs Y;split
  ·rename_i T
   refine⟨C.below,C.cV,λI x D=>?_,C.tmp,C.size,C.defers,C.fix,C.cL⟩
   have D:bG σ.m r (some (.aB (cs.set j (.own [n])))) I=some x:=D;by_cases U:I=r
   ·subst U;rw[bK]at D;injection D with D;subst D;cases C.root I _ Y with
    | aB b off cells e cs us Z O hh hs hc=>
     refine .aB b off cells e _ us Z O hh (by rw[jh];exact hs) λi z E=>?_
     rw[List.getElem?_set]at E;by_cases hi:j=i
     ·subst hi;have dI:j<cs.length:=(dK.1 T).1;rw[aV rfl,aV dI]at E;injection E with E;subst E;obtain⟨k1,k2⟩:=hc j _ T;refine⟨k1,?_⟩;have hu:us j = .slice none 0 0:=by
       have O:=k2.2;generalize us j=u at O;cases O;rfl
      rw[hu];exact⟨rfl,by simp only[cQ,hn]⟩
     ·grind
   ·rw[cr _ _ _ U]at D;exact C.root I x D
  ·exact C
 ·exact C
def akm{rs:aa (Nat×Rm)}{n j r:Nat}(C:R w0 N σ a w):R w0 N (Sw rs n j r σ) a w:=by
 unfold Sw;split
 ·rename_i t o hl;cases hb:Nat.ble 60000 n with
  |false=>exact C
  | true=>
   have hn:=cz hb;obtain⟨af,ρ,C⟩:=C;exact⟨af,_,akl (y:=.nil) (C.new _ (.sl _ _ (bK _ _ _) (.eD _ _ _)) (C.cL n (.inr hn))) (bK _ _ _)⟩
 ·exact C
def SA{rs:aa (Nat×Rm)}{r:Nat}:∀ (C:aa Lm) (cs:aa Lf) (j:Nat) (σ:S),R w0 N σ a w -> R w0 N (BQ rs r j C cs σ) a w
 |[],cs,j,σ,h=>by unfold BQ;exact h
 | m :: C,[],j,σ,h=>by
  unfold BQ;simp_all
 | m :: C,c :: cs,j,σ,h=>by
  unfold BQ;split
  next D E=>cases D;cases E;exact SA C cs _ _ (akm h)
  next D E=>cases D;cases E;exact SA C cs _ _ h
  ·exact h
def G3{rs:aa (Nat×Rm)}:∀ (ps:aa (Nat×Rm)) (σ:S),R w0 N σ a w -> R w0 N (LL rs ps σ) a w
 |[],σ,h=>h
 |(r,.sl t o)::ps,σ,h=>G3 ps σ h
 |(r,.st t)::ps,σ,h=>G3 ps σ h
 |(r,.mp)::ps,σ,h=>G3 ps σ h
 | (r,.aB C) :: ps,σ,h=>by
  refine G3 ps _ ?_;split
  ·exact SA C _ 0 σ h
  ·exact h
def ZE{rs:aa (Nat×Rm)}:∀ (ps:aa (Nat×Tm)) (σ:S),R w0 N σ a w->R w0 N (LK rs ps σ) a w
 |[],σ,h=>h
 |p::ps,σ,h=>ZE ps _ (akk h)
def jw.qi{C:jw}{x:C.St}(h:C.rd σ=some x)(D:R w0 N σ a w):R w0 N (C.mk' x) a w:=by
 unfold jw.rd at h;split at h
 next y E=>injection h with h;subst h;exact jw.ZA E D
 ·have D:=ZE (rs:=C.rs) C.ts σ D;revert h D;generalize LK C.rs C.ts σ=I;intro h D;unfold jw.Zy at h;cases hb:(C.rn I).ok with
  |false=>simp_all
  | true=>
   rw[hb,au]at h;obtain⟨af,ρ,D⟩:=D;exact jw.ZA h (G3 C.rs _ ⟨_,_,D.dZ hb⟩)
end
def xY:aa V->aa Nat->aa Lf
 |[],_=>[]
 | x :: xs,ns=>bif x.plain then .v x :: xY xs ns else (match ns with
  |n::ns=>.own [n]::xY xs ns
  |[]=>.dead::xY xs [])
def BR:aa V->aa Nat->(Nat->aj aS)->Nat->aj aS
 |[],_,m,k=>m k
 | x :: xs,ns,m,k=>bif x.plain then BR xs ns m k else (match ns with
  |n::ns=>bif Nat.beq k n then some (.sl x)else BR xs ns m k
  |[]=>BR xs [] m k)
def kK(m:Nat->aj aS):aa Lf->aa Nat->aj (aa V)
 |[],[]=>some []
 | .v x :: cs,ns=>bif x.plain then (match kK m cs ns with
  |some C=>some (x::C)
  |none=>none)else none
 | .own [r] :: cs,n :: ns=>bif Nat.beq r n then (match m n with
  | some (.sl y)=>bif y.plain then none else (match kK m cs ns with
   |some C=>some (y::C)
   |none=>none)
  |_=>none)else none
 |_,_=>none
abbrev Gp:=Nat×TC×Nat×aa Nat
def G4:aa Gp->Type->Type
 |[],X=>X
 |g::gs,X=>T g.2.1×G4 gs X
def LN:(gs:aa Gp)->(rs:aa (Nat×Rm))->G4 gs (xW rs)->Nat->aj aS
 |[],rs,x,k=>xX rs x k
 |(n,t,o,ns)::gs,rs,x,k=>bif Nat.beq k n then some (.aB (xY (enc t o x.1) ns))else BR (enc t o x.1) ns (LN gs rs x.2) k
def LO:(gs:aa Gp)->(rs:aa (Nat×Rm))->(Nat->aj aS)->aj (G4 gs (xW rs))
 |[],rs,m=>DZ rs m
 | (n,t,o,ns) :: gs,rs,m=>match m n with
  | some (.aB cs)=>(match kK m cs ns with
   | some C=>(match dec t o C,LO gs rs m with
    |some x,some y=>some (x,y)
    |_,_=>none)
   |none=>none)
  |_=>none
def D0:aa V->aa Nat->aa Lm
 |[],_=>[]
 |.int k _::xs,ns=>.int k::D0 xs ns
 |.bool _::xs,ns=>.bool::D0 xs ns
 |.str _::xs,ns=>.str::D0 xs ns
 |_::xs,n::ns=>.own n::D0 xs ns
 |_::xs,[]=>.bool::D0 xs []
def SB:aa V->aa Nat->aa (Nat×Rm)
 |.sl t o _ _::xs,n::ns=>(n,.sl t o)::SB xs ns
 |_::xs,ns=>SB xs ns
 |[],_=>[]
def SC:aa Gp->aa (Nat×Rm)->aa (Nat×Rm)
 |[],rs=>rs
 |(n,t,o,ns)::gs,rs=>(n,.aB (D0 (WB t o) ns))::(SB (WB t o) ns++SC gs rs)
structure bD where
 ts:List (Nat×Tm)
 rs:List (Nat×Rm)
 gs:List Gp
def bD.St(C:bD):Type:=DY C.ts×G4 C.gs (xW C.rs)
def bD.mk'(C:bD)(x:C.St):S:=⟨xV C.ts x.1,LN C.gs C.rs x.2⟩
def bD.LP(C:bD)(σ:S):aj C.St:=match G2 C.ts σ.t,LO C.gs C.rs σ.m with
 |some x,some y=>some (x,y)
 |_,_=>none
def bD.rd(C:bD)(σ:S):aj C.St:=match C.LP σ with
 |some x=>some x
 | none=>match jw.rd ⟨C.ts,SC C.gs C.rs⟩ σ with
  |some z=>C.LP (jw.mk' ⟨C.ts,SC C.gs C.rs⟩ z)
  |none=>none
section
variable {P:Program} {w w':World} {w0:Wd} {B N:Nat} {af aA:bk} {ρ ρ':Nat->Loc} {σ:S} {a:Act} {m:Nat->aj aS}
def kV.inv{x:V}{xs ys:aa V}(k:kV (x :: xs) ys):∃ y C,ys=y :: C/\Wk x y/\kV xs C:=by
 obtain⟨D,E⟩:=k;cases ys with
 |nil=>simp at D
 |cons y C=>exact⟨y,C,rfl,E 0 x y rfl rfl,by simpa using D,λj a b I hb=>E (j+1) a b (by simpa using I) (by simpa using hb)⟩
def Wk.ZF{x y:V}(h:Wk x y)(hp:x.plain=true):y=x:=by
 cases h<;>first|rfl|cases hp
def Wk.ZG{x y:V}(h:Wk x y)(hp:x.plain=false):y.plain=false:=by
 cases h<;>first|exact hp|rfl
def SD:∀ (cs:aa Lf) (ns:aa Nat) (C ys:aa V),kK m cs ns=some C -> kV C ys -> (xY ys ns).length=cs.length /\ ∀ (j:Nat) z,(xY ys ns)[j]?=some z -> cs[j]?=some z
 | [],[],C,ys,h,hw=>by
  simp only[kK,iB]at h;subst h;have:ys=[]:=vb hw.1.symm;subst this;exact⟨rfl,λj z D=>by simp[xY]at D⟩
 | .v x :: cs,ns,C,ys,h,hw=>by
  unfold kK at h;cases hp:x.plain with
  |false=>simp_all
  | true=>
   rw[hp,au]at h;split at h
   ·rename_i us E;injection h with h;subst h;obtain⟨y,I,rfl,O,T⟩:=hw.inv;obtain rfl:=O.ZF hp;obtain⟨U,Y⟩:=SD cs ns us I E T;simp only[xY,hp,au]
    refine⟨by simp[U],λj z D=>?_⟩
    cases j with
    |zero=>simp_all
    |succ j=>simp_all
   ·cases h
 | .own [r] :: cs,n :: ns,C,ys,h,hw=>by
  unfold kK at h;cases hb:Nat.beq r n with
  |false=>simp_all
  | true=>
   rw[hb,au]at h;obtain rfl:=cN hb;split at h
   ·rename_i y Z;cases hp:y.plain with
    |true=>simp_all
    | false=>
     rw[hp,ax]at h;split at h
     ·rename_i us E;injection h with h;subst h;obtain⟨y',I,rfl,O,T⟩:=hw.inv;have hq:=O.ZG hp;obtain⟨U,Y⟩:=SD cs ns us I E T;simp only[xY,hq,ax]
      refine⟨by simp[U],λj z D=>?_⟩
      cases j with
      |zero=>simp_all
      |succ j=>simp_all
     ·cases h
   ·cases h
 |[],_::_,C,ys,h,_=>by simp[kK]at h
 |.dead::_,_,C,ys,h,_=>by simp[kK]at h
 |.own []::_,_,C,ys,h,_=>by simp[kK]at h
 |.own (_::_::_)::_,_,C,ys,h,_=>by simp[kK]at h
 |.own [_]::_,[],C,ys,h,_=>by simp[kK]at h
def SE{f:Nat -> aj aS}{k:Nat}{x:aS}:∀ (cs:aa Lf) (ns:aa Nat) (D ys:aa V),kK m cs ns=some D -> kV D ys -> BR ys ns f k=some x -> f k=some x \/ ∃ v y,m k=some (.sl v)/\x = .sl y/\Wk v y
 | [],[],D,ys,h,hw,C=>by
  simp only[kK,iB]at h;subst h;have:ys=[]:=vb hw.1.symm;subst this;exact .inl C
 | .v Y :: cs,ns,D,ys,h,hw,C=>by
  unfold kK at h;cases hp:Y.plain with
  |false=>simp_all
  | true=>
   rw[hp,au]at h;split at h
   next us E=>injection h with h;subst h;obtain⟨y,I,rfl,O,T⟩:=hw.inv;obtain rfl:=O.ZF hp;simp[BR,hp]at C;exact SE cs ns us I E T C
   ·cases h
 | .own [r] :: cs,n :: ns,D,ys,h,hw,C=>by
  unfold kK at h;cases hb:Nat.beq r n with
  |false=>simp_all
  | true=>
   rw[hb,au]at h;obtain rfl:=cN hb;split at h
   ·rename_i y Z;cases hp:y.plain with
    |true=>simp_all
    | false=>
     rw[hp,ax]at h;split at h
     ·rename_i us E;injection h with h;subst h;obtain⟨y',I,rfl,O,T⟩:=hw.inv;have hq:=O.ZG hp;simp only[BR,hq,ax]at C;cases U:Nat.beq k r with
      | true=>
       rw[U]at C;injection C with C;obtain rfl:=cN U
       grind
      | false=>
       rw[U]at C;exact SE cs ns us I E T C
     ·cases h
   ·cases h
 |[],_::_,D,ys,h,_,_=>by simp[kK]at h
 |.dead::_,_,D,ys,h,_,_=>by simp[kK]at h
 |.own []::_,_,D,ys,h,_,_=>by simp[kK]at h
 |.own (_::_::_)::_,_,D,ys,h,_,_=>by simp[kK]at h
 |.own [_]::_,[],D,ys,h,_,_=>by simp[kK]at h
def ZH:∀ (gs:aa Gp) (rs:aa (Nat×Rm)) (y:G4 gs (xW rs)),LO gs rs m=some y -> ∀ k x,LN gs rs y k=some x -> ∃ O,m k=some O /\ ∀ (w:World) (B:Nat) (af:bk) (ρ:Nat -> Loc),dW w B af ρ k O -> dW w B af ρ k x
 | [],rs,y,h,k,x,C=>by
  have h:DZ rs m=some y:=h;have C:xX rs y k=some x:=C;rcases Sz rs m y h k with e|⟨m',O,z,E,I,e3⟩
  ·simp_all
  ·rw[e3]at C;injection C with C;subst C;exact⟨O,E,λw B af ρ D=>Rm.qi I D⟩
 | (n,t,o,ns) :: gs,rs,y,h,k,x,C=>by
  unfold LO at h;split at h
  ·rename_i cs hm;split at h
   ·rename_i T Z;split at h
    ·rename_i x1 y1 h1 h2;injection h with h;subst h;have hw:=lJ t o T x1 h1;simp only[LN]at C;cases U:Nat.beq k n with
     | true=>
      rw[U,au]at C;injection C with C;subst C;obtain rfl:=cN U;obtain⟨E,I⟩:=SD cs ns T _ Z hw
      refine⟨_,hm,λw B af ρ D=>?_⟩
      cases D with
      |aB b off cells e _ us Y hl hh hs hc=>exact .aB b off cells e _ us Y hl hh (by rw[E];exact hs) λj z hz=>hc j z (I j z hz)
     | false=>
      rw[U,ax]at C;rcases SE cs ns T _ Z hw C with e|⟨v,y',E,rfl,I⟩
      ·exact ZH gs rs y1 h2 k x e
      ·refine⟨_,E,λw B af ρ D=>?_⟩
       cases D with
       |sl u _ Y D=>exact .sl u _ Y (D.wk I)
    ·cases h
   ·cases h
  ·cases h
def bD.ZI{D:bD}{x:D.St}(h:D.LP σ=some x)(C:R w0 N σ a w):R w0 N (D.mk' x) a w:=by
 unfold bD.LP at h;split at h
 ·rename_i u v O T;injection h with h;subst h;obtain⟨af,ρ,C⟩:=C
  refine⟨af,ρ,C.below,C.cV,λn y U=>?_,λk=>?_,C.size,C.defers,C.fix,C.cL⟩
  ·obtain⟨Y,E,I⟩:=ZH D.gs D.rs v T n y U;exact I _ _ _ _ (C.root n Y E)
  ·show RA _ _ _ _ (xV D.ts u k) _;rcases Sx D.ts σ.t u O k with e | ⟨m,z,E,I⟩
   ·rw[e];trivial
   ·rw[I];exact Tm.qi E (C.tmp k)
 ·cases h
def bD.qi{C:bD}{x:C.St}(h:C.rd σ=some x)(D:R w0 N σ a w):R w0 N (C.mk' x) a w:=by
 unfold bD.rd at h;split at h
 next y E=>injection h with h;subst h;exact bD.ZI E D
 ·split at h
  next z I=>exact bD.ZI h (jw.qi I D)
  ·cases h
end
def zM:Exit->aj Nat
 |.normal=>some 0
 |.ret=>some 1
 |.exit n=>some (n+2)
 |_=>none
def SF:Nat->Exit
 |0=>.normal
 |1=>.ret
 |n+2=>.exit n
def sW{e:Exit}{n:Nat}(h:zM e=some n):e=SF n:=by
 cases e<;>simp[zM]at h<;>subst h<;>rfl
def uw:aa (Nat×bD)->Type
 |[]=>Empty
 |(_,C)::r=>C.St⊕uw r
def LQ:(l:aa (Nat×bD))->Nat->S->aj (uw l)
 |[],_,_=>none
 | (n,C) :: r,e,σ=>bif Nat.beq n e then (match C.rd σ with
  |some x=>some (.inl x)
  |none=>none)else (match LQ r e σ with
  |some x=>some (.inr x)
  |none=>none)
def SG{X:Type}:(l:aa (Nat×bD))->uw l->(Exit->S->aj X)->aj X
 |[],z,_=>nomatch z
 | (n,C) :: r,z,k=>match z with
  |.inl x=>k (SF n) (C.mk' x)
  |.inr z=>SG r z k
def iter{α β:Type}(step:α->aj (α⊕β)):Nat->α->aj β
 |0,_=>none
 | n+1,x=>match step x with
  |some (.inl y)=>iter step n y
  |some (.inr z)=>some z
  |none=>none
def D1(P:Program)(N:Nat)(Φ:ef)(Λ:mB)(body:Code)(C:bD)(D:aa (Nat×bD))(x:C.St):aj (C.St⊕uw D):=
 lz P N Φ Λ body (C.mk' x) λe σ=>match zM e with
  | some 0=>(match C.rd σ with
   |some x=>some (.inl x)
   |none=>none)
  | some n=>(match LQ D n σ with
   |some x=>some (.inr x)
   |none=>none)
  |none=>none
def SH{X:Type}(id:Nat)(k:Exit->S->aj X)(e:Exit)(σ:S):aj X:=
 match e with
 |.exit C=>if C=id then k .normal σ else k (.exit C) σ
 |e=>k e σ
def LR(id:Nat)(C:bD)(D:aa (Nat×bD))(F:C.St->aj (C.St⊕uw D))(fuel:C.St->Nat):sR:=
 ⟨λX σ k=>match C.rd σ with
  | some x=>(match iter F (fuel x) x with
   |some z=>SG D z (SH id k)
   |none=>none)
  |none=>none⟩
def kL:aa (Bool×TC)->Type
 |[]=>ah
 |(_,t)::r=>T t×kL r
def gp:(l:aa (Bool×TC))->kL l->aa Pt
 |[],_=>[]
 |(b,t)::r,x=>(b,enc t 0 x.1)::gp r x.2
def ya:(l:aa (Bool×TC))->aa Pt->aj (kL l)
 |[],[]=>some ()
 | (b,t) :: r,(C,D) :: ps=>bif b==C then (match dec t 0 D,ya r ps with
  |some x,some xs=>some (x,xs)
  |_,_=>none)else none
 |_,_=>none
def iu(ai:aa (Bool×TC))(ro:aa (Bool×TC×Nat))(F:kL ai->aj (iI ro)):jn:=
 ⟨λX args k=>match ya ai args with
  | some x=>(match F x with
   |some y=>k (eT ro y)
   |none=>none)
  |none=>none⟩
def SI:Pt->A
 |(false,[x])=>.lf (.v x)
 |(true,xs)=>.agg (xs.map .v)
 |(false,.bool true::c::cs)=>.iW (c::cs)
 |(false,.bool false::.int .i64 (.ofNat g)::c::cs)=>.m7 g (c::cs)
 |_=>.undef
def ZJ(args:aa Pt):S:=⟨λk=>match args[k]? with
 |some p=>SI p
 |none=>.undef,λ_=>none⟩
def qj{X:Type}(P:Program)(N:Nat)(Φ:ef)(Λ:mB)(code:Code)(C:Array ResultVar)(args:aa Pt)(k:fV->aj X):aj X:=
 lz P N Φ Λ code (ZJ args) λe σ=>match zM e with
  |some 0=>F8 P σ C k
  |some 1=>F8 P σ C k
  |_=>none
section
variable {P:Program} {w w':World} {w0:Wd} {B N:Nat} {af aA:bk} {ρ ρ':Nat->Loc} {σ:S} {a:Act} {X:Type} {d:Nat} {r:X} {o:Oper} {Φ:ef} {Λ:mB}
def ZK:∀ (l:aa (Nat×bD)) (e:Nat) (z:uw l),LQ l e σ=some z->∀ (X:Type) (k:Exit->S->aj X),∃ D,SG l z k=k (SF e) D/\∀ a w,R w0 N σ a w->R w0 N D a w
 |[],e,z,h=>by cases h
 | (n,E) :: l,e,z,h=>by
  intro X k;unfold LQ at h;cases hb:Nat.beq n e with
  | true=>
   obtain rfl:=cN hb;rw[hb,au]at h;split at h
   next x C=>injection h with h;subst h;exact⟨E.mk' x,rfl,λa w I=>bD.qi C I⟩
   ·cases h
  | false=>
   rw[hb,ax]at h;split at h
   next x C=>injection h with h;subst h;exact ZK l e x C X k
   ·cases h
def akn{id:Nat}{body:Code}{E:bD}{U:aa (Nat×bD)}{F:E.St -> aj (E.St⊕uw U)}{fuel:E.St -> Nat}(dN:fK P Φ)(uy:oV P N Λ (occs body))(hF:∀ x,D1 P N Φ Λ body E U x=F x):BI P N (.block id (.loop body)) (LR id E U F fuel):=by
 intro X σ k r w0 h a w hR;simp only[LR]at h;split at h
 ·rename_i x I;split at h
  ·rename_i z hz;refine wp_block ?_;have key:∀ (n:Nat) (x:E.St),iter F n x=some z -> ∀ (a:Act) (w:World),R w0 N (E.mk' x) a w -> ∀ (b:Frame) (O:aa Item) (cs:aa Frame),
     ∃e T w',Exit.inBlock id (λe T w'=>∃c8,k e c8=some r/\R w0 N c8 T w') e T w'/\Arrives P (lone (b.at a (.code body::.inLoop body::O)) cs w) b O cs e T w':=by
    intro n
    induction n with
    |zero=>intro x I;simp[iter]at I
    | succ n ih=>
     intro x I a w hR b O cs;simp only[iter]at I;have jm:∃ y,D1 P N Φ Λ body E U x=some y/\(match y with | .inl y=>iter F n y=some z | .inr z'=>z'=z):=by
      rw[hF];split at I
      ·grind
      ·grind
      ·cases I
     obtain⟨y,hy,Y⟩:=jm;unfold D1 at hy;have hwp:=DX (w0:=w0) dN body _ _ hy uy a w hR;obtain⟨e,a1,w1,⟨qd,D,sO⟩,Z⟩:=hwp b (.inLoop body::O) cs;split at D
     ·rename_i C;have C:=sW C;subst C;split at D
      next x1 Gl=>injection D with D;subst D;obtain⟨e2,a2,w2,xj,ako⟩:=ih x1 Y a1 w1 (bD.qi Gl sO) b O cs;exact⟨e2,a2,w2,xj,.of_steps (Steps.trans Z (.one step_inLoop)) ako⟩
      ·cases D
     ·rename_i n' bY C;have C:=sW C;split at D
      ·rename_i z1 SJ;injection D with D;subst D;have Y:z1=z:=Y;subst Y;obtain⟨σ2,nP,nj⟩:=ZK (w0:=w0) (N:=N) U n' z1 SJ X (SH id k);rw[nP]at h;rw[<- C]at h;refine⟨e,a1,w1,?_,?_⟩
       ·cases e with
        | exit Zu=>
         simp only[SH]at h;simp only[Exit.inBlock];split at h
         ·grind
         ·grind
        |_=>exact⟨σ2,h,nj a1 w1 sO⟩
       ·refine .pass (x:=.inLoop body) rfl (λ_ _=>.inl ?_) Z
        intro e';rw[e']at C
        match n',bY,C with
        |0,bY,_=>exact bY rfl
        |1,_,C=>cases C
        |n+2,_,C=>cases C
      ·cases D
     ·cases D
   intro b O cs;obtain⟨e,T,w',hq,Z⟩:=key (fuel x) x hz a w (bD.qi I hR) b O cs;exact⟨e,T,w',hq,.of_steps (.one step_loop) Z⟩
  ·cases h
 ·cases h
def PV.ug{key:Nat->aa Nat}{b:Bool}{xs ys:aa V}{u:Value}(h:PV w B af key (b,xs) u)(k:kV xs ys):PV w B af key (b,ys) u:=by
 obtain⟨us,E,I,O⟩:=h
 refine⟨us,E,I.trans k.1,λj y C=>?_⟩
 have D:j<xs.length:=by rw[k.1];exact(dK.1 C).1
 obtain⟨v,hv,T⟩:=O j _ (bJ D);exact⟨v,hv,T.wk (k.2 j _ y (bJ D) C)⟩
def zi.ug{cs C:aa V}{u:Value}(h:zi w cs u)(k:kV cs C):zi w C u:=by
 obtain⟨b,off,I,hb,O⟩:=h
 refine⟨b,off,I,hb,λj y D=>?_⟩
 have E:j<cs.length:=by rw[k.1];exact(dK.1 D).1
 obtain⟨v,hv,T⟩:=O j _ (bJ E);exact⟨v,hv,T.wk (k.2 j _ y (bJ E) D)⟩
def PA.ug{b:Bool}{xs ys:aa V}{u:Value}(h:PA w (b,xs) u)(k:kV xs ys):PA w (b,ys) u:=by
 cases h with
 |v _ _ h=>exact .v _ _ (h.ug k)
 | p c cs _ h=>
  obtain⟨y,E,rfl,C,D⟩:=k.inv;cases C;have h:=h.ug D;obtain⟨O,eV,rfl,_,_⟩:=D.inv;exact .p _ _ _ h
 | f g c cs u h=>
  obtain⟨y,E,rfl,C,D⟩:=k.inv;cases C;obtain⟨y,E,rfl,C,I⟩:=D.inv;cases C;have h:=h.ug I;obtain⟨O,eV,rfl,_,_⟩:=I.inv;exact .f _ _ _ _ h
def PA.ra{p:Pt}{u:Value}(h:PA w p u)(D:∀ y∈p.2,y.aG=true):RA w w.heap.size (λ_=>none) ρ (SI p) u:=by
 have T:∀ {cs:aa V} {u:Value},zi w cs u -> (∀ y∈cs,y.aG=true) -> RF w w.heap.size (λ_=>none) cs u:=by
  rintro cs u ⟨b,off,rfl,hb,E⟩ D
  refine⟨b,off,rfl,hb,rfl,λj x U=>⟨D x (gC U),E j x U⟩⟩
 cases h with
 | v _ _ h=>
  obtain⟨us,Y,Z,E⟩:=h;obtain⟨b,xs⟩:=p;cases b with
  | true=>
   refine⟨us,Y,by rw[eS];exact Z,λi y C=>?_⟩
   rw[ez]at C;cases I:xs[i]? with
   |none=>simp_all
   | some z=>
    rw[I]at C;injection C with C;subst C;obtain⟨v,hv,O⟩:=E i z I;exact⟨v,hv,D z (gC I),O⟩
  | false=>
   subst Y;have h1:=Z.symm;obtain⟨x,rfl⟩:=List.length_eq_one_iff.1 h1;obtain⟨v,hv,O⟩:=E 0 x rfl;have:u=v:=by simpa using hv
   subst this;exact⟨D x (by simp),O⟩
 |p c cs _ h=>exact T h λy C=>D y (.tail _ C)
 |f g c cs u h=>exact⟨u,rfl,T h λy C=>D y (.tail _ (.tail _ C))⟩
def SK:∀ (l:aa (Bool×TC)) (ps:aa Pt) (x:kL l),ya l ps=some x -> (gp l x).length=ps.length /\ ∀ (i:Nat) p,(gp l x)[i]?=some p -> ∃ q,ps[i]?=some q/\q.1=p.1/\kV q.2 p.2
 |[],[],x,h=>⟨rfl,λi p hp=>by simp[gp]at hp⟩
 | (b,t) :: r,(C,D) :: ps,x,h=>by
  unfold ya at h;cases hb:b==C with
  |false=>simp_all
  | true=>
   rw[hb,au]at h;have hb:b=C:=by simpa using hb
   subst hb;split at h
   ·rename_i y ys E I;injection h with h;subst h;obtain⟨O,T⟩:=SK r ps ys I
    refine⟨by simp[gp,O],λi p hp=>?_⟩
    cases i with
    |zero=>simp[gp]at hp;subst hp;exact⟨(b,D),rfl,rfl,lJ t 0 D y E⟩
    |succ i=>exact T i p (by simpa [gp]using hp)
   ·cases h
 |[],_::_,x,h=>by simp[ya]at h
 |_::_,[],x,h=>by simp[ya]at h
def lU(l:aa (Bool×TC×Nat)):Bool:=l.all λp=>Nat.ble (full p.2.1) p.2.2
def ZL(t:TC)(g:Nat)(x:T t)(h:full t <= g):(enc t g x).all V.loc=true:=by
 rw[bT];intro y D;have hg:=yP t g x y D;have hl:=J7 t g x y D;cases y with
 | sl E C q l=>
  have I:C=g:=by simpa [V.gr]using hg
  subst I;have hl:=cz hl;show zj E C=true
  match C,h with
  |0,h=>omega
  |1,h=>omega
  | n+2,h=>
   simp only[zj,dQ];left;exact jj (by omega)
 |_=>rfl
def SL:∀ (l:aa (Bool×TC×Nat)) (ps:aa Pt) (x:iI l),lU l=true -> qa l ps=some x -> (uc l x).length=ps.length /\ ∀ (nm:Nat -> Nat) (off:Nat) (C:aa Value),jI w B af nm off ps C -> jI w B af nm off (uc l x) C
 |[],[],x,_,h=>⟨rfl,λnm off C D=>D⟩
 | [(b,t,g)],[(E,C)],x,O,h=>by
  unfold qa at h;cases hb:b==E with
  |false=>rw[hb]at h;cases h
  | true=>
   rw[hb]at h;have h:dec t g C=some x:=h;have hb:b=E:=by simpa using hb
   subst hb;have hg:full t <= g:=by simpa [lU]using O
   refine⟨rfl,λnm off us D=>?_⟩
   match us,D with
   |[u],⟨⟨_,I⟩,_⟩=>exact⟨⟨ZL t g x hg,I.ug (lJ t g C x h)⟩,trivial⟩
 | (b,t,g) :: q :: r,(E,C) :: ps,x,O,h=>by
  unfold qa at h;cases hb:b==E with
  |false=>grind
  | true=>
   rw[hb,au]at h;have hb:b=E:=by simpa using hb
   subst hb;have T:full t <= g/\lU (q :: r)=true:=by
    simp only[lU,List.all_cons,aJ]at O ⊢;simp_all
   split at h
   ·rename_i y ys I U;injection h with h;subst h;obtain⟨Y,Z⟩:=SL (q :: r) ps ys T.2 U
    refine⟨by simp[uc,Y],λnm off us D=>?_⟩
    match us,D with
    | u :: us,⟨⟨_,hp⟩,zg⟩=>
     have hlen:=(lJ t g C y I).1;refine⟨⟨ZL t g y T.1,hp.ug (lJ t g C y I)⟩,?_⟩;simp_all
   ·cases h
 |[],_::_,x,_,h=>by simp[qa]at h
 |[_],[],x,_,h=>by simp[qa]at h
 |[_],_::_::_,x,_,h=>by simp[qa]at h
 |_::_::_,[],x,_,h=>by simp[qa]at h
def ZM{l:aa (Bool×TC×Nat)}{E:fV}{x:iI l}(O:lU l=true)(h:lQ l E=some x){nm:Nat -> Nat}{v:Value}(D:p7 w B af nm E v):p7 w B af nm (eT l x) v:=by
 cases E with
 | one p=>
  obtain⟨C,I⟩:=SL (w:=w) (B:=B) (af:=af) l [p] x O h;have D:jI w B af nm 0 [p] [v]:=D;have:=I nm 0 [v] D;unfold eT
  match hm:uc l x,C,this with
  |[q],_,this=>exact this
  |[],C,_=>cases C
  |_::_::_,C,_=>simp at C
 | eY ps=>
  simp only[lQ]at h;cases hb:Nat.beq ps.length 1 with
  |true=>simp_all
  | false=>
   rw[hb,ax]at h;obtain⟨C,I⟩:=SL (w:=w) (B:=B) (af:=af) l ps x O h;obtain⟨T,e,D⟩:=D;have:=I nm 0 _ D;unfold eT
   match hm:uc l x,C,this with
   |[q],C,this=>simp_all
   |[],_,this=>exact⟨T,e,this⟩
   |_::_::_,_,this=>exact⟨T,e,this⟩
def ZN:∀ (l:aa (Bool×TC)) (x:kL l),(gp l x).length=l.length
 |[],x=>rfl
 |(b,t)::l,x=>by simp[gp,ZN l]
def ZO:∀ (l:aa (Bool×TC)) (x:kL l) (j:Nat) (p:Pt),(gp l x)[j]?=some p->∀ y∈p.2,y.aG=true
 |[],x,j,p,hp,_,_=>by simp[gp]at hp
 | (b,t) :: l,x,0,p,hp,y,C=>by
  simp[gp]at hp;subst hp;obtain⟨i,hi⟩:=List.mem_iff_getElem?.1 C;exact pW t 0 x.1 (by omega) i y hi
 |(b,t)::l,x,j+1,p,hp,y,C=>ZO l x.2 j p (by simpa [gp]using hp) y C
def G5{f:Nat}{fn:Func}{code:Code}{uz:aa Pt}{ro:aa (Bool×TC×Nat)}{y:iI ro}(hf:P.funcs[f]?=some fn)(hb:fn.body=some code)(hN:fn.ntmps=N)(T:uz.length <= N)(fl:lU ro=true)
  (dN:fK P Φ) (uy:oV P N Λ (occs code)) (akp:∀(j:Nat) p,uz[j]?=some p -> ∀y∈p.2,y.aG=true) (I:qj P N Φ Λ code fn.results uz (lQ ro)=some y) (nm:Nat -> Nat) (w:World) (bC:Array Value) (U:oR w uz bC) (Y:Hd w (λ_=>none)):
  Calls P f bC w λe w'=>∃v aA,e = .returned v/\Below w.heap.size w w'/\(∀b k,aA b=some k -> w.heap.size <= b/\b<w'.heap.size/\k≠[])/\p7 w' w.heap.size aA nm (eT ro y) v:=by
 have T:bC.size <= N:=by rw[U.1];exact T
 refine calls_of_wp hf hb ?_;unfold qj at I;have hR:R (.of w Y) N (ZJ uz) { tmps:=bC++Array.replicate (fn.ntmps-bC.size) undef,defers:=[] } w:=by
  refine⟨λ_=>none,λ_=>.aB 0 0,.of (Below.refl w.heap.size w) (dB _),(λb k D=>by cases D),(λn y I=>by cases I),λj=>?_,by simp[hN];omega,rfl,(λr l h=>by cases h),(λ_ _=>rfl)⟩
  show RA w w.heap.size _ _ (match uz[j]? with|some p=>SI p|none=>.undef) _;cases hp:uz[j]? with
  |none=>trivial
  | some p=>
   obtain⟨u,Z,vC⟩:=U.2 j p hp;have hj:=(iz.1 Z).1;have e:(bC++Array.replicate (fn.ntmps-bC.size) undef).getD j undef=u:=by rw[ig,Array.getElem?_append_left hj,Z];rfl
   rw[e];exact vC.ra (akp j p hp)
 refine wp_mono (DX (w0:=.of w Y) dN code _ _ I uy _ w hR) λe O w' C=>?_
 obtain⟨c8,D,af,ρ,E⟩:=C;have fin:F8 P c8 fn.results (lQ ro)=some y -> O.defers=[] /\ ∃ v,(results fn O.tmps).run P w' = .ok v w' /\ ∃ zN aA,Ending.returned v=Ending.returned zN/\Below w.heap.size w w'/\(∀ b k,aA b=some k -> w.heap.size <= b/\b<w'.heap.size/\k≠[])/\p7 w' w.heap.size aA nm (eT ro y) zN:=by
  intro SM;obtain⟨res,ki,eU⟩:=ahE SM;obtain⟨v,aA,h1,h2,h3⟩:=eU af ρ O w' E nm;exact⟨E.defers,v,h1,v,aA,rfl,⟨E.below.os,E.below.tape,E.below.output,E.below.size,λk D=>E.below.block k D rfl⟩,λb k hb=>⟨(h2 b k hb).1.resolve_right (λh=>h rfl),(h2 b k hb).2⟩,ZM fl ki h3⟩
 split at D
 next C=>have C:=sW C;subst C;exact fin D
 next C=>have C:=sW C;subst C;exact fin D
 ·cases D
def akq{ai:aa (Bool×TC)}{args:aa Pt}{x:kL ai}{bC:Array Value}(E:ya ai args=some x)(C:oR w args bC):oR w (gp ai x) bC:=by
 obtain⟨I,O⟩:=SK ai args x E
 refine⟨C.1.trans I.symm,λj p hp=>?_⟩
 obtain⟨q,hq,D,T⟩:=O j p hp;obtain⟨u,U,Y⟩:=C.2 j q hq;refine⟨u,U,?_⟩;obtain⟨b,ys⟩:=p;obtain⟨Z,xs⟩:=q;simp only at D;subst D;exact Y.ug T
def SN{f:Nat}{ai:aa (Bool×TC)}{ro:aa (Bool×TC×Nat)}{F:kL ai->aj (iI ro)}(h:∀ x y,F x=some y->∀ (nm:Nat->Nat) (w:World) (bC:Array Value),oR w (gp ai x) bC->Hd w (λ_=>none)->
  Calls P f bC w λe w'=>∃v aA,e = .returned v/\Below w.heap.size w w'/\(∀b k,aA b=some k->w.heap.size<=b/\b<w'.heap.size/\k≠[])/\p7 w' w.heap.size aA nm (eT ro y) v):iO P f (iu ai ro F):=by
 refine⟨λargs X Y k g=>?_,λargs T C nm w bC D E=>?_⟩
 ·unfold iu;dsimp only;split
  ·split<;>rfl
  ·rfl
 ·simp only[iu]at C;split at C
  ·rename_i x I;split at C
   next y O=>injection C with C;subst C;exact h x y O nm w bC (akq I D) E
   ·cases C
  ·cases C
def akr{f:Nat}{fn:Func}{code:Code}{ai:aa (Bool×TC)}{ro:aa (Bool×TC×Nat)}{F:kL ai->aj (iI ro)}(C:P.funcs[f]?=some fn)(hb:fn.body=some code)(hN:fn.ntmps=N)(D:(fn.name == "runtime.NumGoroutine")=false)(E:Nat.ble ai.length N=true)(I:lU ro=true)
  (O:fK P Φ) (T:oV P N Λ (occs code)) (hF:∀x,qj P N Φ Λ code fn.results (gp ai x) (lQ ro)=F x):enters P f/\iO P f (iu ai ro F):=
 ⟨⟨fn,C,D,by rw[hb];rfl⟩,SN λx y U nm w bC Y Z=>G5 C hb hN (by rw[ZN];exact cz E) I O T (ZO ai x) ((hF x).trans U) nm w bC Y Z⟩
def aks{f:Nat}{fn:Func}{code:Code}{t:TC}{g:Nat}{F:aa (T t)->aj (aa (T t))}(D:P.funcs[f]?=some fn)(hb:fn.body=some code)(hN:fn.ntmps=N)(BS:(fn.name == "runtime.NumGoroutine")=false)(G6:Nat.ble 1 N=true)(I:lU [(false,.sl t,g)]=true)
  (O:fK P Φ) (U:oV P N Λ (occs code)) (hF:∀x:aa (T t),qj P N Φ Λ code fn.results [(false,[.sl t 0 false x])] (lQ [(false,.sl t,g)])=F x)
  (h0:qj P N Φ Λ code fn.results [(false,[.nil])] (lQ [(false,.sl t,g)])=some ([]:aa (T t))) (h1:qj P N Φ Λ code fn.results [(false,[.sl t 0 true []])] (lQ [(false,.sl t,g)])=some ([]:aa (T t))):
  enters P f/\iO P f (iu [(false,.sl t)] [(false,.sl t,g)] λx=>bif jH x.1 then some ([]:aa (T t))else F x.1):=by
 refine⟨⟨fn,D,BS,by rw[hb];rfl⟩,SN λx y C nm w bC E Y=>?_⟩
 obtain⟨l,_⟩:=x;have E:oR w [(false,[.sl t 0 false l])] bC:=E;have Z:1<=N:=cz G6;have LS:∀ (v:V),v.aG=true->∀ (j:Nat) p,([(false,[v])]:aa Pt)[j]?=some p->∀ y∈p.2,y.aG=true:=by
  intro v hv j p hp y C;rcases j with _|j
  ·injection hp with hp;subst hp;rw[gf.1 C];exact hv
  ·cases hp
 obtain⟨u,hu,hp⟩:=E.2 0 _ rfl;obtain⟨us,e,_,hv⟩:=hp.pv;have e:us = #[u]:=e;subst e;obtain⟨v,g1,hr⟩:=hv 0 _ rfl;have g1:u=v:=by simpa using g1
 subst g1;have one:∀ v:V,RV w w.heap.size (λ_=>none) [] v u->oR w [(false,[v])] bC:=λv hr=>⟨E.1,λj p hp=>by
  rcases j with _|j
  ·injection hp with hp;subst hp;exact⟨u,hu,.v _ _ ⟨#[u],rfl,rfl,λi x hx=>by
    rcases i with _|i
    ·injection hx with hx;subst hx;exact⟨u,rfl,hr⟩
    ·cases hx⟩⟩
  ·cases hp⟩
 cases l with
 |cons a l=>exact G5 (uz:=[(false,[.sl t 0 false (a::l)])]) D hb hN Z I O U (LS _ rfl) ((hF _).trans C) nm w bC E Y
 | nil=>
  have C:some ([]:aa (T t))=some y:=C;injection C with C;subst C;cases hr with
  |eD=>exact G5 (uz:=[(false,[.nil])]) D hb hN Z I O U (LS _ rfl) h0 nm w bC (one _ (.nil _)) Y
  |fF _ _ _ A c ho=>exact G5 (uz:=[(false,[.sl t 0 true []])]) D hb hN Z I O U (LS _ rfl) h1 nm w bC (one _ (.fP _ _ _ _ _ ho)) Y
  |aG _ _ _ qn l b off cap us ho hl Bg hB lK hc ng=>exact G5 (uz:=[(false,[.sl t 0 true []])]) D hb hN Z I O U (LS _ rfl) h1 nm w bC (one _ (.fP _ _ _ _ _ ho)) Y
end
def G7(N:Nat)(σ:S)(t:Nat):S:=match σ.t t with
 | .view [q] s 0 j=>bif Nat.blt t N then (match σ.m q with
  |some (.sl (.sl tc (o+2) C l))=>bif Nat.beq (full tc) 0 then (((σ.drop q).drop t).root t (.sl (.sl tc 2 false (l.take j)))).set t (.lf (.own [t]))else σ
  |_=>σ)else σ
 |_=>σ
def vM(N:Nat)(σ:S):aa ResultVar->S
 |[]=>σ
 |.tmp t::r=>vM N (G7 N σ t) r
 |_::r=>vM N σ r
def BU{X:Type}(P:Program)(N:Nat)(Φ:ef)(Λ:mB)(code:Code)(C:Array ResultVar)(D:aa In)(args:aa Ar)(k:aa In->fV->aj X):aj X:=
 lz P N Φ Λ code (xx D args) λe σ=>match zM e with
  |some 0=>Ge P (vM N σ C.toList) C D k
  |some 1=>Ge P (vM N σ C.toList) C D k
  |_=>none
section
variable {P:Program} {w w':World} {w0:Wd} {B N:Nat} {af aA:bk} {ρ ρ':Nat->Loc} {σ:S} {a:Act} {X:Type} {d:Nat} {r:X} {o:Oper} {Φ:ef} {Λ:mB}
def Rl.G7{t:Nat}(h:Rl w0 N af ρ σ a w):∃ aA ρ',Rl w0 N aA ρ' (Proofs.YtpigmalhjkekiaaGreat.G7 N σ t) a w:=by
 unfold Proofs.YtpigmalhjkekiaaGreat.G7;split
 ·rename_i q s j ht;cases hN:Nat.blt t N with
  |false=>exact⟨af,ρ,h⟩
  | true=>
   have hN:t<N:=by have:=cz hN;omega
   rw[au];split
   ·rename_i tc g qn l hm;cases U:Nat.beq (full tc) 0 with
    |false=>exact⟨af,ρ,h⟩
    | true=>
     have U:=cN U;rw[au];have hv:=h.tmp t;rw[ht]at hv;obtain⟨A,n,c,Y,_,hj,hu⟩:=hv;have fq:sliced A 0 j c s = .slice A j c:=by cases A<;>simp[sliced,Addr.add]
     rw[fq]at hu;let D:bk:=λb=>match af b with
      |some k=>bif cG q k then (bif Nat.beq k.length 1 then some [t]else none)else some k
      |none=>none
     have hrel:Rel q af D:=⟨h.xe,λb hb=>by simp[D,hb],λb k hb C=>by simp[D,hb,C]⟩
     have h1:=h.rel hrel (λb k C=>by
      simp only[D]at C;cases hl:af b with
      |none=>rw[hl]at C;cases C
      | some k'=>
       rw[hl]at C;simp only at C;refine⟨⟨_,rfl⟩,?_⟩;cases hq:cG q k' with
       | true=>
        rw[hq,au]at C;cases hlen:Nat.beq k'.length 1 with
        |true=>rw[hlen,au]at C;injection C with C;rw[<- C];simp
        |false=>rw[hlen,ax]at C;cases C
       | false=>
        rw[hq,ax]at C;injection C with C;subst C;exact(h.cV b k' hl).2.2)
     have fl:=h.root q _ hm;generalize I:aS.sl (.sl tc (g+2) qn l)=z at fl;cases fl with
     |aB=>cases I
     |mp=>cases I
     |gh=>cases I
     | sl v y cm O=>
      injection I with I;subst I;simp only[cQ,cm]at Y;injection Y with Y;subst Y;have hn:n=l.length:=by cases O<;>rfl
      have akt:RV w w0.heap.size D [t] (.sl tc 2 false (l.take j)) (.slice A j c):=by
       cases O with
       | eD=>
        have:j=0:=by simpa using hj
        subst this;exact .eD _ _ _
       |fF _ _ _ _ _ ho=>omega
       |fP _ _ _ _ _ ho=>omega
       |aG _ _ _ _ _ _ _ _ _ ho=>omega
       | own _ _ _ _ _ b cap cs us nR hh hs Be su hc O=>
        have hl:(l.take j).length=j:=by rw[jF];omega
        have hle:∀i (hi:i<(l.take j).length),∃Z:i<l.length,(l.take j)[i]=l[i]:=λi hi=>⟨by omega,List.getElem_take⟩
        have:=RV.own (w:=w) (B:=w0.heap.size) (af:=D) [t] tc 0 false (l.take j) b c cs us (by simp[D,nR,cG]) hh hs (by omega) ⟨su.1,λh=>by cases h⟩ (λi hi k x T=>by
         obtain⟨Z,e⟩:=hle i hi;rw[e,Dh tc U 0]at T;exact hc i Z k x T) (λi hi k x T=>by
         obtain⟨Z,e⟩:=hle i hi;rw[e,Dh tc U 0]at T;exact(O i Z k x T).tR (yO tc g _ U x (gC T)))
        rw[hl]at this;exact this
      have hrm:De w w D D t:=⟨dB _,λ_ _ _=>rfl,λ_ _=>rfl,h1.xe⟩
      have E:=h1.yW (d:=t) (ρ':=bG ρ t (.dG (.slice A j c))) (x:=.sl (.sl tc 2 false (l.take j))) (h.cL t (.inl hN)) ⟨rfl,rfl,rfl,dB _,λ_ _ _=>rfl⟩ hrm (λb k hb C=>by
       have:=(h1.cV b k C).2.1;omega) (λr O=>cr _ _ _ O) (.sl _ _ (bK _ _ _) akt)
      refine⟨_,_,E.below,E.cV,E.root,λk=>?_,E.size,E.defers,E.fix,E.cL⟩
      show RA w w0.heap.size D _ (bG _ t _ k) _;by_cases C:k=t
      ·subst C;rw[bK,hu];exact⟨rfl,by simp only[cQ,bK]⟩
      ·rw[cr _ _ _ C];exact E.tmp k
   ·exact⟨af,ρ,h⟩
 ·exact⟨af,ρ,h⟩
def Rl.vM:∀ (l:aa ResultVar) (σ:S) (af:bk) (ρ:Nat -> Loc),Rl w0 N af ρ σ a w -> ∃ aA ρ',Rl w0 N aA ρ' (Proofs.YtpigmalhjkekiaaGreat.vM N σ l) a w
 |[],_,af,ρ,h=>⟨af,ρ,h⟩
 | .tmp t :: r,_,_,_,h=>by
  obtain⟨C,D,E⟩:=h.G7;exact Rl.vM r _ C D E
 |.cell _ _::r,_,af,ρ,h=>Rl.vM r _ af ρ h
def fnM_core{f:Nat}{fn:Func}{code:Code}{C:aa In}{args:aa Ar}{k:aa In -> fV -> aj X}(hf:P.funcs[f]?=some fn)(hb:fn.body=some code)(hN:fn.ntmps=N)(D2:N <= 20000)(hlen:args.length <= N)
  (dN:fK P Φ) (uy:oV P N Λ (occs code)) (h:BU P N Φ Λ code fn.results C args k=some r) (nm:Nat -> Nat) (w:World) (af:bk) (ρ:Nat -> Loc) (bC:Array Value)
  (hE:oS w w.heap.size af ρ 0 C) (nY:∀b k,af b=some k -> b<w.heap.size/\k≠[]) (iy:bC.size=args.length) (hv:∀i,RA w w.heap.size af ρ ((xx C args).t i) (bC.getD i undef)) (T:Hd w af):
  Calls P f bC w λe w'=>∃v aA outs D,k outs D=some r/\e = .returned v/\iX ⟨w,af,λ_=>none,T,λ_ _=>rfl⟩ w w'/\(∀b k,aA b=some k -> (w.heap.size <= b \/ af b≠none)/\b<w'.heap.size/\k≠[])/\p7 w' w.heap.size aA nm D v/\rj w w' aA ρ nm 0 D.len C outs:=by
 let W:Wd:=⟨w,af,λr=>if 20000 <= r/\r<60000 then some (ρ r)else none,T,λr hr=>aW⟩
 refine calls_of_wp hf hb ?_;unfold BU at h;have hR:R W N (xx C args) { tmps:=bC++Array.replicate (fn.ntmps-bC.size) undef,defers:=[] } w:=by
  refine⟨af,ρ,.of (Below.refl w.heap.size w) (dB _),λb k hb=>⟨.inr (by rw[show W.L b=af b from rfl,hb];simp),nY b k hb⟩,oS.roots C 0 _ hE (λr x hx=>by cases hx),λj=>?_,by simp[hN];omega,rfl,λr l hr=>?_,λr hr=>?_⟩
  ·by_cases hj:j<bC.size
   ·have e:(bC++Array.replicate (fn.ntmps-bC.size) undef).getD j undef=bC.getD j undef:=by
     rw[ig,Array.getElem?_append_left hj,ig]
    rw[e];exact hv j
   ·have e:(xx C args).t j = .undef:=by
     simp only[xx,qO (by omega:args.length <= j)]
    rw[e];trivial
  ·grind
  ·grind
 refine wp_mono (DX (w0:=W) dN code _ _ h uy _ w hR) λe U w' E=>?_
 obtain⟨c8,O,Dz,Dy,I⟩:=E;have fin:Ge P (Proofs.YtpigmalhjkekiaaGreat.vM N c8 fn.results.toList) fn.results C k=some r -> U.defers=[] /\ ∃ v,(results fn U.tmps).run P w' = .ok v w' /\ ∃ zN aA outs D,k outs D=some r/\Ending.returned v=Ending.returned zN/\iX ⟨w,af,λ_=>none,T,λ_ _=>rfl⟩ w w'/\(∀ b k,aA b=some k -> (w.heap.size <= b \/ af b≠none)/\b<w'.heap.size/\k≠[])/\p7 w' w.heap.size aA nm D zN/\rj w w' aA ρ nm 0 D.len C outs:=by
  intro SM;obtain⟨outs,D,hko,eU⟩:=ahG (w0:=W) rfl (λr Y Z=>aV ⟨Y,Z⟩) (oS.QF C 0 hE) SM;obtain⟨dz,fe,nj⟩:=Rl.vM _ c8 Dz Dy I;obtain⟨v,aA,Y,Z,h3,h4⟩:=eU dz fe U w' nj nm;exact⟨I.defers,v,Y,v,aA,outs,D,hko,rfl,⟨I.below.os,I.below.tape,I.below.output,I.below.size,λk O=>I.below.block k O⟩,Z,h3,h4⟩
 split at O
 next E=>have E:=sW E;subst E;exact fin O
 next E=>have E:=sW E;subst E;exact fin O
 ·cases O
end
def rL:(l:aa (Bool×TC×Nat))->aa In->aj (rm l)
 |[],[]=>some ()
 | (true,t,g) :: r,.aB cs :: is=>match dec t g cs,rL r is with
  |some x,some xs=>some (x,xs)
  |_,_=>none
 | (false,t,g) :: r,.sl y :: is=>match (bif Nat.ble 1000000 g then (bif y.kf then none else y.fk t (g+2))else bif y.kf then y.fk t (g+2)else none),rL r is with
  |some x,some xs=>some (x,xs)
  |_,_=>none
 |_,_=>none
def LU:aa In->aa In->aa In->Prop
 |[],[],[]=>True
 |.aB I::C,.aB cs::r,.aB eV::D=>(kV cs eV/\I.map (λv=>(v.plain,v.aG))=eV.map (λv=>(v.plain,v.aG))/\∀x∈eV,x.kf=true)/\LU C r D
 |.sl _::C,.sl y::r,.sl E::D=>(Wk y E/\(y = .nil->E = .nil))/\LU C r D
 |_,_,_=>False
def LV:∀ (ps:aa PK) (C:kZ ps) (is:aa In) (x:rm (eF ps)),rL (eF ps) is=some x -> LU (nq ps C) is (iP (eF ps) x)
 |[],_,[],x,_=>trivial
 |[],_,_::_,x,h=>by simp[rL,eF]at h
 |.v b t::ps,C,is,x,h=>LV ps C.2 is x h
 |.p t g off::ps,C,[],x,h=>by simp[rL,eF]at h
 |.s t g::ps,C,[],x,h=>by simp[rL,eF]at h
 |.p t g off::ps,C,.sl _::_,x,h=>by simp[rL,eF]at h
 |.s t g::ps,C,.aB _::_,x,h=>by simp[rL,eF]at h
 | .p t g off :: ps,C,.aB cs :: is,x,h=>by
  have h:rL ((true,t,g)::eF ps) (.aB cs::is)=some x:=h;unfold rL at h;split at h
  next y ys D I=>injection h with h;subst h;exact⟨⟨lJ t g cs y D,agK t g C.1 y,λz O=>Pv t g y z O⟩,LV ps C.2 is ys I⟩
  ·cases h
 | .s t g :: ps,C,.sl y :: is,x,h=>by
  have h:rL ((false,t,g)::eF ps) (.sl y::is)=some x:=h;unfold rL at h;split at h
  ·rename_i z T D I;injection h with h;subst h;refine⟨?_,LV ps C.2 is T I⟩;cases hb:Nat.ble 1000000 g with
   | true=>
    cases E:y.kf with
    |true=>simp_all
    | false=>
     have:y = .nil:=by cases y<;>first|rfl|cases E
     subst this;exact⟨.same _,λ_=>rfl⟩
   | false=>
    cases E:y.kf with
    |false=>simp_all
    | true=>
     rw[hb,E]at D;exact⟨V.Ft D,λe=>by subst e;cases E⟩
  ·cases h
def rj.typed{w w':World}{aA:bk}{ρ:Nat -> Loc}{nm:Nat -> Nat}:∀ (E:aa In) (i U:Nat) (outs T:aa In),rj w w' aA ρ nm i U E outs -> LU E outs T -> Gd w w' aA ρ nm i U E T
 |[],i,U,[],[],h,C=>trivial
 | .aB ZP :: E,i,U,.aB ZQ :: outs,.aB cs2 :: T,h,C=>by
  obtain⟨⟨b,off,cells,xy,e,e',Y,Z,h3,h4,h5,h6,h7⟩,hr⟩:=h;obtain⟨⟨hw,SO,hnn⟩,kJ⟩:=C
  refine⟨⟨b,off,cells,xy,e,e',Y,Z,h3,h4,by rw[<- hw.1];exact h5,by rw[<- hw.1];exact h6,λj x hx=>?_⟩,rj.typed E _ _ outs T hr kJ⟩
  have hj:j<ZQ.length:=by rw[hw.1];exact(dK.1 hx).1
  obtain⟨u,hu,hc⟩:=h7 j _ (bJ hj);have C:=hw.2 j _ x (bJ hj) hx;have G8:∀ I,ZP[j]?=some I -> I.plain=x.plain/\I.aG=x.aG:=by
   intro I h0;have e1:(ZP.map (λv=>(v.plain,v.aG)))[j]?=(cs2.map (λv=>(v.plain,v.aG)))[j]?:=by rw[SO]
   grind
  have hxn:=hnn x (gC hx);generalize ZQ[j]=y at hc C;refine⟨u,hu,?_⟩;rcases hc with ⟨D,O⟩|⟨D,O,I,c3,c4⟩|⟨D,O,c6,⟨I,c3,c4⟩,c5⟩|⟨D,O⟩
  ·cases C with
   |same=>grind
   |nil t o=>cases D
   |q t o l=>cases D
   |gr=>cases D
  ·subst D O;have hf:x.aG=false:=by rw[<- (G8 I c3).2];exact c4
   cases C with
   |same=>cases hxn
   |nil t o=>exact .inr (.inr ⟨hf,.eD _ _ _⟩)
  ·cases C with
   |same=>grind
   |nil t o=>cases c6
   |q t o l=>exact .inr (.inl ⟨rfl,O,c5⟩)
   |gr t o o' qn l Y Z=>simp[V.aG]at O;omega
  ·have hf:=C.QL D;exact .inr (.inr ⟨hf,O.wk C⟩)
 | .sl y0 :: E,i,U,.sl y1 :: outs,.sl y2 :: T,h,C=>by
  obtain⟨h,hr⟩:=h;obtain⟨⟨hw,hn⟩,kJ⟩:=C;exact⟨h.imp hn (λ⟨v,Y,Z⟩=>⟨v,Y,Z.wk hw⟩),rj.typed E _ _ outs T hr kJ⟩
 |[],_,_,_::_,_,h,_=>h.elim
 |[],_,_,[],_::_,_,h=>h.elim
 |.aB _::_,_,_,[],_,h,_=>h.elim
 |.sl _::_,_,_,[],_,h,_=>h.elim
 |.aB _::_,_,_,.sl _::_,_,h,_=>h.elim
 |.sl _::_,_,_,.aB _::_,_,h,_=>h.elim
 |.aB _::_,_,_,.aB _::_,[],_,h=>h.elim
 |.aB _::_,_,_,.aB _::_,.sl _::_,_,h=>h.elim
 |.sl _::_,_,_,.sl _::_,[],_,h=>h.elim
 |.sl _::_,_,_,.sl _::_,.aB _::_,_,h=>h.elim
def ZR:∀ (l:aa (Bool×TC×Nat)) (ps:aa Pt) (x:iI l),qa l ps=some x -> (ps.map λp=>p.2.length)=((uc l x).map λp=>p.2.length)
 |[],[],x,h=>rfl
 | [(b,t,g)],[(C,D)],x,h=>by
  unfold qa at h;cases hb:b==C with
  |false=>rw[hb]at h;cases h
  | true=>
   rw[hb]at h;simp[uc,(lJ t g D x h).1]
 | (b,t,g) :: q :: r,(C,D) :: ps,x,h=>by
  unfold qa at h;cases hb:b==C with
  |false=>simp_all
  | true=>
   rw[hb]at h;split at h
   next y ys E I=>injection h with h;subst h;simp only[uc,List.map_cons];rw[ZR _ ps ys I,(lJ t g D y E).1]
   ·cases h
def aku{l:aa (Bool×TC×Nat)}{C:fV}{x:iI l}(h:lQ l C=some x):C.len=(eT l x).len:=by
 have key:∀ ps,qa l ps=some x -> (ps.map λp=>p.2.length).sum=(eT l x).len:=by
  intro ps h;rw[ZR l ps x h];unfold eT
  match hm:uc l x with
  |[q]=>simp[fV.len]
  |[]=>rfl
  |_::_::_=>rfl
 cases C with
 |one p=>have:=key [p] h;simpa [fV.len]using this
 | eY ps=>
  simp only[lQ]at h;cases hb:Nat.beq ps.length 1 with
  |true=>simp_all
  |false=>rw[hb]at h;exact key ps h
section
variable {P:Program} {w w':World} {w0:Wd} {B N:Nat} {af aA:bk} {ρ ρ':Nat->Loc} {σ:S} {a:Act} {X:Type} {d:Nat} {r:X} {o:Oper} {Φ:ef} {Λ:mB}
def D3(l ro:aa (Bool×TC×Nat))(outs:aa In)(C:fV):aj (iI ro×rm l):=
 match lQ ro C,rL l outs with
 |some x,some y=>some (x,y)
 |_,_=>none
def LW{f:Nat}{fn:Func}{code:Code}{ps:aa PK}{ro:aa (Bool×TC×Nat)}{F:kZ ps->aj (iI ro×rm (eF ps))}(I:P.funcs[f]?=some fn)(hb:fn.body=some code)(hN:fn.ntmps=N)(T:(fn.name == "runtime.NumGoroutine")=false)(U:Nat.ble ps.length N=true)(Y:Nat.ble N 20000=true)(Z:lU ro=true)
  (dN:fK P Φ) (uy:oV P N Λ (occs code)) (hF:∀x,BU P N Φ Λ code fn.results (nq ps x) (kj ps 0 x) (D3 (eF ps) ro)=F x):enters P f/\vu P f ⟨ps,ro,F⟩:=by
 refine⟨⟨fn,I,T,by rw[hb];rfl⟩,λx y h nm w af ρ bC hE nY D hv hQ=>?_⟩
 have h:F x=some y:=h;rw[<-hF x]at h;have hlen:∀ (ps:aa PK) (i:Nat) (x:kZ ps),(kj ps i x).length=ps.length:=by
  intro ps
  induction ps with
  |nil=>intro i x;rfl
  | cons p ps E=>
   intro i x;cases p with
   |v=>exact bz (· + 1) (E _ _)
   |p=>exact bz (· + 1) (E _ _)
   |s=>exact bz (· + 1) (E _ _)
 have D:bC.size=(kj ps 0 x).length:=by rw[hlen];exact D
 refine(fnM_core I hb hN (cz Y) (by rw[hlen];exact cz U) dN uy h nm w af ρ bC hE nY D hv hQ).mono λe w' q9=>?_
 obtain⟨v,aA,outs,res,C,he,sE,hl,ki,QW⟩:=q9;unfold D3 at C;split at C
 next y1 y2 O h2=>injection C with C;subst C;refine⟨v,aA,he,sE,hl,ZM Z O ki,?_⟩;rw[<-aku O];exact rj.typed _ _ _ _ _ QW (LV ps x outs y2 h2)
 ·cases C
end
set_option maxRecDepth 100000
def LX(σ:S)(C:Array ResultVar):aj Int:=
 match C.toList with
 | [.tmp t]=>(match σ.t t with
  | .aL r 0=>(match σ.m r with
   |some (.aB [.own [n],.v (.int .i64 z),.v (.int .i64 h)])=>bif Nat.beq n 20000&&z==0 then some h else none
   |_=>none)
  |_=>none)
 |_=>none
def ZS(P:Program)(N:Nat)(Φ:ef)(Λ:mB)(code:Code)(C:Array ResultVar)(l:aa (T .u8)):aj Int:=
 lz P N Φ Λ code (xx [.sl (.sl .u8 0 false l)] [.mut 0 0]) λe σ=>match zM e with
  |some 0=>LX σ C
  |some 1=>LX σ C
  |_=>none
section
variable {P:Program} {w w':World} {w0:Wd} {B N:Nat} {af aA:bk} {ρ ρ':Nat->Loc} {σ:S} {a:Act} {X:Type} {d:Nat} {r:X} {o:Oper} {Φ:ef} {Λ:mB}
def akv{f:Nat}{fn:Func}{code:Code}{F:aa Int->aj Int}(hf:P.funcs[f]?=some fn)(hb:fn.body=some code)(hN:fn.ntmps=N)(BS:(fn.name == "runtime.NumGoroutine")=false)(ZT:Nat.ble 1 N=true)(D2:Nat.ble N 20000=true)
  (dN:fK P Φ) (uy:oV P N Λ (occs code)) (hF:∀l,ZS P N Φ Λ code fn.results l=F l):enters P f/\K6 P f F:=by
 refine⟨⟨fn,hf,BS,by rw[hb];rfl⟩,λw l h v hh hv hQ=>?_⟩
 rw[<-hF l]at hh;unfold ZS at hh;have ZT:=cz ZT;have D2:=cz D2;let W:Wd:=⟨w,λ_=>none,λr=>if 20000<=r/\r<60000 then some (.dG v)else none,hQ,λr E=>aW⟩
 refine calls_of_wp hf hb ?_;have hR:R W N (xx [.sl (.sl .u8 0 false l)] [.mut 0 0]) { tmps:=#[v]++Array.replicate (fn.ntmps-(#[v]:Array Value).size) undef,defers:=[] } w:=by
  refine⟨λ_=>none,λ_=>.dG v,.of (Below.refl w.heap.size w) (dB _),(λb k hb=>by cases hb),λn y O=>?_,λj=>?_,by simp[hN];omega,rfl,λr l E=>?_,λr E=>?_⟩
  ·have O:bG (λ_=>none) (nF 0) (some (.sl (.sl .u8 0 false l))) n=some y:=O;by_cases hn:n=nF 0
   ·subst hn;rw[bK]at O;injection O with O;subst O;exact .sl v _ rfl (hv.key rfl)
   ·rw[cr _ _ _ hn]at O;cases O
  ·cases j with
   | zero=>
    have e:(#[v]++Array.replicate (fn.ntmps-(#[v]:Array Value).size) undef).getD 0 undef=v:=by
     rw[ig,Array.getElem?_append_left (by simp)];rfl
    show RA w w.heap.size _ _ (.lf (.own [nF 0])) ((#[v]++Array.replicate (fn.ntmps-(#[v]:Array Value).size) undef).getD 0 undef);rw[e];exact⟨hv.mc rfl rfl,rfl⟩
   |succ j=>exact trivial
  ·have E:(if 20000<=r/\r<60000 then some (Loc.dG v)else none)=some l:=E;split at E
   ·injection E
   ·cases E
  ·show (if 20000<=r/\r<60000 then some (Loc.dG v)else none)=none;rw[aW]
 refine wp_mono (DX (w0:=W) dN code _ _ hh uy _ w hR) λe Z w' I=>?_
 obtain⟨c8,T,Dz,Dy,D⟩:=I;have fin:LX c8 fn.results=some h->Z.defers=[]/\∃ u,(results fn Z.tmps).run P w' = .ok u w'/\∃ b off cells t,Ending.returned u = .returned (.pointer (some ⟨b,off,none⟩))/\Below w.heap.size w w'/\w.heap.size<=b/\w'.heap[b]?=some (.cells cells t (0,0))/\cells[off]?=some v/\cells[off+1]?=some (.int .i64 0)/\cells[off+2]?=some (.int .i64 h):=by
  intro C;unfold LX at C;split at C
  ·rename_i t ht;split at C
   ·rename_i r E;split at C
    ·rename_i n z h' hm;cases hb:(Nat.beq n 20000&&z==0)with
     |false=>rw[hb]at C;cases C
     | true=>
      rw[hb,au]at C;injection C with C;subst C;rw[aJ]at hb;have hn:=cN hb.1;have hz:z=0:=by simpa using hb.2
      subst hn hz;have h1:=D.tmp t;rw[E]at h1;obtain⟨b,off,e1,e2⟩:=h1;have h2:=D.root r _ hm;generalize U:aS.aB _=x at h2;cases h2 with
      |sl=>cases U
      |mp=>cases U
      |gh=>cases U
      | aB b' Ba cells e cs us cm hl Ds hs hc=>
       injection U with U;subst U;rw[cm]at e1;injection e1 with e3 e4;subst e3 e4;obtain⟨c0,Y⟩:=hc 0 _ rfl;obtain⟨c1,d1⟩:=hc 1 _ rfl;obtain⟨c2,d2⟩:=hc 2 _ rfl;have Y:=Y.2;have SP:=D.fix 20000 (.dG v) rfl;simp only[cQ,SP]at Y;injection Y with Y;rw[<-Y]at c0;rw[d1.2.gK]at c1;rw[d2.2.gK]at c2
       refine⟨D.defers,_,?_,b',Ba,cells,e,rfl,⟨D.below.os,D.below.tape,D.below.output,D.below.size,λk T=>D.below.block k T rfl⟩,?_,Ds,c0,c1,c2⟩
       ·have ki:results fn Z.tmps=(do let vs <-fn.results.mapM (ri Z.tmps);pure (if h:vs.size=1 then vs[0]else .tuple vs)):=by
         unfold results;congr 1
        have mD:fn.results = #[.tmp t]:=by apply Array.ext';exact ht
        rw[ki,mD,Array.mapM_eq_mapM_toList];simp[ri,e2]
       ·have:=(D.cV b' _ hl).1;exact this.resolve_right (λh=>h rfl)
    ·cases C
   ·cases C
  ·cases C
 split at T
 next I=>have I:=sW I;subst I;exact fin T
 next I=>have I:=sW I;subst I;exact fin T
 ·cases T
end
def nV(i j:Nat):Nat:=20001+1000*i+j
def D4(i j:Nat)(x:V):Lf:=match x with
 |.sl ..=>.own [nV i j]
 |x=>.v x
def yb(i:Nat):Nat->aa V->aa Lf
 |_,[]=>[]
 |j,x::xs=>D4 i j x::yb i (j+1) xs
def SQ(args:aa Pt)(n:Nat):aj aS:=bif Nat.ble 20001 n&&Nat.blt n 60000 then (match args[(n-20001) / 1000]? with
 | some (_,xs)=>(match xs[(n-20001) % 1000]? with
  |some (.sl t g q l)=>some (.sl (.sl t g q l))
  |_=>none)
 |none=>none)else none
def ZU(args:aa Pt):S:=⟨λi=>match args[i]? with
 |some (false,[x])=>.lf (D4 i 0 x)
 |some (true,xs)=>.agg (yb i 0 xs)
 |_=>.undef,SQ args⟩
def LY(σ:S)(C:Array ResultVar)(a j:Nat)(t:TC):aj (Nat×Nat):=match C.toList with
 | [.tmp s]=>(match σ.t s with
  |.view [n] D i k=>bif Nat.beq n (nV a j)&&Nat.beq D (aD t)then some (i,k)else none
  |_=>none)
 |_=>none
def ZV(P:Program)(N:Nat)(Φ:ef)(Λ:mB)(code:Code)(C:Array ResultVar)(a j:Nat)(t:TC)(args:aa Pt):aj (Nat×Nat):=
 lz P N Φ Λ code (ZU args) λe σ=>match zM e with
  |some 0=>LY σ C a j t
  |some 1=>LY σ C a j t
  |_=>none
def SR(ai:aa (Bool×TC))(a j:Nat)(t:TC)(F:kL ai->aj (Nat×Nat)):Bz:=⟨a,j,t,λargs=>match ya ai args with
 |some x=>F x
 |none=>none⟩
section
variable {P:Program} {w w':World} {w0:Wd} {B N:Nat} {af aA:bk} {ρ ρ':Nat->Loc} {σ:S} {a:Act} {X:Type} {d:Nat} {r:X} {o:Oper} {Φ:ef} {Λ:mB}
def ZW(i:Nat):∀ (xs:aa V) (C j:Nat),(yb i C xs)[j]?=(xs[j]?).map λx=>D4 i (C+j) x
 |[],C,j=>by simp[yb]
 |x::xs,C,0=>by simp[yb]
 | x :: xs,C,j+1=>by
  simp[yb,List.getElem?_cons_succ,ZW]
  grind
def ZX(i:Nat):∀ (xs:aa V) (C:Nat),(yb i C xs).length=xs.length
 |[],_=>rfl
 |x::xs,C=>by simp[yb,ZX i xs (C+1)]
def ZY{i j:Nat}(h:j<1000):(nV i j-20001) / 1000=i/\(nV i j-20001) % 1000=j:=by
 unfold nV;omega
def zO(bC:Array Value)(n:Nat):Loc:=.dG ((uo bC ((n-20001) / 1000) ((n-20001) % 1000)).getD undef)
def ZZ{bC:Array Value}{i j:Nat}{x:V}{u:Value}(D:j<1000)(E:uo bC i j=some u)(I:x.aG=true)(C:RV w B (λ_=>none) [] x u):dM w B (λ_=>none) (zO bC) (D4 i j x) u:=by
 unfold D4;split
 ·refine⟨C.mc rfl rfl,?_⟩;obtain⟨O,T⟩:=ZY (i:=i) D;simp only[cQ,zO,O,T,E];rfl
 ·exact⟨I,C⟩
def akw{f:Nat}{fn:Func}{code:Code}{ai:aa (Bool×TC)}{I O:Nat}{t:TC}{F:kL ai -> aj (Nat×Nat)}(hf:P.funcs[f]?=some fn)(hb:fn.body=some code)(hN:fn.ntmps=N)(BS:(fn.name == "runtime.NumGoroutine")=false)(G6:Nat.ble ai.length N=true)(D2:Nat.ble N 20000=true)(iy:(ai.all λp=>Nat.blt (aD p.2) 1000&&(p.1 || Nat.beq (aD p.2) 1))=true)(Z0:Nat.blt O 1000=true)(haa:Nat.blt I 30=true)
  (dN:fK P Φ) (uy:oV P N Λ (occs code)) (hF:∀x,ZV P N Φ Λ code fn.results I O t (gp ai x)=F x):enters P f/\K7 P f (SR ai I O t F):=by
 refine⟨⟨fn,hf,BS,by rw[hb];rfl⟩,λargs p h w bC tZ hQ=>?_⟩
 simp only[SR]at h;split at h
 ·rename_i x hx;obtain⟨k1,k2⟩:=SK ai args x hx;have hlen:∀ (l:aa (Bool×TC)) (x:kL l),(gp l x).length=l.length:=by
   intro l
   induction l with
   |nil=>intro x;rfl
   |cons p l ih=>obtain⟨b,t⟩:=p;intro x;simp[gp,ih]
  have kX:bC.size=ai.length:=by rw[tZ.1,<- k1,hlen]
  have hle:bC.size <= N:=by rw[kX];exact cz G6
  have D2:=cz D2;have mD:∀ (l:aa (Bool×TC)) (x:kL l),(l.all λp=>Nat.blt (aD p.2) 1000&&(p.1 || Nat.beq (aD p.2) 1))=true -> ∀ (j:Nat) p,(gp l x)[j]?=some p -> (∀ y∈p.2,y.aG=true)/\p.2.length<1000/\(p.1=true \/ p.2.length=1):=by
   intro l
   induction l with
   |nil=>intro x _ j p hp;simp[gp]at hp
   | cons c l ih=>
    obtain⟨b,t⟩:=c;intro x hs j p hp;rw[List.all_cons,aJ]at hs;cases j with
    | zero=>
     simp[gp]at hp;subst hp
     refine⟨λy C=>?_,?_⟩
     ·obtain⟨i,hi⟩:=List.mem_iff_getElem?.1 C;exact pW t 0 x.1 (by omega) i y hi
     ·show (enc t 0 x.1).length<1000/\(b=true \/ (enc t 0 x.1).length=1);rw[kG];have h8:=hs.1;rw[aJ,dQ]at h8;have h9:=cz h8.1;exact⟨h9,h8.2.imp id cN⟩
    |succ j=>exact ih x.2 hs.2 j p (by simpa [gp]using hp)
  have sA:∀ (i:Nat) (p:Pt),(gp ai x)[i]?=some p -> ∃ u:Value,bC[i]?=some u/\PV w w.heap.size (λ_=>none) (λ_=>[]) p u/\(∀ y∈p.2,y.aG=true)/\p.2.length<1000:=by
   intro i p hp;obtain⟨q,hq,Dj,xj⟩:=k2 i p hp;obtain⟨u,T,vC⟩:=tZ.2 i q hq;obtain⟨g1,g2,g3⟩:=mD ai x iy i p hp;refine⟨u,T,?_,g1,g2⟩;obtain⟨b,ys⟩:=p;obtain⟨b',xs⟩:=q;simp only at Dj;subst Dj;have hw:=vC.ug xj;rcases g3 with g3|g3
   ·simp only at g3;subst g3;exact hw.Xn
   ·obtain⟨y,rfl⟩:=List.length_eq_one_iff.1 g3;cases b' with
    |true=>exact hw.Xn
    |false=>exact hw.pv
  have SS:∀ (i:Nat) (p:Pt),(gp ai x)[i]?=some p -> ∀ (j:Nat) y,p.2[j]?=some y -> ∃ u,uo bC i j=some u/\RV w w.heap.size (λ_=>none) [] y u/\y.aG=true/\j<1000:=by
   intro i p hp j y C;obtain⟨u,T,⟨us,D,h2,h3⟩,h4,h5⟩:=sA i p hp;obtain⟨v,hv,E⟩:=h3 j y C;refine⟨v,?_,E,h4 y (gC C),by have:=(dK.1 C).1;omega⟩;unfold uo;rw[T];obtain⟨b,ys⟩:=p;cases b with
   | true=>
    have D:u = .agg us:=D;subst D;exact hv
   | false=>
    have D:us = #[u]:=D;subst D;have hj:j=0:=by
     have:=(iz.1 hv).1
     simpa using this
    subst hj;have:u=v:=by simpa using hv
    subst this;have BM:∀ us,u ≠ .agg us:=by
     rintro us rfl;cases E
    cases u<;>first|exact absurd rfl (BM _)|rfl
  let W:Wd:=⟨w,λ_=>none,λr=>if 20000 <= r/\r<60000 then some (zO bC r)else none,hQ,λr E=>aW⟩
  refine calls_of_wp hf hb ?_;rw[<- hF x]at h;unfold ZV at h;have hR:R W N (ZU (gp ai x)) { tmps:=bC++Array.replicate (fn.ntmps-bC.size) undef,defers:=[] } w:=by
   refine⟨λ_=>none,zO bC,.of (Below.refl w.heap.size w) (dB _),(λb k hk=>by cases hk),(λn y C=>?_),λi=>?_,by simp[hN];omega,rfl,λr l E=>?_,λr E=>?_⟩
   ·have C:SQ (gp ai x) n=some y:=C;unfold SQ at C;cases hb:(Nat.ble 20001 n&&Nat.blt n 60000)with
    |false=>rw[hb]at C;cases C
    | true=>
     rw[hb,au]at C;split at C
     ·rename_i b xs hp;split at C
      next t' g q l hl=>injection C with C;subst C;obtain⟨u,T,E,sB,_⟩:=SS _ _ hp _ _ hl;refine .sl u _ ?_ (E.key sB);unfold zO;simp[*]
      ·cases C
     ·cases C
   ·show RA w w.heap.size _ _ (match (gp ai x)[i]? with | some (false,[x])=>A.lf (D4 i 0 x) | some (true,xs)=>.agg (yb i 0 xs) | _=>.undef) _;have C8:∀ p:Pt,(gp ai x)[i]?=some p -> ∃ u:Value,bC[i]?=some u/\(bC++Array.replicate (fn.ntmps-bC.size) undef).getD i undef=u:=by
     intro p hp;obtain⟨u,T,_⟩:=sA i p hp;have hi:=(iz.1 T).1;exact⟨u,T,by rw[ig,Array.getElem?_append_left hi,T];rfl⟩
    split
    ·rename_i x' lO;obtain⟨u,T,e⟩:=C8 _ lO;rw[e];obtain⟨v,hv,E,sB,_⟩:=SS i _ lO 0 x' rfl;have Gb:u=v:=by
      unfold uo at hv;rw[T]at hv;obtain⟨u2,Z,⟨us,D,h2,h3⟩,_⟩:=sA i _ lO;rw[T]at Z;injection Z with Z;subst Z;have D:us = #[u]:=D;subst D;obtain⟨v3,hv3,SU⟩:=h3 0 x' rfl;have:u=v3:=by simpa using hv3
      subst this;have BM:∀ us,u ≠ .agg us:=by
       rintro us rfl;cases SU
      cases u<;>first|exact absurd rfl (BM _)|(simp only[show Nat.beq 0 0=true from rfl,au,iB]at hv;exact hv)
     subst Gb;exact ZZ (by omega) hv sB E
    ·rename_i xs lO;obtain⟨u,T,e⟩:=C8 _ lO;rw[e];obtain⟨u2,Z,⟨us,D,h2,h3⟩,_⟩:=sA i _ lO;rw[T]at Z;injection Z with Z;subst Z;have D:u = .agg us:=D
     refine⟨us,D,by rw[ZX];exact h2,λj y C=>?_⟩
     rw[ZW]at C;cases hz:xs[j]? with
     |none=>rw[hz]at C;cases C
     | some z=>
      rw[hz]at C;injection C with C;subst C;obtain⟨v,hv,E,sB,hj⟩:=SS i _ lO j z hz;have huj:us[j]?=some v:=by
       unfold uo at hv;rw[T,D]at hv;exact hv
      refine⟨v,huj,?_⟩;rw[eW];exact ZZ hj hv sB E
    ·trivial
   ·have E:(if 20000 <= r/\r<60000 then some (zO bC r)else none)=some l:=E;split at E
    ·injection E
    ·cases E
   ·show (if 20000 <= r/\r<60000 then some (zO bC r)else none)=none;rw[aW]
  refine wp_mono (DX (w0:=W) dN code _ _ h uy _ w hR) λe a' w' he=>?_
  obtain⟨c8,hk,Dz,Dy,dU⟩:=he;have fin:LY c8 fn.results I O t=some p -> a'.defers=[] /\ ∃ u,(results fn a'.tmps).run P w' = .ok u w' /\ ∃ A n cap,uo bC I O=some (.slice A n cap)/\p.1 <= p.2/\p.2 <= n/\Ending.returned u = .returned (sliced A p.1 p.2 cap (aD t))/\Below w.heap.size w w':=by
   intro Y;unfold LY at Y;split at Y
   ·rename_i s hs;split at Y
    ·rename_i n sz i k hv;cases gV:(Nat.beq n (nV I O)&&Nat.beq sz (aD t))with
     |false=>rw[gV]at Y;cases Y
     | true=>
      rw[gV,au]at Y;injection Y with Y;subst Y;rw[aJ]at gV;have hn:=cN gV.1;have akx:=cN gV.2;subst hn akx;have D:=dU.tmp s;rw[hv]at D;obtain⟨A,m,c,U,e2,e3,e4⟩:=D;have Z0:=cz Z0;have BM:20000 <= nV I O:=by unfold nV;omega
      by_cases dI:nV I O<60000
      ·have SP:=dU.fix (nV I O) (zO bC (nV I O)) (aV ⟨BM,dI⟩);have U:(match Dy (nV I O)with | .dG v=>some v | _=>none)=some (Value.slice A m c):=U;rw[SP]at U;obtain⟨d1,d2⟩:=ZY (i:=I) (j:=O) (by omega);have U:some ((uo bC ((nV I O-20001) / 1000) ((nV I O-20001) % 1000)).getD undef)=some (Value.slice A m c):=U;rw[d1,d2]at U;injection U with U
       refine⟨dU.defers,_,?_,A,m,c,?_,e2,e3,bz Ending.returned e4,⟨dU.below.os,dU.below.tape,dU.below.output,dU.below.size,λk hk=>dU.below.block k hk rfl⟩⟩
       ·have ki:results fn a'.tmps=(do let vs <- fn.results.mapM (ri a'.tmps);pure (if h:vs.size=1 then vs[0]else .tuple vs)):=by
         unfold results;congr 1
        have mD:fn.results = #[.tmp s]:=by apply Array.ext';exact hs
        rw[ki,mD];simp[ri]
       ·cases hl:uo bC I O with
        |none=>rw[hl]at U;cases U
        |some u=>rw[hl]at U;exact bz some U
      ·exfalso;have:=cz haa;unfold nV at dI;omega
    ·cases Y
   ·cases Y
  split at hk
  next he=>have he:=sW he;subst he;exact fin hk
  next he=>have he:=sW he;subst he;exact fin hk
  ·cases hk
 ·cases h
end
def Wd.pin(d:Wd)(g:Nat)(l:aj Loc)(hg:20000<=g):Wd:=⟨d.w,d.L,λr=>if r=g then l else d.F r,d.held,λr C=>by
 show (if r=g then l else d.F r)=none;rw[aW];exact d.low r C⟩
def BV(g:Nat):aa (Bool×aa Lf)->A
 |[(false,[x])]=>.lf (x.drop g)
 |[(true,cs)]=>.agg (cs.map (Lf.drop g))
 |[(false,_)]=>.undef
 |ps=>.eY (ps.map λp=>(p.1,p.2.map (Lf.drop g)))
def BW{X:Type}(P:Program)(g:Nat)(D:Array ResultVar)(C:S)(k:S->A->aj X):aj X:=
 sJ P C D.toList λps=>match C.m g with
  |some (.gh ys)=>k ⟨λj=>((ys.map (A.drop g))[j]?).getD .undef,(C.drop g).m⟩ (BV g ps)
  |_=>none
def Z1(g N:Nat)(σ:S)(xs:aa A):S:=⟨λj=>((xs.map (A.drop g))[j]?).getD .undef,bG (σ.drop g).m g (some (.gh ((List.range N).map λj=>(σ.t j).drop g)))⟩
def Z2:mB:=λ_=>none
def G9{X:Type}(P:Program)(M g:Nat)(Φ:ef)(code:Code)(C:Array ResultVar)(N:Nat)(σ:S)(xs:aa A)(k:S->A->aj X):aj X:=
 bif Nat.ble xs.length M then lz P M Φ Z2 code (Z1 g N σ xs) λe D=>match zM e with
  |some 0=>BW P g C D k
  |some 1=>BW P g C D k
  |_=>none
 else none
def Z3(P:Program)(M g:Nat)(Φ:ef)(code:Code)(C:Array ResultVar):uq:=⟨λX N σ xs k=>G9 P M g Φ code C N σ xs k⟩
section
variable {P:Program} {w w':World} {w0:Wd} {B M N g:Nat} {af aA:bk} {ρ ρ':Nat->Loc} {σ:S} {a:Act} {X:Type} {d:Nat} {r:X} {o:Oper} {Φ:ef} {Λ:mB}
def SV{C:aj Tmp}{D:Bool}:cw λX k=>sP (X:=X) σ C D k:=λX Y k g=>by
 unfold sP
 repeat' first|rfl|refine c9 ?_ ?_|split
def aky{ops:Array Oper}{L i:Nat}:cw λX k=>GK (X:=X) P N Φ ops L i σ o k:=λX Y k g=>by
 unfold GK;split
 ·refine(RD _ _ _ _).trans (bz _ (funext λv=>?_))
  exact c9 (xH _ _ _ _) rfl
 ·exact xH _ _ _ _
 ·rfl
def SW(D:fK P Φ){ops:Array Oper}:∀ (f L:Nat) (σ:S),cw λX k=>rC (X:=X) P N Φ ops f L σ k
 | 0,L,σ=>λX Y k g=>by
  unfold rC;split<;>rfl
 | f+1,L,σ=>λX Y k g=>by
  have st:∀E o O,cw λX k=>dx (X:=X) P N Φ ops σ o λI=>sP I o.dst O λC=>rC P N Φ ops f E C k:=λE o O=>(YH D).comp λI=>SV.comp λC=>SW D f E C
  unfold rC
  repeat' first
   |rfl
   |exact st _ _ _ _ _ _ _
   |exact(aky.comp λI=>SV.comp λC=>SW D f _ C) X Y k g
   |split
def akz{t:TypeId}{x lo hi C:A}{X Y:Type}(k:aj X)(g:X->aj Y):(DM P σ t x lo hi C k).bind g=DM P σ t x lo hi C (k.bind g):=by
 unfold DM
 repeat' first
  |rfl
  |refine(xF _ _ _ _ _).trans (bz _ (funext λy=>?_))
  |split
def akA(C:fK P Φ):cw λX k=>GG (X:=X) P N Φ σ o k:=λX Y k g=>by
 unfold GG
 repeat' first
  |exact YE C _ _ _ _
  |exact aiX _ _ _ _
  |exact(akz _ _).trans (bz _ (c9 rfl rfl))
  |split
def SX(C:fK P Φ){ops:Array Oper}:∀ (rest:aa Oper) (j:Nat) (σ:S),cw λX k=>BG (X:=X) P N Φ ops j rest σ k
 |[],j,σ=>λ_ _ _ _=>rfl
 | o :: rest,j,σ=>λX Y k g=>by
  unfold BG;split
  ·exact((akA C).comp λD=>SV.comp λE=>SX C rest _ E) X Y k g
  ·exact(xH.comp λD=>SX C rest _ D) X Y k g
  ·rfl
def Z4(E:fK P Φ):∀ (c:Code) (σ:S),DL λX k=>lz (X:=X) P N Φ Z2 c σ k:=by
 intro c
 induction c with
 | region id ops draw=>
  intro σ X Y k g;cases draw with
  |true=>exact c9 (SW E _ _ _ _ _ _ _) rfl
  |false=>exact SX E _ _ _ _ _ _ _
 | seq x y C D=>
  intro σ X Y k g
  refine(C σ _ _ _ _).trans (bz _ (funext λe=>funext λI=>?_))
  cases e with
  |normal=>exact D I _ _ _ _
  |_=>rfl
 | cond c x y C D=>
  intro σ X Y k g;simp only[lz];split
  ·exact c9 (C σ _ _ _ _) (D σ _ _ _ _)
  ·rfl
 | block id c O=>
  intro σ X Y k g
  refine(O σ _ _ _ _).trans (bz _ (funext λe=>funext λI=>?_))
  cases e with
  | exit T=>
   simp only;split<;>rfl
  |_=>rfl
 |_=>intro σ X Y k g;rfl
def LZ:∀ (l:aa ResultVar),cw λX k=>sJ (X:=X) P σ l k
 |[]=>λ_ _ _ _=>rfl
 | .tmp t :: rest=>λX Y k g=>by
  simp only[sJ];split
  ·exact LZ rest _ _ _ _
  ·rfl
 | .cell c ty :: rest=>λX Y k g=>by
  simp only[sJ]
  refine(XY _ _ _ _).trans (bz _ (funext λy=>?_))
  split
  ·exact LZ rest _ _ _ _
  ·rfl
def Z5{C:Array ResultVar}:DL λX k=>BW (X:=X) P g C σ k:=λX Y k f=>by
 unfold BW
 refine(LZ _ _ _ _ _).trans (bz _ (funext λps=>?_))
 split<;>rfl
def akB(C:fK P Φ){code:Code}{D:Array ResultVar}{xs:aa A}:DL λX k=>G9 (X:=X) P M g Φ code D N σ xs k:=λX Y k f=>by
 unfold G9
 refine c9 ((Z4 C _ _ _ _ _ _).trans (bz _ (funext λe=>funext λE=>?_))) rfl
 split
 ·exact Z5 _ _ _ _
 ·exact Z5 _ _ _ _
 ·rfl
def akC{D:Array ResultVar}{E:S}{y:A}(h:BW P g D σ (λσ y=>some (σ,y))=some (E,y)):∃ ys ps,σ.m g=some (.gh ys)/\sJ P σ D.toList some=some ps/\⟨λj=>((ys.map (A.drop g))[j]?).getD .undef,(σ.drop g).m⟩=E/\BV g ps=y:=by
 unfold BW at h;obtain⟨ps,C,I⟩:=(LZ _).lM h;split at C
 next ys O=>injection C with C;injection C with T U;exact⟨ys,ps,O,I.at_ _,T,U⟩
 ·cases C
def List.Z6(xs:aa A)(g j:Nat):((xs.map (A.drop g))[j]?).getD .undef=A.drop g ((xs[j]?).getD .undef):=by
 rw[ez];cases xs[j]?<;>rfl
def RP.BV{ps:aa (Bool×aa Lf)}{C:aa Value}(D:∀ r,r≠g->ρ' r=ρ r)(hl:C.length=ps.length)(h:∀ (i:Nat) p v,ps[i]?=some p->C[i]?=some v->RP w B af ρ p v):
  RA w B af ρ' (BV g ps) (if h:C.toArray.size=1 then C.toArray[0]else .tuple C.toArray):=by
 have eY:ps.length≠1->RA w B af ρ' (.eY (ps.map λp=>(p.1,p.2.map (Lf.drop g)))) (if h:C.toArray.size=1 then C.toArray[0]else .tuple C.toArray):=by
  intro hn;rw[dif_neg (by simpa [hl]using hn)]
  refine⟨C.toArray,rfl,by simpa using hl,λj p hp=>?_⟩
  rw[ez]at hp;cases hq:ps[j]? with
  |none=>rw[hq]at hp;cases hp
  | some q=>
   rw[hq]at hp;injection hp with hp;subst hp;have E:j<C.length:=by rw[hl];exact(dK.1 hq).1
   exact⟨C[j],by simp[E],(h j q C[j] hq (bJ E)).eZ D⟩
 unfold Proofs.YtpigmalhjkekiaaGreat.BV;split
 ·rename_i x
  match C,hl,h with
  | [v],_,h=>
   have:=h 0 _ v rfl rfl;obtain⟨u,I,O⟩:=this.2 0 x rfl;have:v=u:=by simpa using I
   subst this;exact O.eZ D
 ·rename_i cs
  match C,hl,h with
  |[v],_,h=>exact RP.eZ D (p:=(true,cs)) (h 0 _ v rfl rfl)
 ·trivial
 ·rename_i Y T U
  refine eY λe=>?_
  obtain⟨⟨b,cs⟩,rfl⟩:=List.length_eq_one_iff.1 e;cases b with
  |true=>exact T cs rfl
  |false=>exact U cs rfl
def akD{f:Nat}{fn:Func}{code:Code}(hf:P.funcs[f]?=some fn)(hb:fn.body=some code)(hN:fn.ntmps=M)(hM:M<=20000)(BS:(fn.name == "runtime.NumGoroutine")=false)(hg:20000<=g/\g<60000)(dN:fK P Φ):
  enters P f/\qf P f (Z3 P M g Φ code fn.results):=by
 refine⟨⟨fn,hf,BS,by rw[hb];rfl⟩,λN σ xs=>akB dN,λN σ xs τ0 y0 h w0 af ρ a w bC E iy hv=>?_⟩
 have h:G9 P M g Φ code fn.results N σ xs _=_:=h;unfold G9 at h;cases hl:Nat.ble xs.length M with
 |false=>rw[hl]at h;cases h
 | true=>
  rw[hl,au]at h;have FZ:=cz hl;obtain⟨e,τ,h1,h2⟩:=(Z4 dN _ _).lM h;have h3:(e = .normal\/e = .ret)/\BW P g fn.results τ (λσ y=>some (σ,y))=some (τ0,y0):=by
   split at h1
   next Y=>exact⟨.inl (sW Y),h1⟩
   next Y=>exact⟨.inr (sW Y),h1⟩
   ·cases h1
  obtain⟨hex,h3⟩:=h3;obtain⟨ys,ps,hy,p9,rfl,rfl⟩:=akC h3;let us:=a.tmps.toList
  let W:Wd:=w0.pin g (some (.bC us)) hg.1
  let Z:=bG ρ g (.bC us)
  have cm:∀r,r≠g->Z r=ρ r:=λr hr=>cr _ _ _ hr
  have kH:∀ j,us.getD j undef=a.tmps.getD j undef:=λj=>by
   show a.tmps.toList.getD j undef=_;rw[cS,Array.getElem?_toList,ig]
  have hle:bC.size<=M:=by rw[iy];exact FZ
  have sO:Rl W M af Z (Z1 g N σ xs) { tmps:=bC++Array.replicate (fn.ntmps-bC.size) undef,defers:=[] } w:=by
   refine⟨⟨E.below.os,E.below.tape,E.below.output,E.below.size,E.below.block⟩,E.cV,λr x C=>?_,λj=>?_,by simp[hN];omega,rfl,λr l hr=>?_,λr hr=>?_⟩
   ·have C:bG (σ.drop g).m g (some (.gh ((List.range N).map λj=>(σ.t j).drop g))) r=some x:=C;by_cases D:r=g
    ·subst D;rw[bK]at C;injection C with C;subst C
     refine .gh us _ (bK _ _ _) λj x O=>?_
     rw[ez]at O;cases hr:(List.range N)[j]? with
     |none=>rw[hr]at O;cases O
     | some j'=>
      rw[hr]at O;injection O with O;obtain⟨dI,sr⟩:=dK.1 hr;rw[lH]at sr;subst sr O;rw[kH];exact(E.tmp j).eZ cm
    ·rw[cr _ _ _ D]at C;have C:(bif Nat.beq r g then none else (σ.m r).map (aS.drop g))=some x:=C;cases hb:Nat.beq r g with
     |true=>rw[hb]at C;cases C
     | false=>
      rw[hb,ax]at C;cases hm:σ.m r with
      |none=>rw[hm]at C;cases C
      | some y=>
       rw[hm]at C;injection C with C;subst C;exact(E.root r y hm).eZ cm D
   ·show RA w w0.heap.size af Z (((xs.map (A.drop g))[j]?).getD .undef) _;rw[List.Z6];by_cases O:j<bC.size
    ·have e1:(bC++Array.replicate (fn.ntmps-bC.size) undef).getD j undef=bC.getD j undef:=by
      rw[ig,Array.getElem?_append_left O,ig]
     show RA w w0.heap.size af Z _ ((bC++Array.replicate (fn.ntmps-bC.size) undef).getD j undef);rw[e1];exact(hv j).eZ cm
    ·rw[qO (by omega:xs.length<=j)];trivial
   ·have hr:(if r=g then some (Loc.bC us)else w0.F r)=some l:=hr;by_cases D:r=g
    ·rw[aV D]at hr;injection hr with hr;rw[D,<-hr];exact bK _ _ _
    ·rw[aW D]at hr;rw[cm r D];exact E.fix r l hr
   ·show (if r=g then some (Loc.bC us)else w0.F r)=none;rw[aW];rcases hr with hr | hr
    ·exact w0.low r (by omega)
    ·exact E.cL r (.inr hr)
  refine calls_of_wp hf hb ?_
  refine wp_mono (DX (w0:=W) dN code _ (λe τ=>some (e,τ)) (h2 _ _) (λp hp b hb=>by cases hb) _ w ⟨af,Z,sO⟩) λe' T w' Y=>?_
  obtain⟨c8,kJ,aA,ρ',I⟩:=Y;injection kJ with kJ;injection kJ with k1 k2;subst k1 k2;have Gk:ρ' g = .bC us:=I.fix g _ (aV rfl);let fe:=bG ρ' g ((w0.F g).getD (.aB 0 0))
  have DF:∀r,r≠g->fe r=ρ' r:=λr hr=>cr _ _ _ hr
  obtain⟨xw,SY,kY⟩:=Gc (w0:=W) (N:=M) _ _ p9;injection SY with SY;subst SY;obtain⟨vs,eU,hlen,lP⟩:=kY aA ρ' T w' I;have akE:(fn.results.mapM (ri T.tmps)).run P w' = .ok vs.toArray w':=by
   rw[Array.mapM_eq_mapM_toList];simp[eU]
  have ki:results fn T.tmps=(do let vs <-fn.results.mapM (ri T.tmps);pure (if h:vs.size=1 then vs[0]else .tuple vs)):=by
   unfold results;congr 1
  have hRf:Rl w0 N aA fe ⟨λj=>((ys.map (A.drop g))[j]?).getD .undef,(c8.drop g).m⟩ a w':=by
   refine⟨⟨I.below.os,I.below.tape,I.below.output,I.below.size,I.below.block⟩,I.cV,λr x C=>?_,λj=>?_,E.size,E.defers,λr l hr=>?_,E.cL⟩
   ·have C:(bif Nat.beq r g then none else (c8.m r).map (aS.drop g))=some x:=C;cases hb:Nat.beq r g with
    |true=>rw[hb]at C;cases C
    | false=>
     have D:r≠g:=by rintro rfl;simp at hb
     rw[hb,ax]at C;cases hm:c8.m r with
     |none=>rw[hm]at C;cases C
     | some y=>
      rw[hm]at C;injection C with C;subst C;exact(I.root r y hm).eZ DF D
   ·show RA w' w0.heap.size aA fe (((ys.map (A.drop g))[j]?).getD .undef) _;rw[List.Z6];cases hyj:ys[j]? with
    |none=>trivial
    | some y=>
     have fl:=I.root g _ hy;generalize U:aS.gh ys=z at fl;cases fl with
     |aB=>cases U
     |sl=>cases U
     |mp=>cases U
     | gh Kn xs' xD Z7=>
      injection U with U;subst U;rw[Gk]at xD;injection xD with xD;subst xD;have:=Z7 j y hyj;rw[kH]at this;exact this.eZ DF
   ·by_cases D:r=g
    ·subst D;show bG ρ' r ((w0.F r).getD (.aB 0 0)) r=l;rw[bK,hr];rfl
    ·rw[DF r D];exact I.fix r l ((aW D).trans hr)
  have fin:T.defers=[]/\∃ v,(results fn T.tmps).run P w' = .ok v w'/\∃ zN aA ρ',Ending.returned v=Ending.returned zN/\Rl w0 N aA ρ' ⟨λj=>((ys.map (A.drop g))[j]?).getD .undef,(c8.drop g).m⟩ a w'/\RA w' w0.heap.size aA ρ' (BV g xw) zN:=
   ⟨I.defers,_,by rw[ki,gd,akE,l8,Sem.run_pure],_,aA,fe,rfl,hRf,RP.BV DF hlen lP⟩
  rcases hex with rfl|rfl
  ·exact fin
  ·exact fin
end
def uA:Nat:=1000000000
def stays(n:Nat):Bool:=Nat.ble 20000 (n % uA)
def akF:60000<=uA:=cz rfl
def qk(n:Nat):Nat:=bif stays n then n else n+uA
def zP(n:Nat):aj Nat:=bif stays n then some n else bif Nat.ble uA n && !stays (n-uA)then some (n-uA)else none
def lA:aa Nat->aa Nat
 |[]=>[]
 |[r]=>[qk r]
 |x::y::k=>x::lA (y::k)
def Lf.up:Lf->Lf
 |.v x=>.v x
 |.own k=>.own (lA k)
 |.dead=>.dead
def A.up:A->A
 |.undef=>.undef
 |.skip=>.skip
 |.lf x=>.lf x.up
 |.agg cs=>.agg (cs.map Lf.up)
 |.eY xs=>.eY (xs.map λp=>(p.1,p.2.map Lf.up))
 |.ptr k=>.ptr (lA k)
 |.aL r j=>.aL (qk r) j
 |.iW cs=>.iW cs
 |.m7 f cs=>.m7 f cs
 |.pk r n=>.pk (qk r) n
 |.view k s i j=>.view (lA k) s i j
 |.fn f cap=>.fn f (cap.map λp=>(qk p.1,p.2))
def aS.up:aS->aS
 |.aB cs=>.aB (cs.map Lf.up)
 |.sl y=>.sl y
 |.mp l=>.mp l
 |.gh xs=>.gh (xs.map A.up)
def S.up(σ:S):S:=⟨λk=>(σ.t k).up,λn=>match zP n with
 |some r=>(σ.m r).map aS.up
 |none=>none⟩
def Z8(c:uq):uq:=⟨λX N σ xs k=>c.run X N σ.up (xs.map A.up) λC y=>k C.up y.up⟩
section
variable {P:Program} {w w':World} {w0:Wd} {B N:Nat} {af aA:bk} {ρ ρ':Nat->Loc} {σ:S} {a:Act} {X:Type}
def akG(r:Nat):zP (qk r)=some r:=by
 unfold zP qk;cases h:stays r with
 |true=>simp_all
 | false=>
  have C:stays (r+uA)=false:=by
   unfold stays at h ⊢;simp_all
  have D:Nat.ble uA (r+uA)=true:=jj (Nat.le_add_left _ _);simp[*]
def akH{n r:Nat}(h:zP n=some r):n=qk r:=by
 unfold zP at h;cases D:stays n with
 | true=>
  rw[D]at h;injection h with h;subst h;simp[qk,D]
 | false=>
  rw[D,ax]at h;cases C:(Nat.ble uA n && !stays (n-uA))with
  |false=>simp_all
  | true=>
   rw[C]at h;have h:=Option.some.inj h;rw[aJ]at C;have I:=cz C.1;have E:stays r=false:=by rw[<- h];simpa using C.2
   simp[qk,E,ax];omega
def mF(af:bk):bk:=λb=>(af b).map lA
def vN(ρ:Nat->Loc):Nat->Loc:=λn=>match zP n with
 |some r=>ρ r
 |none=>ρ n
def BX(r:Nat):vN ρ (qk r)=ρ r:=by unfold vN;rw[akG]
def akI{k:aa Nat}(h:k≠[]):lA k≠[]:=by
 match k with
 |[r]=>simp[lA]
 |x::y::k=>simp[lA]
def D5{x:Nat}{k:aa Nat}(h:k≠[]):lA (x :: k)=x :: lA k:=by
 match k with
 |[]=>exact absurd rfl h
 |y::k=>rfl
def Z9(x y:Nat)(k:aa Nat):∃ C D,lA (x :: y :: k)=x :: C :: D:=by
 match k with
 |[]=>exact⟨_,_,rfl⟩
 |z::k=>exact⟨y,_,rfl⟩
def SZ:∀ (k:aa Nat) (ad:Addr),addrAt w af ρ k=some ad -> addrAt w (mF af) (vN ρ) (lA k)=some ad
 |[],_,h=>by simp[addrAt]at h
 | [j,i,s,r],ad,h=>by
  simp only[addrAt]at h;simp only[lA,addrAt,BX];split at h
  ·rename_i b n c C;split at h
   next hl=>rw[aV (by simp[mF,hl,lA])];exact h
   ·cases h
  ·cases h
 | j :: i :: s :: x :: y :: q,ad,h=>by
  simp only[addrAt]at h;split at h
  ·rename_i b n c C;split at h
   ·rename_i hl;cases D:addrAt w af ρ (x :: y :: q)with
    |none=>simp_all
    | some I=>
     have E:=SZ (x::y::q) I D;have e:mF af b=some (lA (x::y::q)):=by simp[mF,hl]
     rw[D5 (by simp),D5 (by simp),D5 (by simp)];rw[D]at C;obtain⟨T,U,O⟩:=Z9 x y q;rw[O]at E e ⊢;simp only[addrAt,E,C,e,if_true];exact h
   ·cases h
  ·cases h
def aaa{k:aa Nat}{u:Value}(h:cQ w af ρ k=some u):cQ w (mF af) (vN ρ) (lA k)=some u:=by
 match k with
 | [r]=>
  simp[lA,cQ,BX];exact h
 | x :: y :: k=>
  simp[cQ]at h;cases C:addrAt w af ρ _ with
  |none=>rw[C]at h;cases h
  | some ad=>
   have:=SZ _ _ C;obtain⟨E,I,D⟩:=Z9 x y k;rw[D]at this ⊢;simp[cQ,this];simp_all
def S0{b:Nat}(h:af b=none):mF af b=none:=by simp[mF,h]
def RV.up(D:∀ b k,af b=some k->k≠[]){k:aa Nat}{x:V}{v:Value}(h:RV w B af k x v):RV w B (mF af) (lA k) x v:=
 h.map (Q:=λk C=>C=lA k) (dB _) (λb _ h=>⟨rfl,S0 h⟩) (λb k C _ hl e=>by
  subst e;exact⟨rfl,by simp[mF,hl],λj i s=>by rw[D5 (by simp),D5 (by simp),D5 (D b k hl)]⟩) (.inr rfl)
def dM.up(C:∀ b k,af b=some k->k≠[]){x:Lf}{u:Value}(h:dM w B af ρ x u):dM w B (mF af) (vN ρ) x.up u:=by
 cases x with
 |v x=>exact⟨h.1,RV.up C h.2⟩
 |own k=>exact⟨h.1,aaa h.2⟩
 |dead=>trivial
def eI.up(E:∀ b k,af b=some k -> k≠[]){cs:aa Lf}{us:Array Value}(h:eI w B af ρ cs us):eI w B (mF af) (vN ρ) (cs.map Lf.up) us:=by
 refine⟨by rw[eS];exact h.1,λj x C=>?_⟩
 rw[ez]at C;cases D:cs[j]? with
 |none=>simp_all
 | some z=>
  rw[D]at C;injection C with C;subst C;obtain⟨u,I,O⟩:=h.2 j z D;exact⟨u,I,O.up E⟩
def RP.up(C:∀ b k,af b=some k->k≠[]){p:Bool×aa Lf}{u:Value}(h:RP w B af ρ p u):RP w B (mF af) (vN ρ) (p.1,p.2.map Lf.up) u:=by
 obtain⟨b,cs⟩:=p;cases b with
 | true=>
  obtain⟨us,rfl,h⟩:=h;exact⟨us,rfl,eI.up C h⟩
 |false=>exact eI.up C h
def RA.up(E:∀ b k,af b=some k -> k≠[]){x:A}{u:Value}(h:RA w B af ρ x u):RA w B (mF af) (vN ρ) x.up u:=by
 cases x with
 |undef=>trivial
 |skip=>exact h
 |lf x=>exact dM.up E h
 |agg cs=>exact RP.up E (p:=(true,cs)) h
 | eY xs=>
  obtain⟨us,rfl,C,D⟩:=h
  refine⟨us,rfl,by rw[eS];exact C,λj p hp=>?_⟩
  rw[ez]at hp;cases I:xs[j]? with
  |none=>simp_all
  | some z=>
   rw[I]at hp;injection hp with hp;subst hp;obtain⟨v,O,T⟩:=D j z I;exact⟨v,O,T.up E⟩
 | ptr k=>
  obtain⟨ad,rfl,h⟩:=h;exact⟨ad,rfl,SZ _ _ h⟩
 | aL r j=>
  obtain⟨b,off,C,D⟩:=h;exact⟨b,off,(BX r).trans C,D⟩
 | iW cs=>
  obtain⟨b,off,U,Y,Z,g4⟩:=h
  refine⟨b,off,U,Y,S0 Z,λj x hx=>?_⟩
  obtain⟨f1,v,f2,f3⟩:=g4 j x hx;exact⟨f1,v,f2,RV.up E f3⟩
 | m7 f cs=>
  obtain⟨pv,e0,h⟩:=h;refine⟨pv,e0,?_⟩;obtain⟨b,off,U,Y,Z,g4⟩:=h
  refine⟨b,off,U,Y,S0 Z,λj x hx=>?_⟩
  obtain⟨f1,v,f2,f3⟩:=g4 j x hx;exact⟨f1,v,f2,RV.up E f3⟩
 | pk r n=>
  obtain⟨b,C,D⟩:=h;exact⟨b,(BX r).trans C,D⟩
 | view k s i j=>
  obtain⟨A,n,c,C,D⟩:=h;exact⟨A,n,c,aaa C,D⟩
 | fn f cap=>
  obtain⟨vs,rfl,C,D⟩:=h
  refine⟨vs,rfl,by rw[eS];exact C,λj p hp=>?_⟩
  rw[ez]at hp;cases I:cap[j]? with
  |none=>simp_all
  | some z=>
   rw[I]at hp;injection hp with hp;subst hp;obtain⟨b,off,O,T⟩:=D j z I;exact⟨b,off,(BX _).trans O,T⟩
def dW.up(U:∀ b k,af b=some k -> k≠[]){r:Nat}{x:aS}(h:dW w B af ρ r x):dW w B (mF af) (vN ρ) (qk r) x.up:=by
 have T:=BX (ρ:=ρ) r;have hl:∀{b},af b=some [r] -> mF af b=some [qk r]:=λh=>by simp[mF,h,lA]
 cases h with
 | aB b off cells e cs us C I hh Z Y=>
  refine .aB b off cells e _ us (T.trans C) (hl I) hh (by rw[eS];exact Z) λj x D=>?_
  rw[ez]at D;cases E:cs[j]? with
  |none=>simp_all
  | some z=>
   rw[E]at D;injection D with D;subst D;exact⟨(Y j z E).1,(Y j z E).2.up U⟩
 |sl v y C I=>exact .sl v y (T.trans C) (RV.up U I)
 |mp b c es l C I hh he=>exact .mp b c es l (T.trans C) (hl I) hh he
 | gh us xs C D=>
  refine .gh us _ (T.trans C) λj x O=>?_
  rw[ez]at O;cases E:xs[j]? with
  |none=>simp_all
  | some z=>
   rw[E]at O;injection O with O;subst O;exact RA.up U (D j z E)
def Rl.up(h:Rl w0 N af ρ σ a w):Rl w0 N (mF af) (vN ρ) σ.up a w:=by
 have T:=λb k D=>(h.cV b k D).2.2
 refine⟨h.below,λb k D=>?_,λn x C=>?_,λk=>RA.up T (h.tmp k),h.size,h.defers,λr l E=>?_,h.cL⟩
 ·unfold mF at D;cases hl:af b with
  |none=>simp_all
  | some q=>
   rw[hl]at D;injection D with D;obtain⟨I,O,U⟩:=h.cV b q hl;exact⟨I,O,by rw[<- D];exact akI U⟩
 ·have C:(match zP n with | some r=>(σ.m r).map _ | none=>none)=some x:=C;cases hd:zP n with
  |none=>simp_all
  | some r=>
   rw[hd]at C;have C:(σ.m r).map _=some x:=C;cases hm:σ.m r with
   |none=>simp_all
   | some y=>
    rw[hm]at C;injection C with C;subst C;rw[akH hd];exact(h.root r y hm).up T
 ·have Y:stays r=true:=by
   have I:20000 <= r:=Nat.le_of_not_lt λZ=>by rw[w0.low r Z]at E;cases E
   have O:r<60000:=Nat.lt_of_not_le λhle=>by rw[h.cL r (.inr hle)]at E;cases E
   unfold stays;rw[Nat.mod_eq_of_lt (Nat.lt_of_lt_of_le O akF)];exact jj I
  have hu:qk r=r:=by simp[qk,Y]
  have:=BX (ρ:=ρ) r;rw[hu]at this;rw[this];exact h.fix r l E
def akJ{f:Nat}{c:uq}(h:qf P f c):qf P f (Z8 c):=by
 refine⟨λN σ xs X Y k g=>h.1 N σ.up (xs.map A.up) X Y _ g,λN σ xs τ z O w0 af ρ a w bC E T hv=>?_⟩
 obtain⟨U,y,C,Z⟩:=(h.1 N σ.up (xs.map A.up)).lM O;injection C with C;injection C with h4 h5;subst h4 h5;have h3:=h.2 N σ.up (xs.map A.up) U y (Z _ _);have bY:∀b k,af b=some k->k≠[]:=λb k D=>(E.cV b k D).2.2
 refine(h3 w0 _ _ a w bC E.up (by rw[eS];exact T) λi=>?_).mono λe w' hp=>?_
 ·rw[ez];have:=hv i;cases hx:xs[i]? with
  |none=>trivial
  | some x=>
   rw[hx]at this;exact RA.up bY this
 ·obtain⟨v,aA,ρ',he,I,hy⟩:=hp;exact⟨v,_,_,he,I.up,RA.up (λb k D=>(I.cV b k D).2.2) hy⟩
end
def bq:Nat:=4611686018427387904
def yc(c:Code)(id:Nat):Code:=match (occs c).lookup id with
 |some (.loop b)=>b
 |_=>.skip
def bw(fn:Func):Code:=fn.body.getD .skip
def lV(l:aa (Nat×qg)):ef:=λf=>l.lookup f
def BY(P:Program):aa (Nat×qg)->Prop
 |[]=>True
 |(f,c)::l=>(enters P f/\Rj P f c)/\BY P l
def uC{P:Program}:∀ (l:aa (Nat×qg)),BY P l -> fK P (lV l)
 |[],_=>λf c h=>by cases h
 | (f',E) :: l,⟨I,D⟩=>λf c h=>by
  have C:List.lookup f _=some c:=h;rw[List.lookup_cons]at C;split at C
  ·simp_all
  ·exact uC l D f c C
def jO(l:aa (Nat×sR)):mB:=λid=>l.lookup id
def S1(P:Program)(N:Nat)(code:Code):aa (Nat×sR)->Prop
 |[]=>True
 |(id,b)::l=>(∃c,(occs code).lookup id=some c/\BI P N (.block id c) b)/\S1 P N code l
def ids(l:aa (Nat×Code)):Bool:=(l.map (·.1)).all λi=>Nat.beq ((l.filter λp=>Nat.beq p.1 i).length) 1
def aab:∀ (l:aa (Nat×Code)) (p:Nat×Code),(∀ q∈l,q.1=p.1 -> q=p) -> p∈l -> l.lookup p.1=some p.2
 |[],p,_,h=>by cases h
 | q :: l,p,C,h=>by
  rw[List.lookup_cons];by_cases D:p.1=q.1
  ·simp_all
  ·have hb:(p.1==q.1)=false:=by simpa using D
   rw[hb];rcases gv.1 h with rfl|h
   ·simp_all
   ·exact aab l p (λq hq=>C q (.tail _ hq)) h
def akK{l:aa (Nat×Code)}(h:ids l=true){p q:Nat×Code}(hp:p∈l)(hq:q∈l)(D:q.1=p.1):q=p:=by
 have C:=bT.1 h p.1 (List.mem_map_of_mem hp);have C:=cN C;have E:p∈l.filter λr=>Nat.beq r.1 p.1:=List.mem_filter.2 ⟨hp,by simp⟩
 have I:q∈l.filter λr=>Nat.beq r.1 p.1:=List.mem_filter.2 ⟨hq,by simp[D]⟩
 obtain⟨z,O⟩:=List.length_eq_one_iff.1 C
 grind
def S2{P:Program}{N:Nat}{code:Code}(hi:ids (occs code)=true):∀ (l:aa (Nat×sR)),S1 P N code l -> oV P N (jO l) (occs code)
 |[],_=>λp hp b h=>by cases h
 | (id,I) :: l,⟨⟨c,O,T⟩,E⟩=>λp hp b h=>by
  have C:List.lookup p.1 _=some b:=h;rw[List.lookup_cons]at C;split at C
  ·rename_i D;have D:p.1=id:=by simpa using D
   injection C with C;subst C;have:=aab _ p (λq hq e=>akK hi hp hq e) hp;simp_all
  ·exact S2 hi l E p hp b C
def rM{P:Program}{N:Nat}{l:aa (Nat×Code)}:oV P N (jO []) l:=λp hp b h=>by cases h
def ci(P:Program)(fn:Func)(C:Nat)(l:aa (Nat×qg)):uq:=Z3 P fn.ntmps (59000+C) (lV l) (bw fn) fn.results
def D6{P:Program}{f:Nat}{fn:Func}(C:Nat)(l:aa (Nat×qg))(D:P.funcs[f]?=some fn)(hl:BY P l)(hb:fn.body=some (bw fn):=by kernel_rfl)(hN:Nat.ble fn.ntmps 20000=true:=by kernel_rfl)(hv:Nat.ble C 900=true:=by kernel_rfl)(E:(fn.name == "runtime.NumGoroutine")=false:=by kernel_rfl):enters P f/\qf P f (ci P fn C l):=
 akD D hb rfl (cz hN) E ⟨by omega,by have:=cz hv;omega⟩ (uC l hl)
def cj(P:Program)(fn:Func)(C:Nat)(l:aa (Nat×qg)):uq:=Z8 (ci P fn C l)
def He{P:Program}{f:Nat}{fn:Func}{C:Nat}{l:aa (Nat×qg)}(h:enters P f/\qf P f (ci P fn C l)):enters P f/\qf P f (cj P fn C l):=⟨h.1,akJ h.2⟩
def L0{P:Program}{f:Nat}{fn:Func}{ai:aa (Bool×TC)}{ro:aa (Bool×TC×Nat)}{F:kL ai->aj (iI ro)}(N:Nat)(l:aa (Nat×qg))(b:aa (Nat×sR))(C:P.funcs[f]?=some fn)(hl:BY P l)(D:oV P N (jO b) (occs (bw fn)))(hF:∀x,qj P N (lV l) (jO b) (bw fn) fn.results (gp ai x) (lQ ro)=F x)(hb:fn.body=some (bw fn):=by kernel_rfl)(hN:fn.ntmps=N:=by kernel_rfl)(E:(fn.name == "runtime.NumGoroutine")=false:=by kernel_rfl)(I:Nat.ble ai.length N=true:=by kernel_rfl)(O:lU ro=true:=by kernel_rfl):enters P f/\iO P f (iu ai ro F):=akr C hb hN E I O (uC l hl) D hF
def BZ{P:Program}{f:Nat}{fn:Func}{t:TC}{g:Nat}{F:aa (T t)->aj (aa (T t))}(N:Nat)(l:aa (Nat×qg))(b:aa (Nat×sR))(C:P.funcs[f]?=some fn)(hl:BY P l)(D:oV P N (jO b) (occs (bw fn)))(hF:∀ x:aa (T t),qj P N (lV l) (jO b) (bw fn) fn.results [(false,[.sl t 0 false x])] (lQ [(false,.sl t,g)])=F x)
  (E:qj P N (lV l) (jO b) (bw fn) fn.results [(false,[.nil])] (lQ [(false,.sl t,g)])=some ([]:aa (T t)):=by kernel_rfl) (I:qj P N (lV l) (jO b) (bw fn) fn.results [(false,[.sl t 0 true []])] (lQ [(false,.sl t,g)])=some ([]:aa (T t)):=by kernel_rfl)
  (hb:fn.body=some (bw fn):=by kernel_rfl) (hN:fn.ntmps=N:=by kernel_rfl) (O:(fn.name == "runtime.NumGoroutine")=false:=by kernel_rfl) (U:Nat.ble 1 N=true:=by kernel_rfl) (Y:lU [(false,.sl t,g)]=true:=by kernel_rfl):enters P f/\iO P f (iu [(false,.sl t)] [(false,.sl t,g)] λx=>bif jH x.1 then some ([]:aa (T t))else F x.1):=aks C hb hN O U Y (uC l hl) D hF E I
def aac{P:Program}{id:Nat}{body:Code}{C:bD}{D:aa (Nat×bD)}{F:C.St->aj (C.St⊕uw D)}{fuel:C.St->Nat}(N:Nat)(l:aa (Nat×qg))(b:aa (Nat×sR))(hl:BY P l)(E:oV P N (jO b) (occs body))(hF:∀x,D1 P N (lV l) (jO b) body C D x=F x):BI P N (.block id (.loop body)) (LR id C D F fuel):=akn (uC l hl) E hF
abbrev W6 (x:Int):Int:=IntKind.i64.wrap x
/-! Words for what printed functions say often. -/
def xI{α β:Type}(l:aa α)(i:Int)(k:α->aj β):aj β:=if h:0<=i/\i.toNat<l.length then (let e:=l[i.toNat]'h.2;k e)else none
def xC{α β:Type}(l:aa α)(i:Int)(k:aj β):aj β:=if h:0<=i/\i.toNat<l.length then k else none
def xM{α β:Type}(l:aa α)(i:Int)(k:α->aj β):aj β:=if h:i.toNat<l.length then (let e:=l[i.toNat]'h;k e)else none
def xL{α β:Type}(l:aa α)(i:Int)(k:α->aj β):aj β:=if h:0<=i/\i.toNat<l.length then (if h:i.toNat<l.length then (let e:=l[i.toNat]'h;k e)else none)else none
def xZ{α:Type}(l:aa α):Bool:=bV (([]:aa α).length+l.length)
def xA{α:Type}(l:aa α):aa α:=([]:aa α)++l
def bR{S A C:Type}(L:S->aj (S⊕(A⊕Empty)))(s:S)(f:A->aj C):aj C:=(iter L bq s).bind (Sum.elim f (λz=>nomatch z))
def cY{S A B C:Type}(L:S->aj (S⊕(A⊕(B⊕Empty))))(s:S)(f:A->aj C)(g:B->aj C):aj C:=(iter L bq s).bind (Sum.elim f (Sum.elim g (λz=>nomatch z)))
def xG{S E:Type}(s:S):aj (S⊕E):=some (.inl s)
def aM{S A E:Type}(v:A):aj (S⊕(A⊕E)):=some (.inr (.inl v))
def bF{S A B E:Type}(v:B):aj (S⊕(A⊕(B⊕E))):=some (.inr (.inr (.inl v)))
abbrev tI:Tm:=.lf (.int .i64)
abbrev tB:Tm:=.lf (.bool)
structure KC (P:Program) where
 f:Nat
 c:qg
 ok:enters P f/\Rj P f c
def KL{P:Program}(l:aa (KC P)):aa (Nat×qg):=l.map λk=>(k.f,k.c)
def uD{P:Program}:∀ l:aa (KC P),BY P (KL l)
 |[]=>trivial
 |k::l=>⟨k.ok,uD l⟩
structure BK (P:Program) (N:Nat) (code:Code) where
 id:Nat
 b:sR
 ok:BI P N (.block id (.loop (yc code id))) b
section
variable {P:Program} {f N:Nat} {fn:Func} {code:Code}
def BL(l:aa (BK P N code)):aa (Nat×sR):=l.map λk=>(k.id,k.b)
def BC(l:aa (BK P N code)):aa (aj Code):=l.map λk=>(occs code).lookup k.id
def BD(l:aa (BK P N code)):aa (aj Code):=l.map λk=>some (.loop (yc code k.id))
def aad:∀ l:aa (BK P N code),BC l=BD l -> S1 P N code (BL l)
 |[],_=>trivial
 | k :: l,h=>by
  unfold BC BD at h;injection h with C D;exact⟨⟨_,C,k.ok⟩,aad l D⟩
def BT(l:aa (BK P N code))(C:BC l=BD l)(hi:ids (occs code)=true):oV P N (jO (BL l)) (occs code):=S2 hi _ (aad l C)
def lB(id:Nat)(C:bD)(D:aa (Nat×bD))(F:C.St->aj (C.St⊕uw D)):sR:=LR id C D F λ_=>bq
def lp{body:Code}{id:Nat}{C:bD}{D:aa (Nat×bD)}{F:C.St->aj (C.St⊕uw D)}(l:aa (KC P))(hF:∀x,D1 P N (lV (KL l)) (jO []) body C D x=F x:=by intro x;kernel_rfl):BI P N (.block id (.loop body)) (lB id C D F):=aac N (KL l) [] (uD l) rM hF
def lq{id:Nat}{C:bD}{D:aa (Nat×bD)}{F:C.St->aj (C.St⊕uw D)}(l:aa (KC P))(b:aa (BK P N code))(E:BC b=BD b:=by kernel_rfl)(hi:ids (occs code)=true:=by kernel_rfl)(hF:∀x,D1 P N (lV (KL l)) (jO (BL b)) code C D x=F x:=by intro x;kernel_rfl):BI P N (.block id (.loop code)) (lB id C D F):=aac N (KL l) (BL b) (uD l) (BT b E hi) hF
def kp{ai:aa (Bool×TC)}{ro:aa (Bool×TC×Nat)}{F:kL ai->aj (iI ro)}(N:Nat)(l:aa (KC P))(C:P.funcs[f]?=some fn)(hF:∀x,qj P N (lV (KL l)) (jO []) (bw fn) fn.results (gp ai x) (lQ ro)=F x:=by intro x;kernel_rfl)(hb:fn.body=some (bw fn):=by kernel_rfl)(hN:fn.ntmps=N:=by kernel_rfl)(D:(fn.name == "runtime.NumGoroutine")=false:=by kernel_rfl)(E:Nat.ble ai.length N=true:=by kernel_rfl)(I:lU ro=true:=by kernel_rfl):enters P f/\iO P f (iu ai ro F):=L0 N (KL l) [] C (uD l) rM hF hb hN D E I
def kq{ai:aa (Bool×TC)}{ro:aa (Bool×TC×Nat)}{F:kL ai->aj (iI ro)}(N:Nat)(l:aa (KC P))(b:aa (BK P N (bw fn)))(C:P.funcs[f]?=some fn)(D:BC b=BD b:=by kernel_rfl)(hi:ids (occs (bw fn))=true:=by kernel_rfl)(hF:∀x,qj P N (lV (KL l)) (jO (BL b)) (bw fn) fn.results (gp ai x) (lQ ro)=F x:=by intro x;kernel_rfl)(hb:fn.body=some (bw fn):=by kernel_rfl)(hN:fn.ntmps=N:=by kernel_rfl)(E:(fn.name == "runtime.NumGoroutine")=false:=by kernel_rfl)(I:Nat.ble ai.length N=true:=by kernel_rfl)(O:lU ro=true:=by kernel_rfl):enters P f/\iO P f (iu ai ro F):=L0 N (KL l) (BL b) C (uD l) (BT b D hi) hF hb hN E I O
def km{ps:aa PK}{ro:aa (Bool×TC×Nat)}{F:kZ ps->aj (iI ro×rm (eF ps))}(N:Nat)(l:aa (KC P))(C:P.funcs[f]?=some fn)(hF:∀x,BU P N (lV (KL l)) (jO []) (bw fn) fn.results (nq ps x) (kj ps 0 x) (D3 (eF ps) ro)=F x:=by intro x;kernel_rfl)(hb:fn.body=some (bw fn):=by kernel_rfl)(hN:fn.ntmps=N:=by kernel_rfl)(D:(fn.name == "runtime.NumGoroutine")=false:=by kernel_rfl)(E:Nat.ble ps.length N=true:=by kernel_rfl)(I:Nat.ble N 20000=true:=by kernel_rfl)(O:lU ro=true:=by kernel_rfl):enters P f/\vu P f ⟨ps,ro,F⟩:=LW C hb hN D E I O (uC _ (uD l)) rM hF
def kn{ps:aa PK}{ro:aa (Bool×TC×Nat)}{F:kZ ps->aj (iI ro×rm (eF ps))}(N:Nat)(l:aa (KC P))(b:aa (BK P N (bw fn)))(C:P.funcs[f]?=some fn)(D:BC b=BD b:=by kernel_rfl)(hi:ids (occs (bw fn))=true:=by kernel_rfl)(hF:∀x,BU P N (lV (KL l)) (jO (BL b)) (bw fn) fn.results (nq ps x) (kj ps 0 x) (D3 (eF ps) ro)=F x:=by intro x;kernel_rfl)(hb:fn.body=some (bw fn):=by kernel_rfl)(hN:fn.ntmps=N:=by kernel_rfl)(E:(fn.name == "runtime.NumGoroutine")=false:=by kernel_rfl)(I:Nat.ble ps.length N=true:=by kernel_rfl)(O:Nat.ble N 20000=true:=by kernel_rfl)(T:lU ro=true:=by kernel_rfl):enters P f/\vu P f ⟨ps,ro,F⟩:=LW C hb hN E I O T (uC _ (uD l)) (BT b D hi) hF
def bS(ai:aa (Bool×TC))(ro:aa (Bool×TC×Nat))(F:kL ai->aj (iI ro))(N:Nat)(l:aa (KC P))(C:P.funcs[f]?=some fn)(hF:∀x,qj P N (lV (KL l)) (jO []) (bw fn) fn.results (gp ai x) (lQ ro)=F x:=by intro x;kernel_rfl)(hb:fn.body=some (bw fn):=by kernel_rfl)(hN:fn.ntmps=N:=by kernel_rfl)(D:(fn.name == "runtime.NumGoroutine")=false:=by kernel_rfl)(E:Nat.ble ai.length N=true:=by kernel_rfl)(I:lU ro=true:=by kernel_rfl):KC P:=⟨f,.p (iu ai ro F),L0 N (KL l) [] C (uD l) rM hF hb hN D E I⟩
def dg(ai:aa (Bool×TC))(ro:aa (Bool×TC×Nat))(F:kL ai->aj (iI ro))(N:Nat)(l:aa (KC P))(b:aa (BK P N (bw fn)))(C:P.funcs[f]?=some fn)(D:BC b=BD b:=by kernel_rfl)(hi:ids (occs (bw fn))=true:=by kernel_rfl)(hF:∀x,qj P N (lV (KL l)) (jO (BL b)) (bw fn) fn.results (gp ai x) (lQ ro)=F x:=by intro x;kernel_rfl)(hb:fn.body=some (bw fn):=by kernel_rfl)(hN:fn.ntmps=N:=by kernel_rfl)(E:(fn.name == "runtime.NumGoroutine")=false:=by kernel_rfl)(I:Nat.ble ai.length N=true:=by kernel_rfl)(O:lU ro=true:=by kernel_rfl):KC P:=⟨f,.p (iu ai ro F),L0 N (KL l) (BL b) C (uD l) (BT b D hi) hF hb hN E I O⟩
def mG(ps:aa PK)(ro:aa (Bool×TC×Nat))(F:kZ ps->aj (iI ro×rm (eF ps)))(N:Nat)(l:aa (KC P))(C:P.funcs[f]?=some fn)(hF:∀x,BU P N (lV (KL l)) (jO []) (bw fn) fn.results (nq ps x) (kj ps 0 x) (D3 (eF ps) ro)=F x:=by intro x;kernel_rfl)(hb:fn.body=some (bw fn):=by kernel_rfl)(hN:fn.ntmps=N:=by kernel_rfl)(D:(fn.name == "runtime.NumGoroutine")=false:=by kernel_rfl)(E:Nat.ble ps.length N=true:=by kernel_rfl)(I:Nat.ble N 20000=true:=by kernel_rfl)(O:lU ro=true:=by kernel_rfl):KC P:=⟨f,.m ⟨ps,ro,F⟩,LW C hb hN D E I O (uC _ (uD l)) rM hF⟩
def L1(ps:aa PK)(ro:aa (Bool×TC×Nat))(F:kZ ps->aj (iI ro×rm (eF ps)))(N:Nat)(l:aa (KC P))(b:aa (BK P N (bw fn)))(C:P.funcs[f]?=some fn)(D:BC b=BD b:=by kernel_rfl)(hi:ids (occs (bw fn))=true:=by kernel_rfl)(hF:∀x,BU P N (lV (KL l)) (jO (BL b)) (bw fn) fn.results (nq ps x) (kj ps 0 x) (D3 (eF ps) ro)=F x:=by intro x;kernel_rfl)(hb:fn.body=some (bw fn):=by kernel_rfl)(hN:fn.ntmps=N:=by kernel_rfl)(E:(fn.name == "runtime.NumGoroutine")=false:=by kernel_rfl)(I:Nat.ble ps.length N=true:=by kernel_rfl)(O:Nat.ble N 20000=true:=by kernel_rfl)(T:lU ro=true:=by kernel_rfl):KC P:=⟨f,.m ⟨ps,ro,F⟩,LW C hb hN E I O T (uC _ (uD l)) (BT b D hi) hF⟩
def xU0{A R:Type}(F:R)(_:A):R:=F
def cA{A Z R:Type}(F:A->R)(x:A×Z):R:=F x.1
def dc{A B Z R:Type}(F:A->B->R)(x:A×B×Z):R:=F x.1 x.2.1
def iZ{A B C Z R:Type}(F:A->B->C->R)(x:A×B×C×Z):R:=F x.1 x.2.1 x.2.2.1
def B0{A B C D Z R:Type}(F:A->B->C->D->R)(x:A×B×C×D×Z):R:=F x.1 x.2.1 x.2.2.1 x.2.2.2.1
def S3{A B C D E Z R:Type}(F:A->B->C->D->E->R)(x:A×B×C×D×E×Z):R:=F x.1 x.2.1 x.2.2.1 x.2.2.2.1 x.2.2.2.2.1
end
end Go.Proofs.YtpigmalhjkekiaaGreat
