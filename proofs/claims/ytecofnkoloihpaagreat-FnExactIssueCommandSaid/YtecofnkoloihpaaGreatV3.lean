/-
  Running the program over pure contents, and that it follows (part 3). Nothing here is a claim.
-/
import Derived.Lib.AppendStr
import Derived.MapKept
import Derived.Test.YtecofnkoloihpaaGreatV2
set_option linter.unusedSimpArgs false
namespace Go.Proofs.YtecofnkoloihpaaGreat
open Go.RowKit
set_option linter.unusedVariables false
section
variable {P:Program} {w w':World} {w0:Wd} {B N:Nat} {aj dI aD:bM} {ρ fh ρ':Nat->Loc} {σ:S} {a:Act} {X:Type} {d:Nat} {r:X} {ns cn:af Nat} {o:Oper} {rs:af Nat} {eY:af (Nat×Nat)} {nm MU:Nat->Nat} {c0:Nat}
theorem alo{dst:ak Tmp}{res:ig}{k:S->ak X}(h:sD N σ dst res k=some r):∃ aA,k aA=some r/\∀ aj ρ a w v,Rl w0 N aj ρ σ a w->sr w w0.heap.size aj (λn=>jt dst+n) res v->∃ ρ',Rl w0 N aj ρ' aA (a.put dst v) w/\∀ r,r<jt dst->ρ' r=ρ r:=by
 unfold sD at h;cases dst with
 |none=>exact⟨σ,h,λaj ρ a w v hR _=>⟨ρ,hR,λ_ _=>rfl⟩⟩
 | some d=>
  have h:(bif Nat.blt d N then (match res with
   | .one p=>(match si (p.1,lP (1000000000100000+1000*d) p.2)with
    |some y=>k ((jG (1000000000100000+1000*d) σ p.2).set d y)
    |none=>none)
   |.cU ps=>k ((mT (1000000000100000+1000*d) σ ps).set d (.cU (nB (1000000000100000+1000*d) ps))))else none)=some r:=h
  cases hN:Nat.blt d N with
  |false=>rw[hN]at h;cases h
  | true=>
   rw[hN,aq]at h;have BF:d<N:=cT hN;cases res with
   | one p=>
    simp only at h;split at h
    ·rename_i y hy
     refine⟨_,h,λaj ρ a w v hR iX=>?_⟩
     obtain⟨ρ',mA,iH,_,iQ⟩:=G9 [p] (1000000000100000+1000*d) 0 σ ρ [v] (by omega) hR iX;have Tx:=iQ 0 _ v rfl rfl;exact⟨ρ',mA.set (S2 hy Tx) BF,iH⟩
    ·cases h
   | cU n5=>
    refine⟨_,h,λaj ρ a w v hR iX=>?_⟩
    obtain⟨vs,rfl,hv⟩:=iX;obtain⟨ρ',mA,iH,hlen,iQ⟩:=G9 n5 (1000000000100000+1000*d) 0 σ ρ vs.toList (by omega) hR hv
    refine⟨ρ',mA.set ⟨vs,rfl,by simpa using hlen,λj p hp=>?_⟩ BF,iH⟩
    have hj:j<vs.size:=by
     have:=(dS.1 hp).1;rw[Nat.add_zero]at hlen;rw[<-hlen]at this
     simpa using this
    exact⟨vs[j],Array.getElem?_eq_getElem hj,iQ j p _ hp (by rw[nh,Array.getElem?_eq_getElem hj])⟩
theorem TW{f:Nat}{args:Array Operand}{gf:Array TypeId}{c:pz}{k:S->ak X}(ho:o.op = .call { callee:=.value (.func f),args,argTypes:=gf })(he:enters P f)(hc:uE P f c)(h:qp N σ o.dst c args.toList k=some r):∃ aA aS cn,k aA=some r/\oM σ c.ps args.toList=some aS/\(∀ n,cX n cn=true->n<N\/60000<=n)/\(∀ mu∈aS,cX mu.root cn=false)/\
  ∀a w K Q aj ρ,Rl w0 N aj ρ σ a w->(∀v w' dI fh tF,Rl w0 N dI tF aA (a.put o.dst v) w'->sA w w' aj dI ρ fh ((oN 0 aS).map (·.1)) cn->kJ w0 w w'->(∀r,r<jt o.dst->tF r=fh r)->K (a.put o.dst v) w')->o.wp P a w K Q:=by
 unfold qp at h;split at h
 ·rename_i aS qq;generalize xJ:oN 0 aS=eY at h;cases lT:(once eY&&Nat.ble aS.length 40)with
  |false=>rw[lT]at h;cases h
  | true=>
   rw[lT,aq]at h;rw[bx]at lT;have aA4:=cT lT.2;have uC:∀ p∈oN 0 aS,eY.lookup p.1=some p.2:=by
    intro p hp;rw[xJ]at hp;have:=dQ.1 lT.1 p hp;obtain⟨n,hn,he⟩:=(Option.any_eq_true _ _).1 this;rw[hn,cr he]
   obtain⟨x,h2,hrel,aA5,iR⟩:=MR (w0:=w0) (N:=N) _ _ aS _ qq h;clear h;split at h2
   ·rename_i y hy;unfold Ei at h2;generalize qf:qm (jt o.dst) (gi c.ro y.1).len aS (lS (gq c.ps) y.2)=cn at h2;generalize zo:eY.map (·.1)=ns at h2 iR;cases eH:Eh N aS (lS (gq c.ps) y.2) cn with
    |false=>rw[eH]at h2;cases h2
    | true=>
     rw[eH,aq]at h2;simp only[Eh,bx]at eH;obtain⟨⟨⟨ok1,ok2⟩,ok3⟩,ok4⟩:=eH;obtain⟨aA,h3,MV⟩:=alo (w0:=w0) h2
     refine⟨aA,aS,cn,h3,qq,λn hn=>?_,λmu iq=>by simpa using dQ.1 ok2 mu iq,λa w K Q aj ρ hR hK=>?_⟩
     ·have:=dQ.1 ok3 n (xF.1 hn);rw[fE]at this;rcases this with h | h
      ·exact .inl (by have:=cT h;omega)
      ·exact .inr (cT h)
     have hS:BO ns aj (fm aj eY id):=by rw[<-zo];exact alj (λb k hb=>(hR.dF b k hb).2.2)
     have aaY:=MQ _ _ _ qq;let rs:=aS.map Mu.root
     have fR:∀ j mu,aS[j]?=some mu->rs[0+j]?=some mu.root:=by
      intro j mu hj;rw[fV,dP,hj];rfl
     have hE:=TO (rs:=rs) hR hS aS (qj c.ps x) 0 uC fR aaY hrel (by omega);have hA:=iR aj ρ a w (fm aj eY id) (xH w ρ rs) hR hS (qj c.ps x) 0 (λj z hz=>by rw[fV];exact hz) (λj mu hj=>by
      have h1:=fR j mu hj;rw[fV]at h1 ⊢;exact Hq h1 (by have:=(dS.1 hj).1;omega))
     obtain⟨hA1,Th⟩:=Eg.get _ _ hA;let nm:Nat->Nat:=λn=>if n<(gi c.ro y.1).len then jt o.dst+n else (zW (jt o.dst) (gi c.ro y.1).len aS).getD (n-(gi c.ro y.1).len) 0
     have iQ:∀ (ps:af PK) (i:Nat) (x:oL ps),(mU ps i x).length=ps.length:=by
      intro ps
      induction ps with
      |nil=>intro i x;rfl
      | cons p ps ih=>
       intro i x;cases p with
       |v=>exact bJ (· + 1) (ih _ _)
       |p=>exact bJ (· + 1) (ih _ _)
       |s=>exact bJ (· + 1) (ih _ _)
     unfold Oper.wp;rw[Tw w o a f args gf ho he,Oper.upon_enter];have BG:(args.map a.eval)=(args.toList.map a.eval).toArray:=by apply Array.ext';rw[Array.toList_map]
     rw[BG];have MW:∀ b k,fm aj eY id b=some k->(∃ k',aj b=some k'/\dz k' ns=true)/\k≠[]:=by
      intro b k hb;cases hl:aj b with
      |none=>rw[hS.none b hl]at hb;cases hb
      | some k'=>
       refine⟨⟨k',rfl,?_⟩,?_⟩
       ·cases hq:dz k' ns with
        |true=>rfl
        |false=>rw[(hS.rest b k' hl).2 hq]at hb;cases hb
       ·simp only[fm,hl]at hb;split at hb
        ·cases hb
        ·cases aaZ:eY.lookup _ with
         |none=>rw[aaZ]at hb;cases hb
         |some n=>rw[aaZ]at hb;injection hb with hb;subst hb;simp
     have hQ:Hd w (fm aj eY id):=w0.on hR.below (λb k hb=>by obtain⟨⟨k',hl,_⟩,_⟩:=MW b k hb;exact(hR.dF b k' hl).1)
     refine(hc x y hy nm w (fm aj eY id) (xH w ρ rs) _ hE (λb k hb=>⟨?_,(MW b k hb).2⟩) ?_ Th hQ).mono λe w' uA=>?_
     ·obtain⟨⟨k',hl,_⟩,_⟩:=MW b k hb;exact(hR.dF b k' hl).2.1
     ·rw[List.size_toArray,hA1,iQ]
     ·obtain⟨v,ij,rfl,iV,Ek,iX,TX⟩:=uA;have hB:=hR.below.size;let dI:bM:=λb=>match fm aj eY id b with
       |none=>if b<w.heap.size then aj b else ij b
       |some _=>ij b
      have e1:∀ b k,ij b=some k->dI b=some k:=by
       intro b k hb;show (match fm aj eY id b with|none=>if b<w.heap.size then aj b else ij b|some _=>ij b)=some k;split
       next dn=>have:=(Ek b k hb).1;have ox:w.heap.size<=b:=this.resolve_right (λh=>h dn);rw[cm (by omega)];exact hb
       ·exact hb
      have e2:∀ b,w.heap.size<=b->dI b=ij b:=by
       intro b hb;show (match fm aj eY id b with|none=>if b<w.heap.size then aj b else ij b|some _=>ij b)=ij b;split
       ·rw[cm (by omega)]
       ·rfl
      have aa0:∀ p∈tE w' ρ (jt o.dst) (gi c.ro y.1).len aS (lS (gq c.ps) y.2),(tE w' ρ (jt o.dst) (gi c.ro y.1).len aS (lS (gq c.ps) y.2)).lookup p.1=some p.2:=
       aaT (by rw[MT,qf];exact ok1)
      generalize BY:tE w' ρ (jt o.dst) (gi c.ro y.1).len aS (lS (gq c.ps) y.2)=hd at aa0;have alp:hd.map (·.1)=cn:=by rw[<-BY,MT,qf]
      have hv:sA w w' aj dI ρ (aaR hd ρ) ns cn:=by
       refine⟨iV.size,λb hb hk=>?_,λn hn=>?_,λb k hb=>(hR.dF b k hb).2⟩
       ·have dn:fm aj eY id b=none:=by
         cases hl:aj b with
         |none=>exact hS.none b hl
         |some k=>exact(hS.rest b k hl).2 (hk k hl)
        refine⟨iV.block b hb dn,?_⟩;show (match fm aj eY id b with|none=>if b<w.heap.size then aj b else ij b|some _=>ij b)=aj b;rw[dn];exact bB hb
       ·show (match hd.lookup n with|some v=>Loc.eK v|none=>ρ n)=ρ n;rw[aaS (by rw[alp];exact hn)]
      have Hw:∀mu∈aS,cX mu.root cn=false:=λmu iq=>by simpa using dQ.1 ok2 mu iq
      have hnr:=TS (c0:=jt o.dst) (nm:=nm) hR hv e1 e2 hB aS (qj c.ps x) (lS (gq c.ps) y.2) 0 (gi c.ro y.1).len fR aaY hrel (by omega) TX (λk n hn=>?_) (λp hp=>?_) Hw ok4
      ·have aa1:kJ w0 w w':=by
        refine⟨iV.os,iV.tape,iV.output,iV.size,λk hk hL=>iV.block k (mg hk hB) ?_⟩
        cases hl:aj k with
        |none=>exact hS.none k hl
        |some k'=>exact absurd hL ((hR.dF k k' hl).1.resolve_left (by omega))
       have mA:Rl w0 N dI (aaR hd ρ) (σ.cL ns cn (pG ns cn (jt o.dst) (gi c.ro y.1).len aS (lS (gq c.ps) y.2))) a w':=by
        refine hR.kB hv aa1 (λb k hb=>?_) (λn hn=>?_) (λn z hz=>?_)
        ·have hb:(match fm aj eY id b with | none=>if b<w.heap.size then aj b else ij b | some _=>ij b)=some k:=hb;have aa2:ij b=some k->(w0.heap.size<=b\/w0.L b≠none)/\b<w'.heap.size/\k≠[]:=by
          intro h1;obtain⟨g1,g2,g3⟩:=Ek b k h1;refine⟨?_,g2,g3⟩;rcases g1 with g1|g1
          ·exact .inl (Nat.le_trans hB g1)
          ·cases dn:fm aj eY id b with
           |none=>exact absurd dn g1
           | some k2=>
            obtain⟨⟨k',hl,_⟩,_⟩:=MW b k2 dn;exact(hR.dF b k' hl).1
         split at hb
         ·split at hb
          ·have:=hR.dF b k hb;exact⟨this.1,mg this.2.1 iV.size,this.2.2⟩
          ·exact aa2 hb
         ·exact aa2 hb
        ·have:=dQ.1 ok3 n (xF.1 hn);rw[fE]at this;refine hR.ef n ?_;rcases this with h | h
         ·exact .inl (by have:=cT h;omega)
         ·exact .inr (cT h)
        ·have zN:(n,z)∈pG ns cn (jt o.dst) (gi c.ro y.1).len aS (lS (gq c.ps) y.2):=by
          clear hnr;generalize pG ns cn (jt o.dst) (gi c.ro y.1).len aS (lS (gq c.ps) y.2)=l at hz
          induction l with
          |nil=>cases hz
          | cons p l ih=>
           rw[List.lookup_cons]at hz;cases hb:n==p.1 with
           | true=>
            rw[hb]at hz;have e:n=p.1:=by simpa using hb
            injection hz with hz;rw[e,<-hz];exact .head _
           | false=>
            rw[hb]at hz;exact .tail _ (ih hz)
         exact hnr (n,z) zN
       have alq:sr w' w0.heap.size dI (λn=>jt o.dst+n) (gi c.ro y.1) v:=?_
       ·obtain⟨tF,Hx,xK⟩:=MV dI _ a w' v mA alq;exact hK v w' dI _ tF Hx (by rw[xJ,zo];exact hv) aa1 xK
       have TY:∀(L:Nat),L=(gi c.ro y.1).len->∀n,n<L->nm n=jt o.dst+n:=λL hL n hn=>bB (by omega)
       generalize aA6:gi c.ro y.1=res at iX TY;cases res with
       | one p=>
        have iX:kQ w' w.heap.size ij nm 0 [p] [v]:=iX;exact kQ.BX [p] 0 [v] iX hB e2 e1 (λn _ hn=>TY _ rfl n (by simpa [ig.len]using hn))
       | cU n5=>
        obtain⟨vs,e,gW⟩:=iX;exact⟨vs,e,kQ.BX n5 0 vs.toList gW hB e2 e1 (λn _ hn=>TY _ rfl n (by simpa [ig.len]using hn))⟩
      ·show (if (gi c.ro y.1).len+k<(gi c.ro y.1).len then jt o.dst+((gi c.ro y.1).len+k)else (zW (jt o.dst) (gi c.ro y.1).len aS).getD ((gi c.ro y.1).len+k-(gi c.ro y.1).len) 0)=n;rw[cm (by omega),show (gi c.ro y.1).len+k-(gi c.ro y.1).len=k by omega,fX,hn];rfl
      ·rw[BY]at hp;show (match hd.lookup p.1 with|some v=>Loc.eK v|none=>ρ p.1) = .eK p.2;rw[aa0 p hp]
   ·cases h2
 ·cases h
theorem alr{f:Nat}{args:Array Operand}{gf:Array TypeId}{c:pz}{k:S->ak X}(ho:o.op = .call { callee:=.value (.func f),args,argTypes:=gf })(he:enters P f)(hc:uE P f c)(h:qp N σ o.dst c args.toList k=some r):∃ aA,k aA=some r/\oz P w0 N o σ aA:=by
 obtain⟨aA,aS,cn,h1,_,_,_,h2⟩:=TW (w0:=w0) ho he hc h
 refine⟨aA,h1,λa w K Q hR hK=>?_⟩
 obtain⟨aj,ρ,hR⟩:=hR;exact h2 a w K Q aj ρ hR λv w' dI fh tF aV _ _ _=>hK _ _ ⟨dI,tF,aV⟩
end
end Go.Proofs.YtecofnkoloihpaaGreat
namespace Go.Proofs.YtecofnkoloihpaaGreat
open Go.RowKit
set_option linter.unusedVariables false
def dT:Nat:=89999
def rq(aj:bM)(k:af Nat):bM:=λb=>match aj b with
 |some q=>bif k.isSuffixOf q then some (q.take (q.length-k.length)++[dT])else bif bP dT q then none else some q
 |none=>none
def MX(σ:S)(c:pz)(args:af Operand)(q:Nat):Bool:=match oM σ c.ps args with
 |some aS=>!cX q ((oN 0 aS).map (·.1))&&aS.any λmu=>Nat.beq mu.root dT
 |none=>false
def BZ{X:Type}(N:Nat)(σ:S)(dst:ak Tmp)(c:pz)(args:af Operand)(k:S->ak X):ak X:=
 match args with
 | .tmp t :: _=>(match σ.t t with
  | .lf (.own [j,i,s,q])=>(match σ.m q with
   | some (.sl (.sl tc (o+2) qn l))=>if s=aB tc then (if hi:i<l.length then (match (enc tc o l[i])[j]? with
    | some y=>bif Nat.ble N 20000&&Nat.ble 20000 q&&Nat.blt q 60000&&MX ((σ.cL [q,dT] [dT] [(dT,.sl y)]).set t (.lf (.own [dT]))) c args q then qp N ((σ.cL [q,dT] [dT] [(dT,.sl y)]).set t (.lf (.own [dT]))) dst c args λτ=>(match τ.m dT with
      | some (.sl y')=>(match dec tc o (splice (enc tc o l[i]) j [y'])with
       |some e=>k ((τ.drop dT).root q (.sl (.sl tc (o+2) qn (l.set i e))))
       |none=>none)
      |_=>none)else none
    |none=>none)else none)else none
   |_=>none)
  |_=>none)
 |_=>none
section
variable {P:Program} {w w':World} {w0:Wd} {B N:Nat} {aj dI aD:bM} {ρ fh ρ':Nat->Loc} {σ:S} {a:Act} {X:Type} {d:Nat} {r:X} {o:Oper} {K:af Nat}
theorem MY{b:Nat}(h:aj b=none):rq aj K b=none:=by simp[rq,h]
theorem als{b:Nat}{p:af Nat}(h:aj b=some (p++K)):rq aj K b=some (p++[dT]):=by
 have h1:K.isSuffixOf (p++K)=true:=List.isSuffixOf_iff_suffix.2 ⟨p,rfl⟩;simp[rq,h,h1]
theorem TZ{b:Nat}{k:af Nat}(h:aj b=some k)(h1:¬ K <:+ k)(h2:bP dT k=false):rq aj K b=some k:=by
 have h1:K.isSuffixOf k=false:=by
  cases hk:K.isSuffixOf k with
  |false=>rfl
  |true=>exact absurd (List.isSuffixOf_iff_suffix.1 hk) h1
 simp[rq,h,h1,h2]
theorem RV.cut{k:af Nat}{x:V}{v:Value}(h:RV w B aj k x v):∀ p,k=p++K\/x.az=true->RV w B (rq aj K) (p++[dT]) x v:=by
 induction h with
 |int=>exact λ_ _=>.int _ _ _
 |bool=>exact λ_ _=>.bool _ _
 |str=>exact λ_ _=>.str _ _
 |nil=>exact λ_ _=>.nil _
 |c9=>exact λ_ _=>.c9 _ _ _
 |dm=>exact λ_ _=>.dm _ _ _ _ _ (by first|assumption|omega)
 |dD=>exact λ_ _=>.dD _ _ _ _ _ (by first|assumption|omega)
 | az k t o qn l b off cap u ho hl hb h1 eA hc hr ih=>
  exact λp _=>.az _ _ _ _ _ _ _ _ u ho (MY hl) hb h1 eA hc (λi h j x hx=>(ih i h j x hx [] (.inr (mj t o l[i] ho j x hx))).key (mj t o l[i] ho j x hx))
 | own k t o qn l b cap cs u hl hh hs hn hm hc hr ih=>
  intro p hp;have hp:k=p++K:=by
   rcases hp with hp|hp
   ·exact hp
   ·simp[V.az]at hp;omega
  subst hp;exact .own _ _ _ _ _ _ _ cs u (als hl) hh hs hn hm hc (λi h j x hx=>ih i h j x hx (j::i::aB t::p) (.inl rfl))
theorem RV.alu{k:af Nat}{x:V}{v:Value}(h:RV w B aj k x v)(br:∀ b,aj b≠some [])(hk:((∀ p,¬ K <:+ p++k)/\bP dT k=false)\/x.az=true):RV w B (rq aj K) k x v:=by
 induction h with
 |int=>exact .int _ _ _
 |bool=>exact .bool _ _
 |str=>exact .str _ _
 |nil=>exact .nil _
 |c9=>exact .c9 _ _ _
 |dm=>exact .dm _ _ _ _ _ (by first|assumption|omega)
 |dD=>exact .dD _ _ _ _ _ (by first|assumption|omega)
 | az k t o qn l b off cap u ho hl hb h1 eA hc hr ih=>
  exact .az _ _ _ _ _ _ _ _ u ho (MY hl) hb h1 eA hc (λi h j x hx=>ih i h j x hx (.inr (mj t o l[i] ho j x hx)))
 | own k t o qn l b cap cs u hl hh hs hn hm hc hr ih=>
  have hk:(∀ p,¬ K <:+ p++k)/\bP dT k=false:=by
   rcases hk with hk|hk
   ·exact hk
   ·simp[V.az]at hk;omega
  refine .own _ _ _ _ _ _ _ cs u (TZ hl (hk.1 []) hk.2) hh hs hn hm hc (λi h j x hx=>ih i h j x hx (.inl ⟨λp=>?_,?_⟩))
  ·have:=hk.1 (p++[j,i,aB t])
   rwa [List.append_assoc]at this
  ·have El:k≠[]:=by rintro rfl;exact br b hl
   rw[Mo El];exact hk.2
theorem Rl.alv{t:Nat}{x:A}(h:Rl w0 N aj ρ σ a w)(hx:RA w w0.heap.size aj ρ x (a.tmps.getD t undef)):Rl w0 N aj ρ (σ.set t x) a w:=by
 refine⟨h.below,h.dF,h.root,λk=>?_,h.size,h.defers,h.fix,h.ef⟩
 show RA w w0.heap.size aj ρ (cB σ.t t x k) (a.tmps.getD k undef);by_cases hk:k=t
 ·subst hk;rw[cG];exact hx
 ·rw[cV _ _ _ hk];exact h.tmp k
theorem Rl.alw{q:Nat}{x:bg}(h:Rl w0 N aj ρ σ a w)(hx:fz w w0.heap.size aj ρ q x):Rl w0 N aj ρ (σ.root q x) a w:=by
 refine⟨h.below,h.dF,λr y hy=>?_,h.tmp,h.size,h.defers,h.fix,h.ef⟩
 have hy:cB σ.m q (some x) r=some y:=hy;by_cases hr:r=q
 ·subst hr;rw[cG]at hy;injection hy with hy;subst hy;exact hx
 ·rw[cV _ _ _ hr]at hy;exact h.root r y hy
theorem kJ.alx(h:Rl w0 N aj ρ σ a w):kJ w0 w w:=⟨rfl,rfl,rfl,gj _,λ_ _ _=>rfl⟩
theorem aly{f:Nat}{args:Array Operand}{gf:Array TypeId}{c:pz}{k:S->ak X}(ho:o.op = .call { callee:=.value (.func f),args,argTypes:=gf })(he:enters P f)(hc:uE P f c)(h:BZ N σ o.dst c args.toList k=some r):∃ aA,k aA=some r/\oz P w0 N o σ aA:=by
 unfold BZ at h;split at h
 ·rename_i t rest iR;split at h
  ·rename_i j i s q ht;split at h
   ·rename_i tc oo qn l hm;split at h
    ·rename_i hs;subst hs;split at h
     ·rename_i hi;split at h
      ·rename_i y hy;generalize alz:((σ.cL [q,dT] [dT] [(dT,.sl y)]).set t (.lf (.own [dT])))=mW at h;cases hb:(Nat.ble N 20000&&Nat.ble 20000 q&&Nat.blt q 60000&&MX mW c args.toList q)with
       |false=>rw[hb]at h;cases h
       | true=>
        rw[hb,aq]at h;simp only[bx]at hb;obtain⟨⟨⟨hN,qe⟩,so⟩,MZ⟩:=hb;have hN:=cT hN;have qe:=cT qe;have so:q<60000:=cT so;obtain⟨τ,aS,cn,hk,qq,qf,Hw,He⟩:=TW (w0:=w0) ho he hc h;clear h;unfold MX at MZ;rw[qq]at MZ;simp only[bx,nq]at MZ;obtain⟨GV,hdT⟩:=MZ;obtain⟨mu,iq,T0⟩:=List.any_eq_true.1 hdT;have T0:=cr T0;have alA:cX dT cn=false:=by rw[<-T0];exact Hw mu iq
        have alB:cX q cn=false:=by
         cases hx:cX q cn with
         |false=>rfl
         |true=>have:=qf q hx;omega
        have T1:q≠dT:=by unfold dT;omega
        split at hk
        ·rename_i y' fJ;split at hk
         ·rename_i e Hy
          refine⟨_,hk,λa w KK Q hR hK=>?_⟩
          obtain⟨aj,ρ,hR⟩:=hR;have br:=hR.xk;have alC:w0.F dT=none:=hR.ef dT (.inr (by decide));have cZ:=hR.root q _ hm;generalize hx:bg.sl (.sl tc (oo+2) qn l)=x at cZ;cases cZ with
          |aC=>cases hx
          |mp=>cases hx
          |gh=>cases hx
          | sl v yq aO hr=>
           injection hx with hx;subst hx;cases hr with
           |c9=>simp at hi
           |dm=>simp at hi
           |dD=>simp at hi
           |az _ _ _ _ _ _ _ _ _ ho=>omega
           | own _ _ _ _ _ b cap cs u hl hh hs hn tf T2 mS=>
            have hKv:vL σ.m [j,i,aB tc,q] y:=.elem j i [q] tc oo qn l y (.root q _ hm) hi hy;obtain⟨u0,kr,alD⟩:=hKv.ok hR.root;have uz:=hR.tmp t;rw[ht]at uz;have fA:a.tmps.getD t undef=u0:=by
             have h2:=uz.2;rw[kr]at h2;injection h2 with h2;exact h2.symm
            have alE:u0=u i j:=by
             have h3:cJ w aj ρ [j,i,aB tc,q]=some (u i j):=by
              rw[Mi,Bl j i (aB tc) (q:=[q]) (show cJ w aj ρ [q]=some (.slice (some ⟨b,0,none⟩) l.length cap) by simp only[cJ,aO]) hl];show w.cell? _=_;rw[cell_of_row w b _ cs _ _ hh];exact T2 i hi j y hy
             rw[kr]at h3;injection h3
            have gQ:ow u0=true:=by rw[<-fA];exact uz.1
            -- the state that the callee's caller sees
            have G8:∀ k:af Nat,dz k [q,dT]=false->bP q k=false/\bP dT k=false:=by
             intro k hk;unfold dz at hk;unfold bP;split at hk
             next z hz=>rw[hz];have:=aaL hk;simp only[jq,List.not_mem_nil,or_false,not_or]at this;exact⟨by simpa using this.1,by simpa using this.2⟩
             next hz=>rw[hz];exact⟨rfl,rfl⟩
            have hKq:∀ k:af Nat,[j,i,aB tc,q] <:+ k->bP q k=true:=by
             rintro k ⟨p,rfl⟩;simp[bP]
            have zG:sA w w aj (rq aj [j,i,aB tc,q]) ρ (cB ρ dT (.eK u0)) [q,dT] [dT]:=by
             refine⟨gj _,λb' mR eB=>⟨rfl,?_⟩,λn hn=>?_,λb' k eB=>(hR.dF b' k eB).2⟩
             ·cases dH:aj b' with
              |none=>exact MY dH
              | some k=>
               obtain⟨g1,g2⟩:=G8 k (eB k dH);exact TZ dH (λny=>by rw[hKq k ny]at g1;cases g1) g2
             ·refine cV _ _ _ ?_;rintro rfl;simp[cX]at hn
            have eC:∀ b' k,rq aj [j,i,aB tc,q] b'=some k->(∃ k',aj b'=some k')/\k≠[]:=by
             intro b' k eB;cases dH:aj b' with
             |none=>rw[MY dH]at eB;cases eB
             | some k'=>
              refine⟨⟨k',rfl⟩,?_⟩;unfold rq at eB;rw[dH]at eB;simp only at eB;cases h1:List.isSuffixOf [j,i,aB tc,q] k' with
              | true=>
               rw[h1,aq]at eB;injection eB with eB;rw[<-eB];simp
              | false=>
               rw[h1,au]at eB;cases h2:bP dT k' with
               |true=>rw[h2,aq]at eB;cases eB
               | false=>
                rw[h2,au]at eB;injection eB with eB;rw[<-eB];exact(hR.dF b' k' dH).2.2
            have tG:Rl w0 N (rq aj [j,i,aB tc,q]) (cB ρ dT (.eK u0)) (σ.cL [q,dT] [dT] [(dT,.sl y)]) a w:=by
             refine hR.kB zG (kJ.alx hR) (λb' k eB=>?_) (λn hn=>?_) (λn z hz=>?_)
             ·obtain⟨⟨k',dH⟩,El⟩:=eC b' k eB;have:=hR.dF b' k' dH;exact⟨this.1,this.2.1,El⟩
             ·have:n=dT:=by simpa [cX]using hn
              rw[this];exact alC
             ·have hn:n=dT/\z = .sl y:=by
               rw[List.lookup_cons]at hz;cases v5:(n==dT)with
               |false=>rw[v5]at hz;cases hz
               | true=>
                rw[v5]at hz;injection hz with hz;exact⟨by simpa using v5,hz.symm⟩
              obtain⟨rfl,rfl⟩:=hn;exact .sl u0 y (cG _ _ _) (alD.cut [] (.inl rfl))
            have mA:Rl w0 N (rq aj [j,i,aB tc,q]) (cB ρ dT (.eK u0)) mW a w:=by
             rw[<-alz];refine tG.alv ?_;rw[fA];exact⟨gQ,by simp only[cJ,cG]⟩
            refine He a w KK Q _ _ mA λvv w' dI fh tF Hx xA iV xK=>?_
            -- behind the call
            have xE:90000<=jt o.dst:=by unfold jt;split<;>omega
            have alF:tF dT = .eK u0:=by
             rw[xK dT (by unfold dT;omega),xA.ff dT alA,cG]
            have alG:tF q = .eK (.slice (some ⟨b,0,none⟩) l.length cap):=by
             rw[xK q (by omega),xA.ff q alB,cV _ _ _ T1,aO]
            have cZ:=Hx.root dT _ fJ;generalize hx:bg.sl y'=x at cZ;cases cZ with
            |aC=>cases hx
            |mp=>cases hx
            |gh=>cases hx
            | sl v' y'' iH dG=>
             injection hx with hx;subst hx;rw[alF]at iH;injection iH with iH;subst iH;have T3:=Hx.xk;have hrel:Rel dT dI (dI.jh dT [j,i,aB tc,q]):=GQ T3;have aa3:bP dT [q]=false:=by simpa [bP]using λe=>T1 e
             have Ek:rq aj [j,i,aB tc,q] b=some [q]:=TZ hl (λny=>by have:=ny.length_le;simp at this) aa3;have alH:dz [q] ((oN 0 aS).map (·.1))=false:=GV;obtain⟨g1,g2⟩:=xA.same b (xA.aj b _ Ek).1 (λk eB=>by rw[Ek]at eB;injection eB with eB;subst eB;exact alH);have alI:dI b=some [q]:=g2.trans Ek;have alJ:dI.jh dT [j,i,aB tc,q] b=some [q]:=hrel.iz b _ alI aa3;have hR4:=Hx.rel hrel (λb' k eB=>by
              unfold bM.jh at eB;cases dH:dI b' with
              |none=>rw[dH]at eB;cases eB
              | some k'=>
               rw[dH]at eB;injection eB with eB;subst eB;exact⟨⟨k',rfl⟩,aad (by simp) (λe=>T3 b' (by rw[dH,e]))⟩)
             refine hK _ _ ⟨_,tF,hR4.alw (.sl _ _ alG ?_)⟩;have hj:j<aB tc:=by
              have:=(dS.1 hy).1
              rwa [lA]at this
             refine RV.Mk (w':=w') (cs:=cs) (xs:=[y']) (u:=u) (us:=u) alJ (g1.trans hh) hs hn tf hi (show j+1<=aB tc from hj) Hy (λi' uG j' x hx Hz=>⟨T2 i' uG j' x hx,?_⟩) (λn x hx=>?_)
             ·have Bp:=mS i' uG j' x hx;have alK:¬ (i'=i/\j'=j):=λe=>Hz ⟨e.1,by simp;omega⟩
              have aa4:bP dT [j',i',aB tc,q]=false:=by simpa [bP]using λe=>T1 e
              have a1:=Bp.alu (K:=[j,i,aB tc,q]) br (.inl ⟨λp ny=>?_,aa4⟩)
              ·have a2:=a1.kB xA (.inl (by simpa [dz]using GV));exact a2.rel hrel (.inl aa4)
              ·have e1:[j,i,aB tc,q]=[j',i',aB tc,q]:=SU ny ⟨p,rfl⟩ rfl;injection e1 with e1 e2;injection e2 with e2 e3;exact alK ⟨e2.symm,e1.symm⟩
             ·cases n with
              | zero=>
               simp only[List.getElem?_cons_zero,gl]at hx;subst hx;refine⟨T2 i hi j y hy,?_⟩;have:=dG.jh (q:=dT) (nk:=[j,i,aB tc,q]) T3;rw[aac,alE]at this;exact this
              |succ n=>simp at hx
         ·cases hk
        ·cases hk
      ·cases h
     ·cases h
    ·cases h
   ·cases h
  ·cases h
 ·cases h
theorem alL{dst:ak Tmp}{c:pz}{args:af Operand}{k:S->ak X}(hcm:∀ {X:Type} {σ:S} {k:S->ak X} {r:X},qp N σ dst c args k=some r->∃ τ,k τ=some r/\∀ (X:Type) (k:S->ak X),qp N σ dst c args k=k τ)(h:BZ N σ dst c args k=some r):
  ∃τ,k τ=some r/\∀(X:Type) (k:S->ak X),BZ N σ dst c args k=k τ:=by
 unfold BZ at h;split at h
 ·rename_i t rest;split at h
  ·rename_i j i s q ht;split at h
   ·rename_i tc oo qn l hm;split at h
    ·rename_i hs;split at h
     ·rename_i hi;split at h
      ·rename_i y hy;generalize hb:(Nat.ble N 20000&&Nat.ble 20000 q&&Nat.blt q 60000&&MX ((σ.cL [q,dT] [dT] [(dT,.sl y)]).set t (.lf (.own [dT]))) c (.tmp t :: rest) q)=b at h;cases b with
       |false=>cases h
       | true=>
        rw[aq]at h;obtain⟨τ,h1,h2⟩:=hcm h;split at h1
        ·rename_i y' fJ;split at h1
         ·rename_i e Hy;exact⟨_,h1,λX k=>by
           simp only[BZ,ht,hm,hs,if_true,hi,aG,hy];subst hs;rw[hb,aq,h2];simp only[fJ,Hy]⟩
         ·cases h1
        ·cases h1
      ·cases h
     ·cases h
    ·cases h
   ·cases h
  ·cases h
 ·cases h
end
end Go.Proofs.YtecofnkoloihpaaGreat
namespace Go.Proofs.YtecofnkoloihpaaGreat
open Go.RowKit
set_option linter.unusedVariables false
def cR{α:Type}(f:(X:Type)->(α->ak X)->ak X)(y:α):Prop:=∀(X:Type) (k:α->ak X),f X k=k y
section
variable {P:Program} {N:Nat} {σ:S} {X:Type} {r:X} {d:Nat} {m:Nat->ak bg}
theorem uH:∀ (q:af Nat) (k:V->ak X),gR m q k=some r->∃ y,k y=some r/\vL m q y/\cR (λX k=>gR (X:=X) m q k) y
 |[],_,h=>by simp[gR]at h
 | [x],k,h=>by
  simp only[gR]at h;split at h
  next y hy=>exact⟨y,h,.root x y hy,λX k=>by simp only[gR,hy]⟩
  ·cases h
 |[_,_],_,h=>by simp[gR]at h
 | j :: i :: s :: q,k,h=>by
  simp only[gR]at h;obtain⟨y,h2,hg,hd⟩:=uH q _ h;clear h;split at h2
  ·split at h2
   ·rename_i hs;subst hs;split at h2
    ·rename_i hi;split at h2
     ·rename_i z hz;exact⟨z,h2,.elem j i q _ _ _ _ z hg hi hz,λX k=>by
       simp only[gR];exact(hd X _).trans (by simp only[if_true,aG hi,hz])⟩
     ·cases h2
    ·cases h2
   ·cases h2
  ·cases h2
theorem Em{x:Lf}{k:V->ak X}(h:kK σ x k=some r):∃ y,k y=some r/\cR (λX k=>kK (X:=X) σ x k) y:=by
 cases x with
 |v z=>exact⟨z,h,λX k=>rfl⟩
 |own q=>obtain⟨y,h1,_,h2⟩:=uH q k h;exact⟨y,h1,h2⟩
 |dead=>cases h
theorem aa5{q:af Nat}{s i j:Nat}{k:V->ak X}(h:tj σ q s i j k=some r):∃ y,k y=some r/\cR (λX k=>tj (X:=X) σ q s i j k) y:=by
 obtain⟨y,h1,_,h2⟩:=uH q _ h;split at h1
 ·rename_i z hz;exact⟨z,h1,λX k=>by
   simp only[tj];exact(h2 X _).trans (by simp only[hz])⟩
 ·cases h1
theorem T4{x:A}{k:V->ak X}(h:qX σ x k=some r):∃ y,k y=some r/\cR (λX k=>qX (X:=X) σ x k) y:=by
 unfold qX at h;split at h
 ·exact Em h
 ·exact aa5 h
 ·cases h
theorem T5{x:A}{k:V->ak X}(h:vK x k=some r):∃ y,k y=some r/\cR (λX k=>vK (X:=X) x k) y:=by
 obtain⟨y,rfl,h⟩:=Ml h;exact⟨y,h,λX k=>rfl⟩
theorem alM{ty:TypeId}{op:BinOp}{x y:V}{k:V->ak X}(h:oA P ty op x y k=some r):∃ z,k z=some r/\cR (λX k=>oA (X:=X) P ty op x y k) z:=by
 unfold oA at h;split at h
 ·rename_i kx a ky b;split at h
  ·split at h
   ·cases h
   next hb=>exact⟨_,h,λX k=>by simp only[oA,cm hb]⟩
  ·split at h
   ·cases h
   next hb=>exact⟨_,h,λX k=>by simp only[oA,cm hb]⟩
  ·rename_i h1 h2;split at h
   ·rename_i hk;subst hk;cases op
    case shl=>exact absurd rfl h1
    case shr=>exact absurd rfl h2
    case quo=>
     by_cases hb:b=0
     ·simp only[hb,if_true]at h;cases h
     ·simp only[hb,if_false]at h;exact⟨_,h,λX k=>by simp only[oA,if_true,cm hb]⟩
    case rem=>
     by_cases hb:b=0
     ·simp only[hb,if_true]at h;cases h
     ·simp only[hb,if_false]at h;exact⟨_,h,λX k=>by simp only[oA,if_true,cm hb]⟩
    all_goals first
     |(refine⟨_,h,λX k=>?_⟩;simp only[oA,if_true];done)
     |cases h
   ·cases h
 ·split at h
  ·rename_i GL;split at h
   ·exact⟨_,h,λX k=>by simp only[oA,GL]⟩
   ·exact⟨_,h,λX k=>by simp only[oA,GL]⟩
   ·cases h
  ·cases h
 ·rename_i a b;split at h
  ·cases hL:bH (a.size+b.size)with
   |false=>rw[hL]at h;cases h
   |true=>rw[hL]at h;exact⟨_,h,λX k=>by simp only[oA,hL,aq]⟩
  ·exact⟨_,h,λX k=>by simp only[oA]⟩
  ·exact⟨_,h,λX k=>by simp only[oA]⟩
  ·cases h
 ·cases h
theorem alN{op:BinOp}{t:TypeId}{x y:A}{k:A->ak X}(h:nX P σ op t x y k=some r):∃ z,k z=some r/\cR (λX k=>nX (X:=X) P σ op t x y k) z:=by
 unfold nX at h;split at h
 ·rename_i ng cs ds iB;split at h
  ·rename_i xs ys gV oC;generalize hg:(P.eqGuardType P.depth t || !isStr P t)=g at h;cases g with
   |true=>cases h
   | false=>
    rw[au]at h;split at h
    next b hb=>exact⟨_,h,λX k=>by simp only[nX,iB,gV,oC,hg,au,hb]⟩
    ·cases h
  ·cases h
 ·rename_i ng l iB;split at h
  ·rename_i e he;obtain⟨z,h2,hd⟩:=Em h;clear h;split at h2
   ·exact⟨_,h2,λX k=>by
     simp only[nX,iB,he];exact hd X _⟩
   ·exact⟨_,h2,λX k=>by
     simp only[nX,iB,he];exact hd X _⟩
   ·rename_i t' o' l';cases hl:ku l' with
    |true=>rw[hl]at h2;cases h2
    | false=>
     rw[hl,au]at h2;exact⟨_,h2,λX k=>by
      simp only[nX,iB,he];exact(hd X _).trans (by simp only[hl,au])⟩
   ·cases h2
  ·cases h
 ·rename_i x' y' _ _ _ h1 sx;obtain⟨u0,k1,BB⟩:=T5 h;obtain⟨v0,k2,kS⟩:=T5 k1;obtain⟨z,k3,En⟩:=alM k2
  refine⟨_,k3,λX k=>?_⟩
  have e1:nX P σ op t x' y' k=vK x' λa=>vK y' λb=>oA P t op a b λz=>k (.lf (.v z)):=by
   unfold nX;split
   next ng cs ds iB=>exact(h1 ng cs ds iB rfl rfl).elim
   next ng l iB=>exact(sx ng l iB rfl rfl).elim
   ·rfl
  exact e1.trans ((BB _ _).trans ((kS _ _).trans (En _ _)))
theorem alO{op:UnOp}{x:V}{k:V->ak X}(h:D7 op x k=some r):∃ z,k z=some r/\cR (λX k=>D7 (X:=X) op x k) z:=by
 unfold D7 at h;split at h
 ·exact⟨_,h,λX k=>rfl⟩
 ·exact⟨_,h,λX k=>rfl⟩
 ·cases h
theorem B0{t:TypeId}{cs:af Lf}{k:A->ak X}(h:p7 P t cs k=some r):∃ y,k y=some r/\cR (λX k=>p7 (X:=X) P t cs k) y:=by
 unfold p7 at h;split at h
 ·rename_i n hn;split at h
  ·rename_i hl;split at h
   next hr=>exact⟨_,h,λX k=>by simp only[p7,hn,bB hl,hr]⟩
   ·rename_i hr;split at h
    ·exact⟨_,h,λX k=>by simp only[p7,hn,bB hl,hr]⟩
    ·cases h
   ·cases h
  ·cases h
 ·cases h
theorem M0{t:TypeId}{x:A}{k:A->ak X}(h:mq P σ t x k=some r):∃ y,k y=some r/\cR (λX k=>mq (X:=X) P σ t x k) y:=by
 unfold mq at h;split at h
 ·cases h
 ·rename_i n hn;split at h
  ·split at h
   next cs eR=>obtain⟨y,h1,h2⟩:=B0 h;exact⟨y,h1,λX k=>by simp only[mq,hn,eR];exact h2 X k⟩
   ·cases h
  ·obtain⟨y,h1,h2⟩:=B0 h;exact⟨y,h1,λX k=>by simp only[mq,hn];exact h2 X k⟩
  ·rename_i j i s q;obtain⟨z,h2,_,hd⟩:=uH _ _ h;clear h;split at h2
   ·split at h2
    ·rename_i hs;split at h2
     ·rename_i hi;obtain⟨y,h3,h4⟩:=B0 h2;exact⟨y,h3,λX k=>by
       simp only[mq,hn];exact(hd X _).trans (by simp only[bB hs,aG hi];exact h4 X k)⟩
     ·cases h2
    ·cases h2
   ·cases h2
  ·cases h
theorem alP{s:TypeId}{x:A}{f:Nat}{k:A->ak X}(h:vM P s x f k=some r):∃ y,k y=some r/\cR (λX k=>vM (X:=X) P s x f k) y:=by
 unfold vM at h;split at h
 ·cases h
 ·rename_i fd qa;split at h
  ·rename_i n hn;split at h
   ·exact⟨_,h,λX k=>by simp only[vM,qa,hn]⟩
   ·exact⟨_,h,λX k=>by simp only[vM,qa,hn]⟩
   ·exact⟨_,h,λX k=>by simp only[vM,qa,hn]⟩
   ·cases h
  ·cases h
theorem alQ{t:TypeId}{x i:A}{k:A->ak X}(h:qZ P σ t x i k=some r):∃ y,k y=some r/\cR (λX k=>qZ (X:=X) P σ t x i k) y:=by
 unfold qZ at h;split at h
 ·cases h
 ·rename_i e he;split at h
  ·rename_i n kk iv hn;split at h
   ·rename_i t' g qn l;split at h
    ·rename_i nO;cases hg:Nat.blt g 2 with
     |false=>rw[hg]at h;cases h
     | true=>
      rw[hg,aq]at h;split at h
      next hb=>exact⟨_,h,λX k=>by simp only[qZ,he,hn,bB nO,hg,aq,aG hb]⟩
      ·cases h
    ·cases h
   ·rename_i q;obtain⟨z,h2,_,hd⟩:=uH _ _ h;clear h;split at h2
    ·split at h2
     ·rename_i nO;split at h2
      ·rename_i hb;rename_i t' g qn l _;cases vO:Nat.blt g 2 with
       | true=>
        rw[vO,aq]at h2;exact⟨_,h2,λX k=>by
         simp only[qZ,he,hn];exact(hd X _).trans (by simp only[bB nO,aG hb,vO,aq])⟩
       | false=>
        rw[vO,au]at h2;exact⟨_,h2,λX k=>by
         simp only[qZ,he,hn];exact(hd X _).trans (by simp only[bB nO,aG hb,vO,au])⟩
      ·cases h2
     ·cases h2
    ·cases h2
   ·cases h
  ·cases h
theorem alR{t:TypeId}{x:A}{k:A->ak X}(h:p9 P σ t x k=some r):∃ y,k y=some r/\cR (λX k=>p9 (X:=X) P σ t x k) y:=by
 unfold p9 at h;split at h
 ·obtain⟨z,h2,hd⟩:=Em h;clear h;split at h2
  ·split at h2
   next he=>exact⟨_,h2,λX k=>by simp only[p9];exact(hd X _).trans (by simp only[he])⟩
   ·cases h2
  ·split at h2
   next he=>exact⟨_,h2,λX k=>by simp only[p9];exact(hd X _).trans (by simp only[he])⟩
   ·cases h2
  ·split at h2
   next he=>exact⟨_,h2,λX k=>by simp only[p9];exact(hd X _).trans (by simp only[he])⟩
   ·cases h2
  ·cases h2
 ·split at h
  next he=>exact⟨_,h,λX k=>by simp only[p9,he]⟩
  ·cases h
 ·cases h
theorem alS{x:A}{i:Nat}{k:A->ak X}(h:xg x i k=some r):∃ y,k y=some r/\cR (λX k=>xg (X:=X) x i k) y:=by
 unfold xg at h;split at h
 ·split at h
  next y hy=>exact⟨y,h,λX k=>by simp only[xg,hy]⟩
  ·cases h
 ·cases h
theorem alT{t:TypeId}{parts:af (Nat×Operand)}{k:A->ak X}(h:vS P σ t parts k=some r):∃ y,k y=some r/\cR (λX k=>vS (X:=X) P σ t parts k) y:=by
 unfold vS at h;split at h
 ·rename_i z pl hz iP;split at h
  next cs eR=>exact⟨_,h,λX k=>by simp only[vS,hz,iP,eR]⟩
  ·cases h
 ·cases h
theorem alU{s:TypeId}{x:A}{f:Nat}{k:A->ak X}(h:zB P s x f k=some r):∃ y,k y=some r/\cR (λX k=>zB (X:=X) P s x f k) y:=by
 unfold zB at h;split at h
 ·rename_i fd cs qa;split at h
  ·rename_i n hn hr;split at h
   next hle=>exact⟨_,h,λX k=>by simp only[zB,qa,hn,hr,bB hle]⟩
   ·cases h
  ·rename_i n hn hr;split at h
   next y hy=>exact⟨_,h,λX k=>by simp only[zB,qa,hn,hr,hy]⟩
   ·cases h
  ·cases h
 ·cases h
theorem aa6{mx:Bool}{x y:A}{k:A->ak X}(h:Bz mx x y k=some r):∃ z,k z=some r/\cR (λX k=>Bz (X:=X) mx x y k) z:=by
 unfold Bz at h;split at h
 ·exact⟨_,h,λX k=>rfl⟩
 ·cases h
theorem alV{t:TypeId}{x i:A}{k:A->ak X}(h:BA P t x i k=some r):∃ z,k z=some r/\cR (λX k=>BA (X:=X) P t x i k) z:=by
 unfold BA at h;split at h
 ·split at h
  ·rename_i hu;split at h
   next hb=>exact⟨_,h,λX k=>by simp only[BA,hu,aG hb]⟩
   ·cases h
  ·cases h
 ·cases h
theorem alW{src dst:TypeId}{z:V}{k:A->ak X}(h:xy P src dst z k=some r):∃ y,k y=some r/\cR (λX k=>xy (X:=X) P src dst z k) y:=by
 unfold xy at h;split at h
 ·cases ht:zD P src dst with
  |false=>rw[ht]at h;cases h
  |true=>rw[ht,aq]at h;exact⟨_,h,λX k=>by simp only[xy,ht,aq]⟩
 ·cases ht:zD P src dst with
  |false=>rw[ht]at h;cases h
  |true=>rw[ht,aq]at h;exact⟨_,h,λX k=>by simp only[xy,ht,aq]⟩
 ·cases h
theorem alX{src dst:TypeId}{x:A}{k:A->ak X}(h:qg P σ src dst x k=some r):∃ z,k z=some r/\cR (λX k=>qg (X:=X) P σ src dst x k) z:=by
 unfold qg at h;split at h
 ·split at h
  next d1 kd h1 h2=>exact⟨_,h,λX k=>by simp only[qg,h1,h2]⟩
  ·cases h
 ·rename_i y hy;obtain⟨z,h2,hd⟩:=Em h;obtain⟨y',h3,kS⟩:=alW h2
  refine⟨_,h3,λX k=>?_⟩
  have:qg P σ src dst (.lf y) k=kK σ y λz=>xy P src dst z k:=by
   unfold qg;split
   next n e=>injection e with e;exact(hy _ _ e).elim
   next e=>injection e with e;subst e;rfl
   next h' =>exact absurd rfl (h' _)
  show qg P σ src dst (.lf y) k=k y';rw[this];exact(hd X _).trans (kS X k)
 ·cases h
end
end Go.Proofs.YtecofnkoloihpaaGreat
namespace Go.Proofs.YtecofnkoloihpaaGreat
open Go.RowKit
set_option linter.unusedVariables false
section
variable {P:Program} {N:Nat} {σ:S} {X:Type} {r:X} {d:Nat} {m:Nat->ak bg} {o:Oper}
theorem cR.at_{α:Type}{f:(X:Type)->(α->ak X)->ak X}{y:α}(h:cR f y){X:Type}(k:α->ak X):f X k=k y:=h X k
theorem zZ{x:bg}{y:A}{k:S->ak X}(h:jF N σ d x y k=some r):k (((σ.drop d).root d x).set d y)=some r/\cR (λX k=>jF (X:=X) N σ d x y k) (((σ.drop d).root d x).set d y):=by
 unfold jF at h;cases hN:Nat.blt d N with
 |false=>rw[hN]at h;cases h
 |true=>rw[hN]at h;exact⟨h,λX k=>by simp only[jF,hN,aq]⟩
theorem aa7{e:TypeId}{k:S->ak X}(h:tw P N σ d e k=some r):∃ x y,k (((σ.drop d).root d x).set d y)=some r/\y = .aK d 0/\(∀ (aA:S),cR (λX k=>tw (X:=X) P N aA d e k) (((aA.drop d).root d x).set d y)):=by
 unfold tw at h;split at h
 ·rename_i z hz;obtain⟨h1,_⟩:=zZ h
  refine⟨_,_,h1,rfl,λaA X k=>?_⟩
  obtain⟨hN,_⟩:=q6 h;have hb:Nat.blt d N=true:=mJ hN;simp only[tw,hz,jF,hb,aq]
 ·cases h
theorem T6{t:TypeId}{l c:A}{k:S->ak X}(h:Bq P N σ d t l c k=some r):∃ y,k (((σ.drop d).root d (.sl y)).set d (.lf (.own [d])))=some r/\(∀ (aA:S),cR (λX k=>Bq (X:=X) P N aA d t l c k) (((aA.drop d).root d (.sl y)).set d (.lf (.own [d])))):=by
 unfold Bq at h;split at h
 ·rename_i e tc kl n kc c gE;split at h
  ·cases h
  ·rename_i z hz;split at h
   ·rename_i hb;obtain⟨h1,_⟩:=zZ h
    refine⟨_,h1,λaA X k=>?_⟩
    obtain⟨hN,_⟩:=q6 h;have ga:Nat.blt d N=true:=mJ hN;simp only[Bq,gE,hz,bB hb,jF,ga,aq]
   ·cases h
 ·cases h
theorem T7{t:TypeId}{len:Nat}{parts:af (Nat×Operand)}{k:S->ak X}(h:By P N σ d t len parts k=some r):∃ y,k (((σ.drop d).root d (.sl y)).set d (.lf (.own [d])))=some r/\
  (∀(aA:S),(∀p∈parts,aH aA p.2=aH σ p.2)->cR (λX k=>By (X:=X) P N aA d t len parts k) (((aA.drop d).root d (.sl y)).set d (.lf (.own [d])))):=by
 unfold By at h;split at h
 ·rename_i e tc gE;split at h
  ·rename_i z hz;cases hc:(Nat.beq (full tc) 0&&Nat.beq z.cells.size (aB tc)&&Nat.blt (len*aB tc) 16777217)with
   |false=>rw[hc]at h;cases h
   | true=>
    rw[hc,aq]at h;split at h
    ·rename_i cs eR;split at h
     ·rename_i vs gW;split at h
      ·rename_i l hl;obtain⟨h1,_⟩:=zZ h
       refine⟨_,h1,λaA HA X k=>?_⟩
       obtain⟨hN,_⟩:=q6 h;have ga:Nat.blt d N=true:=mJ hN;have e:(parts.map λp=>(p.1,aH aA p.2))=parts.map λp=>(p.1,aH σ p.2):=mK λp hp=>by rw[HA p hp]
       simp only[By,gE,hz,hc,aq,e,eR,gW,hl,jF,ga]
      ·cases h
     ·cases h
    ·cases h
  ·cases h
 ·cases h
theorem aa8{t:TypeId}{q:af Nat}{dh:ak Nat}{lo hi:ak A}{k:A->ak X}(h:rj P σ t q dh lo hi k=some r):∃ y,k y=some r/\cR (λX k=>rj (X:=X) P σ t q dh lo hi k) y:=by
 unfold rj at h;split at h
 ·rename_i e he;split at h
  ·rename_i n hn;obtain⟨y,h1,_,hd⟩:=uH q _ h;obtain⟨tc,g,qn,xs,l,m,rfl,nO,e1,e2,b1,b2,b3,h3,hf⟩:=aaz h1
   refine⟨_,h3,λX k=>?_⟩
   simp only[rj,he,hn];exact(hd X _).trans (hf X k)
  ·cases h
 ·cases h
theorem alY{t:TypeId}{x:A}{lo hi:ak A}{k:A->ak X}(h:tA P σ t x lo hi k=some r):∃ y,k y=some r/\cR (λX k=>tA (X:=X) P σ t x lo hi k) y:=by
 unfold tA at h;split at h
 ·exact aa8 h
 ·exact aa8 h
 ·rename_i hx;obtain⟨y,h1,hd,_⟩:=aay h
  refine⟨y,h1,λX k=>?_⟩
  simp only[tA];exact hd X k
theorem alZ{t:TypeId}{x y:A}{k:S->ak X}(h:q5 P N σ d t x y k=some r):∃ τ,k τ=some r/\cR (λX k=>q5 (X:=X) P N σ d t x y k) τ:=by
 unfold q5 at h;split at h
 ·rename_i e tc gE;cases hc:(Nat.beq (full tc) 0&&(zeroOf P e).any (λz=>Nat.beq z.cells.size (aB tc)))with
  |false=>rw[hc]at h;cases h
  | true=>
   rw[hc,aq]at h;obtain⟨yv,h2,hd⟩:=T4 h;clear h;split at h2
   ·cases h2
   ·rename_i l2 iA;split at h2
    ·cases hL:bH l2.length with
     |false=>rw[hL]at h2;cases h2
     | true=>
      rw[hL,aq]at h2;obtain⟨h3,h4⟩:=zZ h2;exact⟨_,h3,λX k=>by
       simp only[q5,gE,hc,aq];exact(hd.at_ _).trans (by simp only[iA,hL,aq];exact h4 X k)⟩
    ·rename_i rr;split at h2
     ·rename_i t' o q l hm;split at h2
      ·rename_i gw;cases hL:(Nat.blt d N&&(Nat.blt rr N || Nat.ble 60000 rr)&&bH (l.length+l2.length))with
       |false=>rw[hL]at h2;cases h2
       | true=>
        rw[hL,aq]at h2;exact⟨_,h2,λX k=>by
         simp only[q5,gE,hc,aq];exact(hd.at_ _).trans (by simp only[iA,hm,aG gw,hL,aq])⟩
      ·cases h2
     ·cases h2
    ·cases h2
 ·cases h
theorem aa9:∀ (q:af Nat) (y:V) (k:(Nat->ak bg)->ak X),p8 m q y k=some r->∃ m',k m'=some r/\cR (λX k=>p8 (X:=X) m q y k) m'
 |[],_,_,h=>by simp[p8]at h
 | [x],y,k,h=>by
  simp only[p8]at h;split at h
  next y0 hy=>exact⟨_,h,λX k=>by simp only[p8,hy]⟩
  ·cases h
 |[_,_],_,_,h=>by simp[p8]at h
 | j :: i :: s :: q,y,k,h=>by
  simp only[p8]at h;obtain⟨z,h2,_,hd⟩:=uH q _ h;clear h;split at h2
  ·split at h2
   ·rename_i hs;split at h2
    ·rename_i hi;split at h2
     ·rename_i hj;split at h2
      ·rename_i e he;obtain⟨m',h3,h4⟩:=aa9 q _ k h2;exact⟨m',h3,λX k=>by
        simp only[p8];exact(hd.at_ _).trans (by simp only[bB hs,aG hi,bB hj,he];exact h4 X k)⟩
      ·cases h2
     ·cases h2
    ·cases h2
   ·cases h2
  ·cases h2
theorem aba{t:TypeId}{x y:A}{k:S->ak X}(h:oB P σ t x y k=some r):∃ τ,k τ=some r/\cR (λX k=>oB (X:=X) P σ t x y k) τ:=by
 unfold oB at h;split at h
 ·rename_i n xs hn gV;split at h
  ·rename_i hlen;split at h
   ·rename_i r' j;split at h
    ·rename_i cs eR;split at h
     ·rename_i hj;cases hl:xs.all Lf.live with
      |false=>rw[hl]at h;cases h
      |true=>rw[hl]at h;exact⟨_,h,λX k=>by simp only[oB,hn,gV,bB hlen,eR,bB hj,hl,aq]⟩
     ·cases h
    ·cases h
   ·rename_i j i s q;split at h
    ·cases h
    ·rename_i vs gW;obtain⟨y0,h2,hg0,hd⟩:=uH _ _ h;clear h;split at h2
     ·rename_i t' o' qn l;split at h2
      ·rename_i hs;split at h2
       ·rename_i hi;split at h2
        ·rename_i hj;cases hold:(((enc t' o' l[i]).drop j).take vs.length).all V.plain with
         |false=>rw[hold]at h2;cases h2
         | true=>
          rw[hold,aq]at h2;split at h2
          ·rename_i e he;obtain⟨m',h3,h4⟩:=aa9 q _ _ h2;exact⟨_,h3,λX k=>by
            simp only[oB,hn,gV,bB hlen,gW];exact(hd.at_ _).trans (by simp only[bB hs,aG hi,bB hj,hold,aq,he];exact h4.at_ _)⟩
          ·cases h2
        ·cases h2
       ·cases h2
      ·cases h2
     ·cases h2
   ·cases h
  ·cases h
 ·cases h
theorem HB:∀ (xs:af Lf) (k:af V->ak X),oF σ xs k=some r->∃ vs,k vs=some r/\cR (λX k=>oF (X:=X) σ xs k) vs
 |[],k,h=>⟨[],h,λX k=>rfl⟩
 | x :: xs,k,h=>by
  unfold oF at h;obtain⟨y,h2,hd⟩:=Em h;obtain⟨ys,h3,kS⟩:=HB xs _ h2;exact⟨_,h3,λX k=>by
   simp only[oF];exact(hd.at_ _).trans (kS.at_ _)⟩
theorem abb{x:A}{k:Pt->ak X}(h:nZ σ x k=some r):∃ p,k p=some r/\cR (λX k=>nZ (X:=X) σ x k) p:=by
 unfold nZ at h;split at h
 ·obtain⟨vs,h2,hd⟩:=HB _ _ h;exact⟨_,h2,λX k=>by simp only[nZ];exact hd.at_ _⟩
 ·obtain⟨vs,h2,hd⟩:=HB _ _ h;exact⟨_,h2,λX k=>by simp only[nZ];exact hd.at_ _⟩
 ·obtain⟨y,h2,hd⟩:=aa5 h;exact⟨_,h2,λX k=>by simp only[nZ];exact hd.at_ _⟩
 ·exact⟨_,h,λX k=>rfl⟩
 ·cases h
theorem T8:∀ (xs:af Operand) (k:af Pt->ak X),mz σ xs k=some r->∃ ps,k ps=some r/\cR (λX k=>mz (X:=X) σ xs k) ps
 |[],k,h=>⟨[],h,λX k=>rfl⟩
 | x :: xs,k,h=>by
  unfold mz at h;obtain⟨p,h2,hd⟩:=abb h;obtain⟨ps,h3,kS⟩:=T8 xs _ h2;exact⟨_,h3,λX k=>by
   simp only[mz];exact(hd.at_ _).trans (kS.at_ _)⟩
theorem al0{x:A}{k:Pt->ak X}(h:tC σ x k=some r):∃ p,k p=some r/\cR (λX k=>tC (X:=X) σ x k) p:=by
 unfold tC at h;split at h
 ·exact⟨_,h,λX k=>rfl⟩
 ·exact⟨_,h,λX k=>rfl⟩
 ·split at h
  ·rename_i cs hm;obtain⟨vs,h2,hd⟩:=HB _ _ h;split at h2
   ·exact⟨_,h2,λX k=>by simp only[tC,hm];exact hd.at_ _⟩
   ·cases h2
  ·cases h
 ·split at h
  ·rename_i cs hm;obtain⟨vs,h2,hd⟩:=HB _ _ h;split at h2
   ·exact⟨_,h2,λX k=>by simp only[tC,hm];exact hd.at_ _⟩
   ·cases h2
  ·cases h
 ·rename_i y h1 h2 h3 h4;obtain⟨p,h5,hd⟩:=abb h;exact⟨p,h5,λX k=>by
   unfold tC;split
   ·exact absurd rfl (h1 _ _)
   ·exact absurd rfl (h2 _ _ _)
   ·exact absurd rfl (h3 _ _)
   ·exact absurd rfl (h4 _ _ _)
   ·exact hd.at_ _⟩
theorem T9:∀ (xs:af Operand) (k:af Pt->ak X),oG σ xs k=some r->∃ ps,k ps=some r/\cR (λX k=>oG (X:=X) σ xs k) ps
 |[],k,h=>⟨[],h,λX k=>rfl⟩
 | x :: xs,k,h=>by
  unfold oG at h;obtain⟨p,h2,hd⟩:=al0 h;obtain⟨ps,h3,kS⟩:=T9 xs _ h2;exact⟨_,h3,λX k=>by
   simp only[oG];exact(hd.at_ _).trans (kS.at_ _)⟩
theorem al1{f:Nat}{c:lD}{args:af Operand}{k:S->ak X}(hc:kz P f c)(h:su N σ d c args k=some r):∃ τ,k τ=some r/\cR (λX k=>su (X:=X) N σ d c args k) τ:=by
 unfold su at h;cases hN:Nat.blt d N with
 |false=>rw[hN]at h;cases h
 | true=>
  rw[hN,aq]at h;obtain⟨ps,h2,hd⟩:=T9 _ _ h;obtain⟨res,h3,kS,_⟩:=hc X ps _ r h2;cases res with
  | one p=>
   simp only at h3;split at h3
   ·rename_i y hy
    refine⟨_,h3,λX k=>?_⟩
    simp only[su,hN,aq];refine(hd.at_ _).trans ((kS X _).trans ?_);simp only[hy]
   ·cases h3
  | cU n5=>
   refine⟨_,h3,λX k=>?_⟩
   simp only[su,hN,aq];exact(hd.at_ _).trans (kS X _)
def qt(d:Nat)(res:ig)(σ:S):ak S:=match res with
 | .one p=>match si (p.1,lP (1000000000100000+1000*d) p.2)with
  |some y=>some ((jG (1000000000100000+1000*d) σ p.2).set d y)
  |none=>none
 |.cU ps=>some ((mT (1000000000100000+1000*d) σ ps).set d (.cU (nB (1000000000100000+1000*d) ps)))
theorem HC{f:Nat}{c:lD}{args:af Operand}{k:S->ak X}(hc:kz P f c)(h:zL N σ d c args k=some r):∃ res τ,qt d res σ=some τ/\k τ=some r/\
  (∀aA gp,(∀(X:Type) (k:af Pt->ak X),mz aA args k=mz σ args k)->qt d res aA=some gp->cR (λX k=>zL (X:=X) N aA d c args k) gp):=by
 unfold zL at h;cases hN:Nat.blt d N with
 |false=>rw[hN]at h;cases h
 | true=>
  rw[hN,aq]at h;obtain⟨ps,h2,hd⟩:=T8 _ _ h;obtain⟨res,h3,kS,_⟩:=hc X ps _ r h2;have step:∀ aA gp,(∀ (X:Type) (k:af Pt->ak X),mz aA args k=mz σ args k)->qt d res aA=some gp->cR (λX k=>zL (X:=X) N aA d c args k) gp:=by
   intro aA gp ha ep X k;simp only[zL,hN,aq];rw[ha];refine(hd.at_ _).trans ((kS X _).trans ?_);unfold qt at ep;cases res with
   | one p=>
    simp only at ep ⊢;split at ep
    next y hy=>injection ep with ep;subst ep;simp only[hy]
    ·cases ep
   | cU n5=>
    injection ep with ep;subst ep;rfl
  cases res with
  | one p=>
   simp only at h3;split at h3
   next y hy=>exact⟨.one p,_,by simp only[qt,hy],h3,step⟩
   ·cases h3
  |cU n5=>exact⟨.cU n5,_,rfl,h3,step⟩
theorem al2{f:Nat}{c:lD}{args:af Operand}{k:S->ak X}(hc:kz P f c)(h:su N σ d c args k=some r):∃ res τ,qt d res σ=some τ/\k τ=some r/\
  (∀aA gp,(∀(X:Type) (k:af Pt->ak X),oG aA args k=oG σ args k)->qt d res aA=some gp->cR (λX k=>su (X:=X) N aA d c args k) gp):=by
 unfold su at h;cases hN:Nat.blt d N with
 |false=>rw[hN]at h;cases h
 | true=>
  rw[hN,aq]at h;obtain⟨ps,h2,hd⟩:=T9 _ _ h;obtain⟨res,h3,kS,_⟩:=hc X ps _ r h2;have step:∀ aA gp,(∀ (X:Type) (k:af Pt->ak X),oG aA args k=oG σ args k)->qt d res aA=some gp->cR (λX k=>su (X:=X) N aA d c args k) gp:=by
   intro aA gp ha ep X k;simp only[su,hN,aq];rw[ha];refine(hd.at_ _).trans ((kS X _).trans ?_);unfold qt at ep;cases res with
   | one p=>
    simp only at ep ⊢;split at ep
    next y hy=>injection ep with ep;subst ep;simp only[hy]
    ·cases ep
   | cU n5=>
    injection ep with ep;subst ep;rfl
  cases res with
  | one p=>
   simp only at h3;split at h3
   next y hy=>exact⟨.one p,_,by simp only[qt,hy],h3,step⟩
   ·cases h3
  |cU n5=>exact⟨.cU n5,_,rfl,h3,step⟩
/-! Keys that do not end in certain names. -/
def gx(p:Nat->Bool)(k:af Nat):Bool:=match k.getLast? with
 |some r=>!p r
 |none=>true
def Lf.nr(p:Nat->Bool):Lf->Bool
 |.own k=>gx p k
 |_=>true
def A.nr(p:Nat->Bool):A->Bool
 |.lf x=>x.nr p
 |.agg cs=>cs.all (Lf.nr p)
 |.cU xs=>xs.all λq=>q.2.all (Lf.nr p)
 |.ptr k=>gx p k
 |.aK r _=>!p r
 |.pk r _=>!p r
 |.view k _ _ _=>gx p k
 |.fn _ cap=>cap.all λq=>!p q.1
 |_=>true
theorem tH{p:Nat->Bool}{k:af Nat}{n:Nat}(h:gx p k=true)(hn:p n=true):bP n k=false:=by
 unfold gx at h;unfold bP;split at h
 ·rename_i r hr;rw[hr];have:r≠n:=by rintro rfl;simp[hn]at h
  simpa using this
 next hr=>rw[hr];rfl
theorem Lf.nD{p:Nat->Bool}{x:Lf}{n:Nat}(h:x.nr p=true)(hn:p n=true):x.drop n=x:=by
 cases x with
 | own k=>
  have e:Lf.drop n (.own k)=(bif bP n k then .dead else .own k):=rfl;rw[e,tH h hn];rfl
 |v x=>rfl
 |dead=>rfl
theorem qu.nD{p:Nat->Bool}{xs:af Lf}{n:Nat}(h:xs.all (Lf.nr p)=true)(hn:p n=true):xs.map (Lf.drop n)=xs:=by
 conv=>rhs;rw[<-List.map_id xs]
 exact mK λx hx=>Lf.nD (dQ.1 h x hx) hn
theorem A.nD{p:Nat->Bool}{x:A}{n:Nat}(h:x.nr p=true)(hn:p n=true):x.drop n=x:=by
 cases x with
 |lf x=>exact bJ A.lf (Lf.nD h hn)
 |agg cs=>exact bJ A.agg (qu.nD h hn)
 | cU xs=>
  refine bJ A.cU ?_
  conv=>rhs;rw[<-List.map_id xs]
  refine mK λq hq=>?_
  have:=qu.nD (dQ.1 h q hq) hn;simp only[id];rw[this]
 | ptr k=>
  have e:A.drop n (.ptr k)=(bif bP n k then .undef else .ptr k):=rfl;rw[e,tH h hn];rfl
 | view k s i j=>
  have e:A.drop n (.view k s i j)=(bif bP n k then .undef else .view k s i j):=rfl;rw[e,tH h hn];rfl
 | pk r j=>
  have e:A.drop n (.pk r j)=(bif Nat.beq r n then .undef else .pk r j):=rfl;have:Nat.beq r n=false:=by
   cases hb:Nat.beq r n with
   |false=>rfl
   | true=>
    obtain rfl:=cr hb;have h:(!p r)=true:=h;rw[hn]at h;cases h
  rw[e,this];rfl
 | aK r j=>
  have e:A.drop n (.aK r j)=(bif Nat.beq r n then .undef else .aK r j):=rfl;have:Nat.beq r n=false:=by
   cases hb:Nat.beq r n with
   |false=>rfl
   | true=>
    obtain rfl:=cr hb;have h:(!p r)=true:=h;rw[hn]at h;cases h
  rw[e,this];rfl
 | fn f cap=>
  have e:A.drop n (.fn f cap)=(bif cap.any (λp=>Nat.beq p.1 n)then .undef else .fn f cap):=rfl;have:cap.any (λp=>Nat.beq p.1 n)=false:=by
   rw[List.any_eq_false];intro q hq hb;obtain hb:=cr hb;have:=dQ.1 h q hq;rw[hb,hn]at this;cases this
  rw[e,this];rfl
 |_=>rfl
theorem S.ext'{σ τ:S}(h1:∀ k,σ.t k=τ.t k)(h2:∀ r,σ.m r=τ.m r):σ=τ:=by
 cases σ;cases τ;simp only[S.mk.injEq];exact⟨funext h1,funext h2⟩
theorem S.set_set{e d:Nat}(h:e≠d)(v u:A):(σ.set d v).set e u=(σ.set e u).set d v:=by
 refine S.ext' (λk=>?_) λ_=>rfl
 show cB (cB σ.t d v) e u k=cB (cB σ.t e u) d v k;by_cases h1:k=e
 ·subst h1;rw[cG,cV _ _ _ h,cG]
 ·by_cases h2:k=d
  ·subst h2;rw[cV _ _ _ h1,cG,cG]
  ·rw[cV _ _ _ h1,cV _ _ _ h2,cV _ _ _ h2,cV _ _ _ h1]
theorem S.drop_set(n:Nat){v:A}(hv:v.drop n=v):(σ.set d v).drop n=(σ.drop n).set d v:=by
 refine S.ext' (λk=>?_) λ_=>rfl
 show (cB σ.t d v k).drop n=cB (λk=>(σ.t k).drop n) d v k;by_cases h:k=d
 ·subst h;rw[cG,cG,hv]
 ·rw[cV _ _ _ h,cV _ _ _ h]
theorem HD(v:A):∀ (xs:af V) (c:Nat) (σ:S),(∀ n,c<=n->v.drop n=v)->jG c (σ.set d v) xs=(jG c σ xs).set d v
 |[],c,σ,h=>rfl
 | x :: xs,c,σ,h=>by
  simp only[jG];cases hf:x.az with
  | true=>
   simp only[aq];exact HD v xs (c+1) σ (λn hn=>h n (by omega))
  | false=>
   simp only[au];rw[S.drop_set c (h c (gj _))];exact HD v xs (c+1) ((σ.drop c).root c (.sl x)) (λn hn=>h n (by omega))
theorem Ua(v:A):∀ (ps:af Pt) (c:Nat) (σ:S),(∀ n,c<=n->v.drop n=v)->mT c (σ.set d v) ps=(mT c σ ps).set d v
 |[],c,σ,h=>rfl
 | p :: ps,c,σ,h=>by
  simp only[mT];rw[HD v p.2 c σ h];exact Ua v ps _ _ (λn hn=>h n (by omega))
end
end Go.Proofs.YtecofnkoloihpaaGreat
namespace Go.Proofs.YtecofnkoloihpaaGreat
open Go.RowKit
set_option linter.unusedVariables false
def B1{X:Type}(N:Nat)(σ:S)(d:Nat)(x:A)(k:S->ak X):ak X:=
 match x.zu with
 |some xs=>bif xs.all Lf.live then jF N σ d (.aC (xs.map (Lf.drop d))) (.aK d 0) k else none
 |none=>none
def M1{X:Type}(x:A)(k:A->ak X):ak X:=
 match x with
 |.aK r j=>k (.aK r j)
 |.ptr q=>k (.ptr q)
 |.je cs=>k (.je cs)
 |_=>none
section
variable {P:Program} {w w':World} {w0:Wd} {B N:Nat} {aj aD:bM} {ρ ρ':Nat->Loc} {σ:S} {a:Act} {X:Type} {d:Nat} {r:X} {o:Oper}
theorem al3{e:TypeId}{x:A}{k:S->ak X}(h:B1 N σ d x k=some r):∃ aA,k aA=some r/\∀ aj ρ a w,Rl w0 N aj ρ σ a w->∀ u,RA w w0.heap.size aj ρ x u->
  ∃w' aD ρ' v,(Instr.box e u).run P w = .ok v w'/\Rl w0 N aD ρ' aA (a.put (some d) v) w':=by
 unfold B1 at h;split at h
 ·rename_i xs gV;cases jg:xs.all Lf.live with
  |false=>rw[jg]at h;cases h
  | true=>
   rw[jg,aq]at h;obtain⟨hd,h⟩:=q6 h
   refine⟨_,h,λaj ρ a w hR u hu=>?_⟩
   obtain⟨hl,_⟩:=GO gV jg hu;have bE:(Instr.box e u).run P w = .ok (.pointer (some ⟨w.heap.size,0,none⟩)) (w.alloc (.cells u.cells e)):=by
    simp[Instr.box,newVar,newRow]
   refine⟨_,cB aj w.heap.size (some [d]),cB ρ d (.aC w.heap.size 0),_,bE,(hR.Ea (hR.ef d (.inl hd)) (λr hr=>cV _ _ _ hr) ?_).set ⟨w.heap.size,0,cG _ _ _,rfl⟩ hd⟩
   have h1:eG (w.alloc (.cells u.cells e)) w0.heap.size (cB aj w.heap.size (some [d])) ρ xs u.cells:=
    hl.iz (by simp) (λb hb=>⟨Below.heap_alloc w _ b hb,cV _ _ _ (by omega)⟩) (λb k hb=>(hR.dF b k hb).2.1)
   have h2:=h1.ff (ρ':=cB ρ d (.aC w.heap.size 0)) (d:=d) (λr hr=>cV _ _ _ hr)
   refine .aC w.heap.size 0 u.cells e _ (λj=>u.cells.getD j undef) (cG _ _ _) (cG _ _ _) (heap_alloc_new w _) (by rw[h2.1];omega) λj y hy=>?_
   obtain⟨v,hv,hr⟩:=h2.2 j y hy;have hg:u.cells.getD j undef=v:=by rw[jn,hv];rfl
   rw[hg,fV];exact⟨hv,hr⟩
 ·cases h
theorem abc{x:A}{k:S->ak X}(h:B1 N σ d x k=some r):∃ y u,k (((σ.drop d).root d y).set d u)=some r/\(∀ (aA:S),cR (λX k=>B1 (X:=X) N aA d x k) (((aA.drop d).root d y).set d u)):=by
 unfold B1 at h;split at h
 ·rename_i xs gV;cases jg:xs.all Lf.live with
  |false=>rw[jg]at h;cases h
  | true=>
   rw[jg,aq]at h;obtain⟨h1,_⟩:=zZ h
   refine⟨_,_,h1,λaA X k=>?_⟩
   obtain⟨hN,_⟩:=q6 h;have hb:Nat.blt d N=true:=mJ hN;simp only[B1,gV,jg,jF,hb,aq]
 ·cases h
theorem abd{x:A}{k:A->ak X}(h:M1 x k=some r):k x=some r/\cR (λX k=>M1 (X:=X) x k) x/\∀ u,RA w B aj ρ x u->∃ ad,u = .pointer (some ad):=by
 unfold M1 at h;split at h
 ·exact⟨h,λX k=>rfl,λu hu=>by obtain⟨b,off,_,rfl⟩:=hu;exact⟨_,rfl⟩⟩
 ·exact⟨h,λX k=>rfl,λu hu=>by obtain⟨ad,rfl,_⟩:=hu;exact⟨_,rfl⟩⟩
 ·exact⟨h,λX k=>rfl,λu hu=>by obtain⟨b,off,rfl,_⟩:=hu;exact⟨_,rfl⟩⟩
 ·cases h
end
end Go.Proofs.YtecofnkoloihpaaGreat
namespace Go.Proofs.YtecofnkoloihpaaGreat
open Go.RowKit
set_option linter.unusedVariables false
def pH(t:TypeId):Bool:=[999999,999999,999999,84,999999,89,999999,999999,999999,999999,999999,999999,999999,999999,999999,999999,999999,999999,999999,999999,999999,999999,999999,999999].any (Nat.beq t)
def Aa{X:Type}(P:Program)(N:Nat)(σ:S)(d:Nat)(t:TypeId)(len:Nat)(parts:af (Nat×Operand))(k:S->ak X):ak X:=
 match vR P t with
 | some (e,tc)=>match zeroOf P e with
  | some z=>bif Nat.beq z.cells.size (aB tc)&&Nat.blt (len*aB tc) 16777217 then (match zA (λi=>some (i*aB tc,aB tc)) (List.replicate len (z.cells.toList.map jE)).flatten (parts.map λp=>(p.1,aH σ p.2))with
   |some cs=>bif Nat.beq len 0 then jF N σ d (.sl (.sl tc (full tc+2) true [])) (.lf (.own [d])) k else jF N σ d (.aC (cs.map (Lf.drop d))) (.pk d len) k
   |none=>none)else none
  |none=>none
 |none=>none
def xL{X:Type}(N:Nat)(σ:S)(d r ry:Nat)(tc:TC)(n:Nat)(k:S->ak X):ak X:=
 match σ.m ry,σ.m r with
 | some (.aC cs),some (.sl (.sl t' (o+2) q l))=>if h:t'=tc then (match ji r (λj=>(j % aB tc) :: (l.length+j / aB tc) :: aB tc :: [r]) cs.length 0 cs σ with
  | some (vs,τ)=>(match GZ tc o n vs with
   |some l2=>bif Nat.blt d N&&bH (l.length+l2.length)then k (((τ.drop r).root r (.sl (.sl tc (o+2) false ((h ▸ l)++l2)))).set d (.lf (.own [r])))else none
   |none=>none)
  |none=>none)else none
 |_,_=>none
def Ab{X:Type}(P:Program)(N:Nat)(σ:S)(d:Nat)(t:TypeId)(x y:A)(k:S->ak X):ak X:=
 match vR P t,y with
 | some (e,tc),.pk ry n=>bif (zeroOf P e).any (λz=>Nat.beq z.cells.size (aB tc))&&(Nat.blt d N&&Nat.blt n zl)then (match x with
  |.lf (.v .nil)=>xL N ((σ.drop d).root d (.sl (.sl tc (full tc+2) false []))) d d ry tc n k
  |.lf (.own [r])=>bif Nat.blt r N ||Nat.ble 60000 r then xL N σ d r ry tc n k else none
  |_=>none)else none
 |_,_=>none
def sE{X:Type}(P:Program)(σ:S)(t:TypeId)(x y:A)(k:S->ak X):ak X:=
 match kM P t,y.zu,x with
 | some n,some xs,.ptr [j,i,s,r]=>if xs.length=n then (bif xs.all Lf.live then (match ji r (λm=>(j+m) :: i :: s :: [r]) xs.length 0 xs σ with
  | some (vs,τ)=>(match τ.m r with
   | some (.sl (.sl t' (o+2) qn l))=>if s=aB t' then (if h:i<l.length then (if j+n<=aB t' then (match dec t' o (splice (enc t' o l[i]) j vs)with
    |some e=>k (τ.cL [r] [] [(r,.sl (.sl t' (o+2) qn (l.set i e)))])
    |none=>none)else none)else none)else none
   |_=>none)
  |none=>none)else none)else none
 |_,_,_=>none
def v7(x y:A):Bool:=match x,y.zu with
 |.ptr _,some xs=>(sg xs).isNone
 |_,_=>false
section
variable {P:Program} {w w':World} {w0:Wd} {B N:Nat} {aj aD:bM} {ρ ρ':Nat->Loc} {σ:S} {a:Act} {X:Type} {d:Nat} {r:X} {o:Oper}
theorem abe{place:Nat->ak (Nat×Nat)}:∀ (parts:af (Nat×A)) (cells out:af Lf),zA place cells parts=some out->out.length=cells.length
 |[],cells,out,h=>by injection h with h;rw[h]
 | (i,x) :: rest,cells,out,h=>by
  unfold zA at h;split at h
  ·rename_i off n xs hp hx;split at h
   ·rename_i hc;cases hl:xs.all Lf.live with
    | true=>
     rw[hl,aq]at h;rw[abe rest _ _ h,ta _ _ _ (by omega)]
    |false=>rw[hl]at h;cases h
   ·cases h
  ·cases h
theorem al4{t:TypeId}{len:Nat}{parts:Array (Nat×Operand)}{k:S->ak X}(h:Aa P N σ d t len parts.toList k=some r):∃ aA,k aA=some r/\∀ aj ρ a w,Rl w0 N aj ρ σ a w->
  ∃w' aD ρ' v,(Instr.buildSlice t len (parts.map λ(i,x)=>(i,a.eval x))).run P w = .ok v w'/\Rl w0 N aD ρ' aA (a.put (some d) v) w':=by
 unfold Aa at h;split at h
 ·rename_i e tc gE;obtain⟨fQ,ht,i,hi,dO,lJ⟩:=zy gE;split at h
  ·rename_i z hz;cases hc:(Nat.beq z.cells.size (aB tc)&&Nat.blt (len*aB tc) 16777217)with
   |false=>rw[hc]at h;cases h
   | true=>
    rw[hc,aq]at h;rw[bx]at hc;have gM:=cr hc.1;have hsm:len*aB tc<16777217:=by have:=cT hc.2;omega
    have qb:i.zero=some z:=by unfold zeroOf at hz;simpa [hi]using hz
    split at h
    ·rename_i cs eR;have key:∀ aj ρ (a:Act) w,Rl w0 N aj ρ σ a w->∃ gS,(Instr.buildSlice t len (parts.map λ(i,x)=>(i,a.eval x))).run P w = .ok (.slice (some ⟨w.heap.size,0,none⟩) len len) (w.alloc (.cells gS e))/\eG w w0.heap.size aj ρ cs gS/\gS.size=cs.length:=λaj ρ a w hR=>by
      have Tl:eG w w0.heap.size aj ρ (List.replicate len (z.cells.toList.map jE)).flatten (madeCells z.cells (len*aB tc)):=by
       have e1:(List.replicate len (z.cells.toList.map jE)).flatten=((List.replicate len z.cells.toList).flatten).map jE:=by
        rw[List.map_flatten,List.map_replicate]
       rw[e1,<-aaq z.cells (aB tc) len gM (p4 tc)]
       refine⟨by simp,λj x hx=>?_⟩
       rw[dP]at hx;cases hv:(madeCells z.cells (len*aB tc)).toList[j]? with
       |none=>rw[hv]at hx;cases hx
       | some v=>
        rw[hv]at hx;injection hx with hx;subst hx;exact⟨v,by simpa using hv,Mt v⟩
      obtain⟨gS,xz,hl⟩:=MA (w:=w) (B:=w0.heap.size) (aj:=aj) (ρ:=ρ) _ _ _ (parts.toList.map λp=>(p.1,a.eval p.2)) cs eR Tl (by simp) (λj p q hp hq=>by
       rw[dP]at hp hq;cases hx:parts.toList[j]? with
       |none=>rw[hx]at hp;cases hp
       | some x=>
        rw[hx]at hp hq;injection hp with hp;injection hq with hq;subst hp hq;exact⟨rfl,hR.aH x.2⟩)
      have bE:(Instr.buildSlice t len (parts.map λ(i,x)=>(i,a.eval x))).run P w = .ok (.slice (some ⟨w.heap.size,0,none⟩) len len) (w.alloc (.cells gS e)):=by
       have G0:(parts.map λ(i,x)=>(i,a.eval x)).toList=parts.toList.map λp=>(p.1,a.eval p.2):=by simp
       by_cases h0:len*aB tc=0
       ·have hm:madeCells z.cells (len*aB tc) = #[]:=by rw[h0];simp[madeCells]
        rw[hm]at xz;have Tn:len*i.size=0:=by rw[dO];exact h0
        rw[<-dO]at xz;have e0:∀f:Nat->Value,Array.map f (Array.range 0) = #[]:=λf=>by simp
        simp only[Instr.buildSlice,gk,jw fQ,oZ,sizeOf,typeInfo];simp[hi,Tn];rw[e0,xz];simp[newRow]
       ·exact run_buildSlice (P:=P) w t e len _ gS i z fQ hi qb (by rw[dO];omega) (by rw[dO];exact h0) (by rw[dO,G0];exact xz)
      exact⟨gS,bE,hl,hl.1⟩
     cases js:Nat.beq len 0 with
     | true=>
      rw[js,aq]at h;have hln:=cr js;subst hln;obtain⟨hd,h⟩:=q6 h
      refine⟨_,h,λaj ρ a w hR=>?_⟩
      obtain⟨gS,bE,hl,hcz⟩:=key aj ρ a w hR;have xE:cs.length=0:=by
       have h1:=abe _ _ _ eR;rw[h1];simp
      refine⟨_,cB aj w.heap.size (some [d]),cB ρ d (.eK (.slice (some ⟨w.heap.size,0,none⟩) 0 0)),_,bE,(hR.Ea (hR.ef d (.inl hd)) (λr hr=>cV _ _ _ hr) (.sl _ _ (cG _ _ _) ?_)).set ⟨rfl,by simp[cJ,cG]⟩ hd⟩
      exact RV.own (w:=w.alloc (.cells gS e)) (B:=w0.heap.size) (aj:=cB aj w.heap.size (some [d])) [d] tc (full tc) true [] w.heap.size 0 gS (λ_ _=>undef)
       (cG _ _ _) (by rw[ht];exact heap_alloc_new w _) (by omega) (gj _) ⟨by unfold maxLen;omega,λ_=>rfl⟩ (λi' h'=>absurd h' (by simp)) (λi' h'=>absurd h' (by simp))
     |false=>
     rw[js,au]at h;obtain⟨hd,h⟩:=q6 h
     refine⟨_,h,λaj ρ a w hR=>?_⟩
     obtain⟨gS,bE,hl,_⟩:=key aj ρ a w hR
     refine⟨_,cB aj w.heap.size (some [d]),cB ρ d (.aC w.heap.size 0),_,bE,(hR.Ea (hR.ef d (.inl hd)) (λr hr=>cV _ _ _ hr) ?_).set ⟨w.heap.size,cG _ _ _,(SP (by have:=Nat.le_mul_of_pos_right len (p4 tc);unfold zl;omega)).symm⟩ hd⟩
     have h1:eG (w.alloc (.cells gS e)) w0.heap.size (cB aj w.heap.size (some [d])) ρ cs gS:=
      hl.iz (by simp) (λb hb=>⟨Below.heap_alloc w _ b hb,cV _ _ _ (by omega)⟩) (λb k hb=>(hR.dF b k hb).2.1)
     have h2:=h1.ff (ρ':=cB ρ d (.aC w.heap.size 0)) (d:=d) (λr hr=>cV _ _ _ hr)
     refine .aC w.heap.size 0 gS e _ (λj=>gS.getD j undef) (cG _ _ _) (cG _ _ _) (heap_alloc_new w _) (by rw[h2.1];omega) λj y hy=>?_
     obtain⟨v,hv,hr⟩:=h2.2 j y hy;have hg:gS.getD j undef=v:=by rw[jn,hv];rfl
     rw[hg,fV];exact⟨hv,hr⟩
    ·cases h
  ·cases h
 ·cases h
theorem abf{t:TypeId}{len:Nat}{parts:af (Nat×Operand)}{k:S->ak X}(h:Aa P N σ d t len parts k=some r):∃ y u,k (((σ.drop d).root d y).set d u)=some r/\
  (∀(aA:S),(∀p∈parts,aH aA p.2=aH σ p.2)->cR (λX k=>Aa (X:=X) P N aA d t len parts k) (((aA.drop d).root d y).set d u)):=by
 unfold Aa at h;split at h
 ·rename_i e tc gE;split at h
  ·rename_i z hz;cases hc:(Nat.beq z.cells.size (aB tc)&&Nat.blt (len*aB tc) 16777217)with
   |false=>rw[hc]at h;cases h
   | true=>
    rw[hc,aq]at h;split at h
    ·rename_i cs eR;cases js:Nat.beq len 0 with
     | true=>
      rw[js,aq]at h;obtain⟨h1,_⟩:=zZ h
      refine⟨_,_,h1,λaA HA X k=>?_⟩
      obtain⟨hN,_⟩:=q6 h;have ga:Nat.blt d N=true:=mJ hN;have e:(parts.map λp=>(p.1,aH aA p.2))=parts.map λp=>(p.1,aH σ p.2):=mK λp hp=>by rw[HA p hp]
      simp only[Aa,gE,hz,hc,aq,e,eR,jF,ga,js]
     | false=>
      rw[js,au]at h;obtain⟨h1,_⟩:=zZ h
      refine⟨_,_,h1,λaA HA X k=>?_⟩
      obtain⟨hN,_⟩:=q6 h;have ga:Nat.blt d N=true:=mJ hN;have e:(parts.map λp=>(p.1,aH aA p.2))=parts.map λp=>(p.1,aH σ p.2):=mK λp hp=>by rw[HA p hp]
      simp only[Aa,gE,hz,hc,aq,e,eR,jF,ga,js,au]
    ·cases h
  ·cases h
 ·cases h
theorem abg{t e ty:TypeId}{tc:TC}{i:TypeInfo}{z:Value}{rr ry n:Nat}{k:S->ak X}(fQ:P.underlying t=some (.slice e))(ht:tid tc=e)(hi:P.info? e=some i)(hz:i.zero=some z)
  (dO:i.size=aB tc) (lJ:i.bytes<=65536) (gM:z.cells.size=aB tc) (h:xL N σ d rr ry tc n k=some r):∃aA,k aA=some r/\∀aj ρ a w,Rl w0 N aj ρ σ a w->w0.F rr=none->∀u v b,ρ rr = .eK u->ρ ry = .aC b 0->v = .slice (some ⟨b,0,none⟩) n n->
  ∃w' aD ρ' z,(Builtin.append_ #[t,t] ty #[u,v]).run P w = .ok z w'/\Rl w0 N aD ρ' aA (a.put (some d) z) w':=by
 unfold xL at h;split at h
 ·rename_i cs t' o q l HE hr;split at h
  ·rename_i gw;subst gw;split at h
   ·rename_i vs τ qv;split at h
    ·rename_i l2 iA;cases hL:(Nat.blt d N&&bH (l.length+l2.length))with
     |false=>rw[hL]at h;cases h
     | true=>
      rw[hL,aq]at h;rw[bx]at hL;have GX:l.length+l2.length<1073741824:=by simpa [bH]using hL.2
      have hd:d<N:=by have:=cT hL.1;omega
      refine⟨_,h,λaj ρ a w hR hF u v b al5 al6 hv=>?_⟩
      subst hv;have hy:=hR.root ry _ HE;generalize he:bg.aC cs=x at hy;cases hy with
      |sl=>cases he
      |mp=>cases he
      |gh=>cases he
      | aC b' off cells e' fy us aO dH hh hs hc=>
       injection he with he;subst he;rw[al6]at aO;injection aO with e1 e2;subst e1 e2;have gv:eG w w0.heap.size aj ρ cs ((List.range cs.length).map us).toArray:=by
        refine⟨by simp,λj x hx=>?_⟩
        have hj:j<cs.length:=(dS.1 hx).1;exact⟨us j,by simp[hj],(hc j x hx).2⟩
       obtain⟨aD,aV,tq,M3,_,mS,fA,_,_⟩:=Mp (w0:=w0) (N:=N) (λj=>by simp[bP]) _ _ _ _ _ _ qv aj ρ a w hR _ gv;obtain⟨MD,al7,jR⟩:=Tj t' o n vs l2 iA;have eC:cs.length=n*aB t':=by rw[<-tq,al7]
       have ko:∀ j,j<cs.length->(us j).oneCell'=true:=by
        intro j hj;have hx:=cu (l:=vs) (i:=j) (by rw[tq];exact hj);obtain⟨u',lO,dG⟩:=M3 j _ hx;have:u'=us j:=by simpa [hj]using lO.symm
        rw[<-this];exact dG.one
       have hbs:b<w.heap.size:=(ia.1 hh).1;have q7:Reads w w.heap.size (aB t') (some ⟨b,0,none⟩) n ((List.range cs.length).map us):=by
        refine⟨by simp[eC],λhn=>⟨b,0,rfl,hbs,λj v hv=>?_⟩⟩
        have hj:j<cs.length:=by have:=(dS.1 hv).1;simpa using this
        have:v=us j:=by simpa [hj]using hv.symm
        subst this;rw[cell_of_row w b _ cells _ _ hh];exact(hc j _ (cu hj)).1
       have ga:ur w w0.heap.size aD rr l.length t' o l2 ((List.range cs.length).map us):=by
        intro i' uG j x hx;have hj:j<aB t':=by have:=(dS.1 hx).1;rwa [lA]at this
        obtain⟨y,hy,hw⟩:=jR i' uG j x hx;obtain⟨u',lO,dG⟩:=M3 _ _ hy;refine⟨u',lO,?_⟩;have e1:(0+(i'*aB t'+j)) % aB t'=j:=by rw[fV,Nat.add_comm,Nat.add_mul_mod_self_right,Nat.mod_eq_of_lt hj]
        have e2:(0+(i'*aB t'+j)) / aB t'=i':=by rw[fV,Nat.add_comm,Nat.add_mul_div_right _ _ (p4 t'),Nat.div_eq_of_lt hj,fV]
        simp only[e1,e2]at dG;exact dG.wk hw
       have HF:=aV.root rr _ (mS _ hr);generalize he:bg.sl (.sl t' (o+2) q l)=x at HF;cases HF with
       |aC=>cases he
       |mp=>cases he
       |gh=>cases he
       | sl uu y iH dG=>
        injection he with he;subst he;rw[al5]at iH;injection iH with iH;subst iH;obtain⟨v',w',dI,bE,mA,gQ⟩:=aV.akN (ty:=ty) (c:=n) hF fQ ht hi hz dO lJ gM dG q7 (λv hv=>by
         obtain⟨j,hj⟩:=List.mem_iff_getElem?.1 hv;have GY:j<cs.length:=by have:=(dS.1 hj).1;simpa using this
         have:v=us j:=by simpa [GY]using hj.symm
         rw[this];exact ko j GY) MD.symm ga GX
        exact⟨w',dI,_,v',bE,mA.set ⟨gQ,by simp[cJ,cG]⟩ hd⟩
    ·cases h
   ·cases h
  ·cases h
 ·cases h
theorem abh{rr ry n:Nat}{tc:TC}{k:S->ak X}(h:xL N σ d rr ry tc n k=some r):∃ τ,k τ=some r/\cR (λX k=>xL (X:=X) N σ d rr ry tc n k) τ:=by
 unfold xL at h;split at h
 ·rename_i cs t' o q l HE hr;split at h
  ·rename_i gw;split at h
   ·rename_i vs τ qv;split at h
    ·rename_i l2 iA;cases hL:(Nat.blt d N&&bH (l.length+l2.length))with
     |false=>rw[hL]at h;cases h
     | true=>
      rw[hL,aq]at h;exact⟨_,h,λX k=>by simp only[xL,HE,hr,aG gw,qv,iA,hL,aq]⟩
    ·cases h
   ·cases h
  ·cases h
 ·cases h
theorem al8{t ty:TypeId}{x y:A}{k:S->ak X}(h:Ab P N σ d t x y k=some r):∃ aA,k aA=some r/\∀ aj ρ a w,Rl w0 N aj ρ σ a w->∀ u v,RA w w0.heap.size aj ρ x u->RA w w0.heap.size aj ρ y v->
  ∃w' aD ρ' z,(Builtin.append_ #[t,t] ty #[u,v]).run P w = .ok z w'/\Rl w0 N aD ρ' aA (a.put (some d) z) w':=by
 unfold Ab at h;split at h
 ·rename_i e tc ry n gE;obtain⟨fQ,ht,i,hi,dO,lJ⟩:=zy gE;cases hc:((zeroOf P e).any (λz=>Nat.beq z.cells.size (aB tc))&&(Nat.blt d N&&Nat.blt n zl))with
  |false=>rw[hc]at h;cases h
  | true=>
   rw[hc,aq]at h;rw[bx]at hc;obtain⟨z,hz,gM⟩:=(Option.any_eq_true _ _).1 hc.1;have gM:=cr gM;have qb:i.zero=some z:=by unfold zeroOf at hz;simpa [hi]using hz
   have oy:=hc.2;rw[bx]at oy;have hd:d<N:=by have:=cT oy.1;omega
   have eS:n<zl:=by have:=cT oy.2;omega
   split at h
   ·obtain⟨aA,h2,hs⟩:=abg (w0:=w0) (ty:=ty) fQ ht hi qb dO lJ gM h
    refine⟨aA,h2,λaj ρ a w hR u v hu hv=>?_⟩
    have hu:u = .slice none 0 0:=by cases hu.2;rfl
    subst hu;obtain⟨b,hb,rfl⟩:=hv;have HE:ry≠d:=by
     rintro rfl;unfold xL at h;split at h
     next h1 h2=>have:(cB (σ.drop ry).m ry (some (bg.sl (.sl tc (full tc+2) false [])))) ry=_:=h1;rw[cG]at this;cases this
     ·cases h
    have hR0:=hR.new (d:=d) (x:=.sl (.sl tc (full tc+2) false [])) (.eK (.slice none 0 0)) (.sl _ _ (cG _ _ _) (.c9 _ _ _)) (hR.ef d (.inl hd));exact hs _ _ a w hR0 (hR.ef d (.inl hd)) _ _ b (cG _ _ _) ((cV _ _ _ HE).trans hb) (SP eS)
   ·rename_i rr;cases hL:(Nat.blt rr N || Nat.ble 60000 rr)with
    |false=>rw[hL]at h;cases h
    | true=>
     rw[hL,aq]at h;rw[fE]at hL;have mS:rr<N\/60000<=rr:=hL.imp (λh=>by have:=cT h;omega) (λh=>cT h);obtain⟨aA,h2,hs⟩:=abg (w0:=w0) (ty:=ty) fQ ht hi qb dO lJ gM h
     refine⟨aA,h2,λaj ρ a w hR u v hu hv=>?_⟩
     obtain⟨b,hb,rfl⟩:=hv;have aO:ρ rr = .eK u:=by
      have h4:=hu.2;simp only[cJ]at h4;cases hl:ρ rr with
      |aC b o=>rw[hl]at h4;cases h4
      |cq us=>rw[hl]at h4;cases h4
      |eK v=>rw[hl]at h4;injection h4 with h4;rw[h4]
     exact hs aj ρ a w hR (hR.ef rr mS) _ _ b aO hb (SP eS)
   ·cases h
 ·cases h
theorem al9{t:TypeId}{x y:A}{k:S->ak X}(h:Ab P N σ d t x y k=some r):∃ τ,k τ=some r/\cR (λX k=>Ab (X:=X) P N σ d t x y k) τ:=by
 unfold Ab at h;split at h
 ·rename_i e tc ry n gE;cases hc:((zeroOf P e).any (λz=>Nat.beq z.cells.size (aB tc))&&(Nat.blt d N&&Nat.blt n zl))with
  |false=>rw[hc]at h;cases h
  | true=>
   rw[hc,aq]at h;split at h
   ·obtain⟨τ,h1,h2⟩:=abh h;exact⟨τ,h1,λX k=>by simp only[Ab,gE,hc,aq];exact h2 X k⟩
   ·rename_i rr;cases hL:(Nat.blt rr N || Nat.ble 60000 rr)with
    |false=>rw[hL]at h;cases h
    | true=>
     rw[hL,aq]at h;obtain⟨τ,h1,h2⟩:=abh h;exact⟨τ,h1,λX k=>by simp only[Ab,gE,hc,hL,aq];exact h2 X k⟩
   ·cases h
 ·cases h
theorem ama{t:TypeId}{x y:A}{k:S->ak X}(h:sE P σ t x y k=some r):∃ aA,k aA=some r/\∀ aj ρ a w,Rl w0 N aj ρ σ a w->∀ u v,RA w w0.heap.size aj ρ x u->RA w w0.heap.size aj ρ y v->
  ∃w' aD,(Instr.storeAt t u v).run P w = .ok () w'/\Rl w0 N aD ρ aA a w':=by
 unfold sE at h;split at h
 ·rename_i n xs j i s rr hn gV;split at h
  ·rename_i hlen;cases jg:xs.all Lf.live with
   |false=>rw[jg]at h;cases h
   | true=>
    rw[jg,aq]at h;split at h
    ·rename_i vs τ qv;split at h
     ·rename_i t' o' qn l ep;split at h
      ·rename_i ny;split at h
       ·rename_i hi;split at h
        ·rename_i hj;split at h
         ·rename_i e he
          refine⟨_,h,λaj ρ a w hR u v hu hv=>?_⟩
          obtain⟨ad,rfl,jC⟩:=hu;obtain⟨hl,ko⟩:=GO gV jg hv;have gv:eG w w0.heap.size aj ρ xs v.cells.toList.toArray:=by simpa using hl
          obtain⟨aD,aV,tq,M3,_,mS,fA,aA7,_⟩:=Mp (w0:=w0) (N:=N) (λm=>by simp[bP]) _ _ _ _ _ _ qv aj ρ a w hR _ gv;simp only[addrAt]at jC;split at jC
          ·rename_i b n0 c0 aO;split at jC
           ·rename_i dH;injection jC with jC;subst jC;have HF:=aV.root rr _ ep;generalize hx:bg.sl (.sl t' (o'+2) qn l)=x at HF;cases HF with
            |aC=>cases hx
            |mp=>cases hx
            |gh=>cases hx
            | sl uu y iH dG=>
             injection hx with hx;subst hx;rw[aO]at iH;injection iH with iH;subst iH;cases dG with
             |az _ _ _ _ _ _ _ _ _ ho=>omega
             |dm=>simp at hi
             |dD=>simp at hi
             | own _ _ _ _ _ _ cap cs us M4 hh hs p6 hm hc hr=>
              subst ny;have Ub:v.cells.size=n:=by rw[hl.1,hlen]
              have rZ:i*aB t'+aB t'<=c0*aB t':=by
               have:(i+1)*aB t'<=c0*aB t':=kG _ (by omega);rw[jo]at this;exact this
              have iG:i*aB t'+j+v.cells.toList.length<=cs.size:=by rw[mI,Ub,hs];omega
              have hW:=Mj w b (i*aB t'+j) v.cells.toList;obtain⟨c2,ga,oy⟩:=FZ b (tid t') v.cells.toList (i*aB t'+j) w cs hh iG;have um:∀ m,c2[m]?=if m<i*aB t'+j then cs[m]? else if m<i*aB t'+j+n then v.cells[m-(i*aB t'+j)]? else cs[m]?:=by
               intro m;have e2:c2[m]?=(splice cs.toList (i*aB t'+j) v.cells.toList)[m]?:=by
                rw[show c2[m]?=c2.toList[m]? by simp,oy];rfl
               rw[e2,w7 _ _ _ (by simpa using iG),mI,Ub];simp
              have GK:c2.size=cs.size:=by
               rw[<-mI,oy];have:=ta cs.toList (i*aB t'+j) v.cells.toList (by simpa using iG);simp only[splice]at this;rw[this];simp
              have hbs:b<w.heap.size:=(ia.1 hh).1;have hz:w.heap.size<=(w.setCells b (i*aB t'+j) v.cells.toList).heap.size:=Nat.le_of_eq hW.size.symm;have xw:∀b',b'<w.heap.size->aD b'≠some [rr]->(w.setCells b (i*aB t'+j) v.cells.toList).heap[b']?=w.heap[b']?:=λb' _ br=>hW.block b' (by rintro rfl;exact br M4)
              have GP:w.there b (i*aB t'+j) v.cells.size:=by
               intro m pn;refine⟨?_,frozen_of_row w b _ cs _ hh⟩;rw[cell_of_row w b _ cs _ _ hh];rw[mI]at iG;simp;omega
              have gW:vs.length=n:=by rw[tq,hlen]
              refine⟨_,aD,SX w b _ t v GP (by rw[Ub];exact hn) ko,aV.kB (ns:=[rr]) (cn:=[]) (fh:=ρ) (dI:=aD) ⟨hz,λb' mR hk=>⟨hW.block b' ?_,rfl⟩,λ_ _=>rfl,λb' k hk=>(aV.dF b' k hk).2⟩
               ⟨hW.os,hW.tape,hW.output,hz,λk hk hL=>hW.block k ?_⟩ (λb' k hk=>?_) (λr hr=>by cases hr) (λr0 x hx=>?_)⟩
              ·rintro rfl;have:=hk _ M4;simp[dz,cX]at this
              ·rintro rfl;rcases(aV.dF k _ M4).1 with h1 | h1
               ·exact absurd hk (Nat.not_lt.2 h1)
               ·exact h1 hL
              ·have:=aV.dF b' k hk;exact⟨this.1,mg this.2.1 hz,this.2.2⟩
              ·have dn:r0=rr/\x = .sl (.sl t' (o'+2) qn (l.set i e)):=by
                simp only[List.lookup]at hx;split at hx
                next mR=>injection hx with hx;exact⟨by simpa using mR,hx.symm⟩
                ·cases hx
               obtain⟨rfl,rfl⟩:=dn;refine .sl _ _ aO ?_
               refine RV.Mk (u:=us) (us:=λ_ m=>v.cells.getD (m-j) undef) (cs:=cs) (xs:=vs) M4 ga (GK.trans hs) p6 hm hi (by rw[gW];exact hj) he (λi' h' j' x cW GJ=>?_) (λm x cW=>?_)
               ·have pg:j'<aB t':=by have:=(dS.1 cW).1;rwa [lA]at this
                refine⟨?_,(hr i' h' j' x cW).under (n:=r0) (.inl (by simp)) hz xw (λ_ _=>rfl)⟩
                rw[um];have zo:¬ (¬ i'*aB t'+j'<i*aB t'+j/\i'*aB t'+j'<i*aB t'+j+n):=by
                 rintro⟨h1,h2⟩;rcases Nat.lt_trichotomy i' i with bW|heq|D5
                 ·have:(i'+1)*aB t'<=i*aB t':=kG _ bW;rw[jo]at this;omega
                 ·subst heq;exact GJ ⟨rfl,by omega,by omega⟩
                 ·have:(i+1)*aB t'<=i'*aB t':=kG _ D5;rw[jo]at this;omega
                split
                ·exact hc i' h' j' x cW
                ·rw[cm (by omega)];exact hc i' h' j' x cW
               ·obtain⟨v0,sn,D6⟩:=M3 m x cW;have pn:m<n:=by rw[<-gW];exact(dS.1 cW).1
                have My:v.cells[m]?=some v0:=by simpa using sn
                have uo:v.cells.getD (j+m-j) undef=v0:=by rw[show j+m-j=m by omega,jn,My];rfl
                show c2[_]?=some (v.cells.getD (j+m-j) undef)/\RV _ _ _ _ _ (v.cells.getD (j+m-j) undef);rw[uo,um,cm (by omega),bB (by omega)];rw[fV]at D6
                refine⟨?_,D6.under (n:=r0) (.inl (by simp)) hz xw (λ_ _=>rfl)⟩
                rw[show i*aB t'+(j+m)-(i*aB t'+j)=m by omega];exact My
           ·cases jC
          ·cases jC
         ·cases h
        ·cases h
       ·cases h
      ·cases h
     ·cases h
    ·cases h
  ·cases h
 ·cases h
theorem amb{t:TypeId}{x y:A}{k:S->ak X}(h:sE P σ t x y k=some r):∃ τ,k τ=some r/\cR (λX k=>sE (X:=X) P σ t x y k) τ:=by
 unfold sE at h;split at h
 ·rename_i n xs j i s rr hn gV;split at h
  ·rename_i hlen;cases jg:xs.all Lf.live with
   |false=>rw[jg]at h;cases h
   | true=>
    rw[jg,aq]at h;split at h
    ·rename_i vs τ qv;split at h
     ·rename_i t' o' qn l ep;split at h
      ·rename_i ny;split at h
       ·rename_i hi;split at h
        ·rename_i hj;split at h
         next e he=>exact⟨_,h,λX k=>by simp only[sE,hn,gV,bB hlen,jg,aq,qv,ep,bB ny,aG hi,bB hj,he]⟩
         ·cases h
        ·cases h
       ·cases h
      ·cases h
     ·cases h
    ·cases h
  ·cases h
 ·cases h
end
end Go.Proofs.YtecofnkoloihpaaGreat
namespace Go.Proofs.YtecofnkoloihpaaGreat
open Go.RowKit
set_option linter.unusedVariables false
def amc(P:Program)(f:Nat)(F:af Int->ak Int):Prop:=
 ∀ (w:World) (l:af (T .u8)) (h:Int) (v:Value),F l=some h->RV w w.heap.size (λ_=>none) [] (.sl .u8 0 false l) v->Hd w (λ_=>none)->Calls P f #[v] w λe w'=>
  ∃b off cells t,e = .returned (.pointer (some ⟨b,off,none⟩))/\Below w.heap.size w w'/\w.heap.size<=b/\w'.heap[b]?=some (.cells cells t (0,0))/\cells[off]?=some v/\cells[off+1]?=some (.int .i64 0)/\cells[off+2]?=some (.int .i64 h)
structure B2 where
 a:Nat
 j:Nat
 t:TC
 run:List Pt->Option (Nat×Nat)
def uI(cq:Array Value)(a j:Nat):ak Value:=match cq[a]? with
 |some (.agg us)=>us[j]?
 |some u=>bif Nat.beq j 0 then some u else none
 |none=>none
def M5(P:Program)(f:Nat)(c:B2):Prop:=
 ∀ (args:af Pt) (p:Nat×Nat),c.run args=some p->∀ (w:World) (cq:Array Value),vU w args cq->Hd w (λ_=>none)->Calls P f cq w λe w'=>
  ∃A n cap,uI cq c.a c.j=some (.slice A n cap)/\p.1<=p.2/\p.2<=n/\e = .returned (sliced A p.1 p.2 cap (aB c.t))/\Below w.heap.size w w'
def abi(σ:S)(args:af Operand)(a j:Nat):ak Lf:=match args[a]? with
 | some x=>(match aH σ x with
  |.agg cs=>cs[j]?
  |.lf l=>bif Nat.beq j 0 then some l else none
  |_=>none)
 |none=>none
def B3{X:Type}(N:Nat)(σ:S)(d:Nat)(c:B2)(args:af Operand)(k:S->ak X):ak X:=
 bif Nat.blt d N then mz σ args λps=>(match c.run ps with
  | some p=>(match abi σ args c.a c.j with
   |some (.v (.sl t g _ l))=>if t=c.t then (bif Nat.blt g 2&&Nat.ble p.1 p.2&&Nat.ble p.2 l.length then k (σ.set d (.lf (.v (.sl t g false ((l.take p.2).drop p.1)))))else none)else none
   |_=>none)
  |none=>none)else none
structure uJ where
 run:(X:Type)->Nat->S->List A->(S->A->Option X)->Option X
def mB(P:Program)(f:Nat)(c:uJ):Prop:=
 ∀ [Inhabited Wd] (X:Type) (N:Nat) (σ:S) (xs:af A) (k:S->A->ak X) (r:X),c.run X N σ xs k=some r->∃ aA y,k aA y=some r/\(∀ (X':Type) (k':S->A->ak X'),c.run X' N σ xs k'=k' aA y)/\
  ∀ (w0:Wd) (aj:bM) (ρ:Nat->Loc) (a:Act) (w:World) (cq:Array Value),Rl w0 N aj ρ σ a w->cq.size=xs.length->(∀ i,RA w w0.heap.size aj ρ ((xs[i]?).getD .undef) (cq.getD i undef))->
   Calls P f cq w λe w'=>∃v aD ρ',e = .returned v/\Rl w0 N aD ρ' aA a w'/\RA w' w0.heap.size aD ρ' y v
inductive ru where
 |p (c:lD)
 |m (c:pz)
 |n (F:List Int->Option Int)
 |v (c:B2)
 |i (c:uJ)
 |d (c:pz)
 |q (c:lD)
 |c (c:pz)
def Uc(P:Program)(f:Nat):ru->Prop
 |.p c=>kz P f c
 |.m c=>uE P f c
 |.n F=>amc P f F
 |.v c=>M5 P f c
 |.i c=>mB P f c
 |.d c=>uE P f c
 |.q c=>kz P f c
 |.c c=>uE P f c
section
variable {P:Program} {w w':World} {w0:Wd} {B N:Nat} {aj dI aD:bM} {ρ fh ρ':Nat->Loc} {σ:S} {a:Act} {X:Type} {d:Nat} {r:X} {ns cn:af Nat} {o:Oper}
theorem Ud:∀ (xs:af Lf) (k:af V->ak X),tD σ ns xs k=some r->∃ vs,k vs=some r/\cR (λX k=>tD (X:=X) σ ns xs k) vs
 |[],k,h=>⟨[],h,λX k=>rfl⟩
 | x :: xs,k,h=>by
  unfold tD at h;cases ho:MO ns x with
  |false=>rw[ho]at h;cases h
  | true=>
   rw[ho,aq]at h;obtain⟨y,h2,hd⟩:=Em h;obtain⟨ys,h3,kS⟩:=Ud xs _ h2;exact⟨_,h3,λX k=>by
    simp only[tD,ho,aq];exact(hd.at_ _).trans (kS.at_ _)⟩
theorem amd{x:A}{k:Pt->ak X}(h:sB σ ns x k=some r):∃ p,k p=some r/\cR (λX k=>sB (X:=X) σ ns x k) p:=by
 unfold sB at h;split at h
 next y=>obtain⟨vs,h2,hd⟩:=Ud _ _ h;exact⟨_,h2,λX k=>hd X (λvs=>k (false,vs))⟩
 next ys=>obtain⟨vs,h2,hd⟩:=Ud _ _ h;exact⟨_,h2,λX k=>hd X (λvs=>k (true,vs))⟩
 ·exact⟨_,h,λX k=>rfl⟩
 ·rename_i f r' j;cases BP:cX r' ns with
  |true=>rw[BP]at h;cases h
  | false=>
   rw[BP,au]at h;split at h
   ·rename_i cs hm;split at h
    next c vs iP=>exact⟨_,h,λX k=>by simp only[sB,BP,au,hm,iP]⟩
    ·cases h
   ·cases h
 ·cases h
theorem Eo:∀ (ps:af PK) (xs:af Operand) (aS:af Mu) (k:oL ps->ak X),mV σ ns ps xs aS k=some r->∃ x,k x=some r/\cR (λX k=>mV (X:=X) σ ns ps xs aS k) x
 |[],[],[],k,h=>⟨(),h,λX k=>rfl⟩
 | .v b t :: ps,x :: xs,aS,k,h=>by
  unfold mV at h;obtain⟨p,h2,hd⟩:=amd h;cases hb:p.1==b with
  |false=>rw[hb]at h2;cases h2
  | true=>
   rw[hb,aq]at h2;split at h2
   ·rename_i y hy;obtain⟨ys,h3,kS⟩:=Eo ps xs aS _ h2;exact⟨_,h3,λX k=>by
     show sB σ ns (aH σ x) _=_;refine(hd.at_ _).trans ?_;rw[hb,aq,hy];exact kS.at_ _⟩
   ·cases h2
 | .p t g off :: ps,x :: xs,.aC r' cs vs :: aS,k,h=>by
  unfold mV at h;split at h
  ·rename_i y hy;obtain⟨ys,h3,kS⟩:=Eo ps xs aS _ h;exact⟨_,h3,λX k=>by
    simp only[mV,hy];exact kS.at_ _⟩
  ·cases h
 | .s t g :: ps,x :: xs,.sl q y0 :: aS,k,h=>by
  unfold mV at h;split at h
  ·rename_i y hy;obtain⟨ys,h3,kS⟩:=Eo ps xs aS _ h;exact⟨_,h3,λX k=>by
    simp only[mV,hy];exact kS.at_ _⟩
  ·cases h
 |[],[],_::_,k,h=>by cases h
 |[],_::_,_,k,h=>by cases h
 |.v _ _::_,[],_,k,h=>by cases h
 |.p _ _ _::_,[],_,k,h=>by cases h
 |.s _ _::_,[],_,k,h=>by cases h
 |.p _ _ _::_,_::_,[],k,h=>by cases h
 |.s _ _::_,_::_,[],k,h=>by cases h
 |.p _ _ _::_,_::_,.sl _ _::_,k,h=>by cases h
 |.s _ _::_,_::_,.aC _ _ _::_,k,h=>by cases h
theorem ame{dst:ak Tmp}{res:ig}{k:S->ak X}(h:sD N σ dst res k=some r):∃ τ,k τ=some r/\cR (λX k=>sD (X:=X) N σ dst res k) τ:=by
 unfold sD at h;cases dst with
 |none=>exact⟨σ,h,λX k=>rfl⟩
 | some d=>
  have h:(bif Nat.blt d N then (match res with
   | .one p=>(match si (p.1,lP (1000000000100000+1000*d) p.2)with
    |some y=>k ((jG (1000000000100000+1000*d) σ p.2).set d y)
    |none=>none)
   |.cU ps=>k ((mT (1000000000100000+1000*d) σ ps).set d (.cU (nB (1000000000100000+1000*d) ps))))else none)=some r:=h
  cases hN:Nat.blt d N with
  |false=>rw[hN]at h;cases h
  | true=>
   rw[hN,aq]at h;cases res with
   | one p=>
    simp only at h;split at h
    next y hy=>exact⟨_,h,λX k=>by simp only[sD,hN,aq,hy]⟩
    ·cases h
   |cU ps=>exact⟨_,h,λX k=>by simp only[sD,hN,aq]⟩
theorem Ue{dst:ak Tmp}{c:pz}{args:af Operand}{k:S->ak X}(h:qp N σ dst c args k=some r):∃ τ,k τ=some r/\cR (λX k=>qp (X:=X) N σ dst c args k) τ:=by
 unfold qp at h;split at h
 ·rename_i aS qq;cases lT:(once (oN 0 aS)&&Nat.ble aS.length 40)with
  |false=>rw[lT]at h;cases h
  | true=>
   rw[lT,aq]at h;obtain⟨x,h2,hd⟩:=Eo _ _ _ _ h;split at h2
   ·rename_i y hy;unfold Ei at h2;generalize eH:Eh N aS (lS (gq c.ps) y.2) (qm (jt dst) (gi c.ro y.1).len aS (lS (gq c.ps) y.2))=ok at h2;cases ok with
    |false=>cases h2
    | true=>
     rw[aq]at h2;obtain⟨τ,h3,En⟩:=ame h2;exact⟨τ,h3,λX k=>by
      simp only[qp,qq,lT,aq];refine(hd X _).trans ?_;simp only[hy,Ei,eH,aq];exact En.at_ _⟩
   ·cases h2
 ·cases h
theorem amf{f:Nat}{args:Array Operand}{gf:Array TypeId}{c:B2}{k:S->ak X}(ho:o.op = .call { callee:=.value (.func f),args,argTypes:=gf })(hd:o.dst=some d)(he:enters P f)(hc:M5 P f c)(h:B3 N σ d c args.toList k=some r):∃ aA,k aA=some r/\oz P w0 N o σ aA:=by
 unfold B3 at h;cases hN:Nat.blt d N with
 |false=>rw[hN]at h;cases h
 | true=>
  rw[hN,aq]at h;have BF:d<N:=by have:=cT hN;omega
  obtain⟨ps,h2,iR⟩:=Tt (w0:=w0) (N:=N) _ _ h;split at h2
  ·rename_i p hp;split at h2
   ·rename_i t g q l hl;split at h2
    ·rename_i gw;cases hb:(Nat.blt g 2&&Nat.ble p.1 p.2&&Nat.ble p.2 l.length)with
     |false=>rw[hb]at h2;cases h2
     | true=>
      rw[hb,aq]at h2;rw[bx,bx]at hb;have hg:g<2:=by have:=cT hb.1.1;omega
      have jP:=cT hb.1.2;have h2l:=cT hb.2
      refine⟨_,h2,λa w K Q hR hK=>?_⟩
      obtain⟨aj,ρ,hR⟩:=hR;unfold Oper.wp;rw[Tw w o a f args gf ho he,Oper.upon_enter];have BG:(args.map a.eval)=(args.toList.map a.eval).toArray:=by apply Array.ext';rw[Array.toList_map]
      rw[BG]
      refine(hc ps p hp w _ (iR aj ρ a w hR) (w0.on hR.below (λ_ _ h=>by cases h))).mono λe w' uA=>?_
      obtain⟨A,n,cap,e1,hle,hn,rfl,iV⟩:=uA;have lN:RV w w0.heap.size aj [] (.sl t g q l) (.slice A n cap):=by
       unfold abi at hl;split at hl
       ·rename_i x hx;have hev:((args.toList.map a.eval).toArray)[c.a]?=some (a.eval x):=by
         rw[List.getElem?_toArray,dP,hx];rfl
        unfold uI at e1;rw[hev]at e1;have xM:=hR.aH x;split at hl
        next cs eR=>rw[eR]at xM;obtain⟨us,gv,Ec⟩:=xM;rw[gv]at e1;obtain⟨u,hu,hr⟩:=Ec.2 _ _ hl;simp only at e1;rw[e1]at hu;injection hu with hu;subst hu;exact hr.2
        ·rename_i lf uz;rw[uz]at xM;cases hj:Nat.beq c.j 0 with
         |false=>rw[hj]at hl;cases hl
         | true=>
          rw[hj]at hl e1;injection hl with hl;subst hl;have xM:dY w w0.heap.size aj ρ (.v (.sl t g q l)) (a.eval x):=xM;have v8:∀ us,a.eval x ≠ .agg us:=by
           intro us e;rw[e]at xM;cases xM.2
          generalize a.eval x=z at e1 xM v8;cases z<;>first|exact absurd rfl (v8 _)|(simp only[aq,gl]at e1;cases e1;exact xM.2)|(simp only[aq,gl]at e1;cases e1)
        ·cases hl
       ·cases hl
      obtain⟨Uf,zF,MI⟩:=lN.part (a:=p.1) (h:=p.2) hg jP h2l;subst gw;rw[hd];have aV:=hR.grow iV (aD:=aj) (λ_ _=>rfl) (λb k hb hk=>absurd (hR.dF b k hk).2.1 (Nat.not_lt.2 hb));refine hK _ _ ⟨aj,ρ,aV.set ⟨by simp[V.az,hg],?_⟩ BF⟩;exact Uf.iz iV.size λb hb=>⟨iV.block b hb,rfl⟩
    ·cases h2
   ·cases h2
  ·cases h2
theorem amg{c:B2}{args:af Operand}{k:S->ak X}(h:B3 N σ d c args k=some r):∃ τ,k τ=some r/\cR (λX k=>B3 (X:=X) N σ d c args k) τ:=by
 unfold B3 at h;cases hN:Nat.blt d N with
 |false=>rw[hN]at h;cases h
 | true=>
  rw[hN,aq]at h;obtain⟨ps,h2,uK⟩:=T8 _ _ h;split at h2
  ·rename_i p hp;split at h2
   ·rename_i t g q l hl;split at h2
    ·rename_i gw;cases hb:(Nat.blt g 2&&Nat.ble p.1 p.2&&Nat.ble p.2 l.length)with
     |false=>rw[hb]at h2;cases h2
     | true=>
      rw[hb,aq]at h2
      refine⟨_,h2,λX k=>?_⟩
      simp only[B3,hN,aq];exact(uK.at_ _).trans (by simp only[hp,hl,bB gw,hb,aq])
    ·cases h2
   ·cases h2
  ·cases h2
/-! Calls of functions that are run in the state of their caller. -/
def B4{X:Type}(N:Nat)(σ:S)(dst:ak Tmp)(c:uJ)(xs:af A)(k:S->ak X):ak X:=c.run X N σ xs λaA y=>jD N aA dst y k
def amh(p:Nat×Nat):A:=.aK p.1 p.2
def HG(σ:S):af Operand->ak (af (Nat×Nat))
 |[]=>some []
 | x :: xs=>match aH σ x,HG σ xs with
  |.aK r j,some ps=>some ((r,j)::ps)
  |_,_=>none
theorem ami(w:World)(o:Oper)(a:Act)(f:Nat)(cl:Operand)(vs:Array Value)(args:Array Operand)(gf:Array TypeId)(ho:o.op = .call { callee:=.value cl,args,argTypes:=gf })(hv:a.eval cl = .func (.func f) #[] vs)(he:enters P f):
  (execOp a.eval o).run P w = .ok (.enter f (args.map a.eval++vs)) w:=by
 obtain⟨fn,h1,h2,h3⟩:=he;have sx:¬ fn.name = "runtime.NumGoroutine":=by simpa using h2
 have BE:¬ fn.body=none:=by intro e;rw[e]at h3;cases h3
 simp[execOp,ho,resolve,hv,Deferred.ofValue,invoke,callFunc,gk,Sem.run,program,h1,sx,BE]
def M6:A->ak (Nat×af A)
 |.fn f cap=>some (f,cap.map amh)
 |.mm f cs=>some (f,[.je cs])
 |_=>none
theorem amj{x:A}{f:Nat}{ex:af A}{u:Value}(h:M6 x=some (f,ex))(hu:RA w B aj ρ x u):∃ vs:Array Value,u = .func (.func f) #[] vs/\vs.size=ex.length/\∀ (j:Nat) y,ex[j]?=some y->RA w B aj ρ y (vs.getD j undef):=by
 unfold M6 at h;split at h
 ·rename_i f' cap;injection h with h;injection h with h1 h2;subst h1 h2;obtain⟨vs,hv,hs,gW⟩:=hu
  refine⟨vs,hv,by simp[hs],λj y hy=>?_⟩
  rw[dP]at hy;cases hp:cap[j]? with
  |none=>rw[hp]at hy;cases hy
  | some p=>
   rw[hp]at hy;injection hy with hy;subst hy;obtain⟨b,off,h1,h2⟩:=gW _ p hp;rw[jn,h2];exact⟨b,off,h1,rfl⟩
 ·injection h with h;injection h with h1 h2;subst h1 h2;obtain⟨pv,e,hp⟩:=hu
  refine⟨#[pv],e,rfl,λj y hy=>?_⟩
  rcases j with _|j
  ·injection hy with hy;subst hy;exact hp
  ·cases hy
 ·cases h
theorem abj{f:Nat}{cl:Operand}{ex:af A}{args:Array Operand}{gf:Array TypeId}{c:uJ}{k:S->ak X}(ho:o.op = .call { callee:=.value cl,args,argTypes:=gf })(eC:M6 (aH σ cl)=some (f,ex))(he:enters P f)(hc:mB P f c)
  (h:B4 N σ o.dst c (args.toList.map (aH σ)++ex) k=some r):∃aA,k aA=some r/\oz P w0 N o σ aA:=by
 unfold B4 at h
 haveI:Inhabited Wd:=⟨w0⟩
 obtain⟨mW,y,hk,_,He⟩:=hc _ _ _ _ _ _ h;have step:∀ a w K Q,R w0 N σ a w->(∀ v w' aD ρ',Rl w0 N aD ρ' mW a w'->RA w' w0.heap.size aD ρ' y v->K (a.put o.dst v) w')->o.wp P a w K Q:=by
  intro a w K Q hR hK;obtain⟨aj,ρ,hR⟩:=hR;obtain⟨vs,hv,hs,gW⟩:=amj eC (hR.aH cl);unfold Oper.wp;rw[ami w o a f cl vs args gf ho hv he,Oper.upon_enter]
  refine(He w0 aj ρ a w _ hR (by simp[hs]) λi=>?_).mono λe w' uA=>?_
  ·by_cases hi:i<args.size
   ·have e1:(args.toList.map (aH σ)++ex)[i]?=some (aH σ args[i]):=by
     rw[List.getElem?_append_left (by simpa using hi),dP,nh,Array.getElem?_eq_getElem hi];rfl
    have e2:(args.map a.eval++vs).getD i undef=a.eval args[i]:=by
     rw[jn,Array.getElem?_append_left (by simpa using hi)];simp[hi]
    rw[e1,e2];exact hR.aH _
   ·have e0:(args.toList.map (aH σ)++ex)[i]?=ex[i-args.size]?:=by
     rw[List.getElem?_append_right (by simp;omega)];simp
    rw[e0];cases hp:ex[i-args.size]? with
    |none=>trivial
    | some p=>
     have e2:(args.map a.eval++vs).getD i undef=vs.getD (i-args.size) undef:=by
      rw[jn,Array.getElem?_append_right (by simp;omega),jn];simp
     rw[e2];exact gW _ p hp
  ·obtain⟨v,aD,ρ',rfl,aV,hy⟩:=uA;exact hK v w' aD ρ' aV hy
 unfold jD at hk;split at hk
 ·rename_i hd
  refine⟨mW,hk,λa w K Q hR hK=>step a w K Q hR λv w' aD ρ' aV _=>?_⟩
  rw[hd];exact hK _ _ ⟨aD,ρ',aV⟩
 ·rename_i d hd;cases hN:Nat.blt d N with
  |false=>rw[hN]at hk;cases hk
  | true=>
   rw[hN,aq]at hk
   refine⟨_,hk,λa w K Q hR hK=>step a w K Q hR λv w' aD ρ' aV hy=>?_⟩
   rw[hd];exact hK _ _ ⟨aD,ρ',aV.set hy (by have:=cT hN;omega)⟩
theorem abk:∀ (xs:af Operand) (ps:af (Nat×Nat)),HG σ xs=some ps->ps.length=xs.length/\∀ aj ρ a w,Rl w0 N aj ρ σ a w->∀ (j:Nat) p,ps[j]?=some p->∃ b off,ρ p.1 = .aC b off/\(xs.map a.eval)[j]?=some (.pointer (some ⟨b,off+p.2,none⟩))
 | [],ps,h=>by
  simp only[HG,gl]at h;subst h;exact⟨rfl,λ_ _ _ _ _ j p hp=>by simp at hp⟩
 | x :: xs,ps,h=>by
  unfold HG at h;split at h
  ·rename_i rr j n5 h1 h2;injection h with h;subst h;obtain⟨k1,k2⟩:=abk xs n5 h2
   refine⟨by simp[k1],λaj ρ a w hR j' p hp=>?_⟩
   cases j' with
   | zero=>
    simp only[List.getElem?_cons_zero,gl]at hp;subst hp;have hv:=hR.aH x;rw[h1]at hv;obtain⟨b,off,e1,e2⟩:=hv;exact⟨b,off,e1,by simp[e2]⟩
   | succ j'=>
    obtain⟨b,off,e1,e2⟩:=k2 aj ρ a w hR j' p (by simpa using hp);exact⟨b,off,e1,by simpa using e2⟩
  ·cases h
end
end Go.Proofs.YtecofnkoloihpaaGreat
namespace Go.Proofs.YtecofnkoloihpaaGreat
open Go.RowKit
set_option linter.unusedVariables false
def A.Ac(q s n:Nat):A->A
 |.lf (.own [q'])=>bif Nat.beq q' q then .view [q] s 0 n else .lf (.own [q'])
 |x=>x
def S.Ac(σ:S)(p:Nat×Nat×Nat):S:=⟨λk=>(σ.t k).Ac p.1 p.2.1 p.2.2,σ.m⟩
def Ug:af (Nat×Nat×Nat)->S->S
 |[],σ=>σ
 |p::l,σ=>Ug l (σ.Ac p)
def Uh(c0 g:Nat):Mu->af (Nat×Nat×Nat)
 |.sl q (.sl t _ _ l)=>bif Nat.ble 1000000 g&&Nat.blt q c0 then [(q,aB t,l.length)]else []
 |_=>[]
def HH(c0:Nat):af PK->af Mu->af (Nat×Nat×Nat)
 |.v _ _::ps,aS=>HH c0 ps aS
 |.p _ _ _::ps,_::aS=>HH c0 ps aS
 |.s _ g::ps,mu::aS=>Uh c0 g mu++HH c0 ps aS
 |_,_=>[]
def B5{X:Type}(N:Nat)(σ:S)(dst:ak Tmp)(c:pz)(args:af Operand)(k:S->ak X):ak X:=
 match oM σ c.ps args with
 |some aS=>qp N σ dst c args λaA=>k (Ug (HH (jt dst) c.ps aS) aA)
 |none=>none
section
variable {P:Program} {w w':World} {w0:Wd} {B N:Nat} {aj dI aD:bM} {ρ fh ρ':Nat->Loc} {σ:S} {a:Act} {X:Type} {d:Nat} {r:X} {o:Oper}
theorem Rl.Ac{p:Nat×Nat×Nat}{ad:ak Addr}{c:Nat}(h:Rl w0 N aj ρ σ a w)(hq:ρ p.1 = .eK (.slice ad p.2.2 c)):Rl w0 N aj ρ (σ.Ac p) a w:=by
 refine⟨h.below,h.dF,h.root,λk=>?_,h.size,h.defers,h.fix,h.ef⟩
 have hk:=h.tmp k;show RA _ _ _ _ ((σ.t k).Ac p.1 p.2.1 p.2.2) _;generalize σ.t k=x at hk;unfold A.Ac;split
 ·rename_i q';cases hb:Nat.beq q' p.1 with
  |false=>exact hk
  | true=>
   obtain rfl:=cr hb;have h2:=hk.2;simp only[cJ,hq]at h2;injection h2 with h2;refine⟨ad,p.2.2,c,by simp only[cJ,hq],Nat.zero_le _,gj _,?_⟩;rw[<-h2];cases ad<;>simp[sliced,Addr.add]
 ·exact hk
theorem abl:∀ (l:af (Nat×Nat×Nat)) (σ:S),Rl w0 N aj ρ σ a w->(∀ p∈l,∃ A c,ρ p.1 = .eK (.slice A p.2.2 c))->Rl w0 N aj ρ (Ug l σ) a w
 |[],σ,h,_=>h
 | p :: l,σ,h,hl=>by
  obtain⟨A,c,hp⟩:=hl p (.head _);exact abl l _ (h.Ac hp) λp hp=>hl p (.tail _ hp)
theorem amk{c0 g:Nat}{mu:Mu}{p:Nat×Nat×Nat}(h:p∈Uh c0 g mu):∃ q t o qn l,mu = .sl q (.sl t o qn l)/\p=(q,aB t,l.length)/\q<c0:=by
 unfold Uh at h;split at h
 ·rename_i q t o qn l;cases hb:(Nat.ble 1000000 g&&Nat.blt q c0)with
  |false=>rw[hb]at h;cases h
  | true=>
   rw[hb,aq]at h;rw[bx]at hb;exact⟨q,t,o,qn,l,rfl,List.mem_singleton.1 h,cT hb.2⟩
 ·cases h
theorem M7{c0:Nat}{p:Nat×Nat×Nat}:∀ (ps:af PK) (aS:af Mu),p∈HH c0 ps aS->∃ q t o qn l,Mu.sl q (.sl t o qn l)∈aS/\p=(q,aB t,l.length)/\q<c0
 |.v _ _::ps,aS,h=>M7 ps aS h
 |.p _ _ _::ps,mu::aS,h=>let ⟨q,t,o,qn,l,h1,h2⟩:=M7 ps aS h;⟨q,t,o,qn,l,.tail _ h1,h2⟩
 | .s _ g :: ps,mu :: aS,h=>by
  rcases List.mem_append.1 h with h|h
  ·obtain⟨q,t,o,qn,l,rfl,h2⟩:=amk h;exact⟨q,t,o,qn,l,.head _,h2⟩
  ·obtain⟨q,t,o,qn,l,h1,h2⟩:=M7 ps aS h;exact⟨q,t,o,qn,l,.tail _ h1,h2⟩
 |[],_,h=>by cases h
 |.p _ _ _::_,[],h=>by cases h
 |.s _ _::_,[],h=>by cases h
theorem RV.aml{q:af Nat}{t:TC}{g:Nat}{qn:Bool}{l:af (T t)}{v:Value}(h:RV w B aj q (.sl t g qn l) v):∃ A c,v = .slice A l.length c:=by
 cases h<;>exact⟨_,_,rfl⟩
theorem amm{f:Nat}{args:Array Operand}{gf:Array TypeId}{c:pz}{k:S->ak X}(ho:o.op = .call { callee:=.value (.func f),args,argTypes:=gf })(he:enters P f)(hc:uE P f c)(h:B5 N σ o.dst c args.toList k=some r):∃ aA,k aA=some r/\oz P w0 N o σ aA:=by
 unfold B5 at h;split at h
 ·rename_i aS qq;obtain⟨mW,pF,cn,h1,h2,_,h4,h5⟩:=TW (w0:=w0) ho he hc h;rw[qq]at h2;injection h2 with h2;subst h2
  refine⟨_,h1,λa w K Q hR hK=>?_⟩
  obtain⟨aj,ρ,hR⟩:=hR
  refine h5 a w K Q aj ρ hR λv w' dI fh tF aV hv _ aO=>hK _ _ ⟨dI,tF,abl _ _ aV λp hp=>?_⟩
  obtain⟨q,t,oo,qn,l,hm,rfl,hq⟩:=M7 _ _ hp;have iq:=(MQ _ _ _ qq _ hm).1;have cZ:=hR.root q _ iq;generalize hz:bg.sl _=z at cZ;cases cZ with
  |aC=>cases hz
  |mp=>cases hz
  |gh=>cases hz
  | sl u y jB hr=>
   injection hz with hz;subst hz;obtain⟨A,c,rfl⟩:=hr.aml;exact⟨A,c,(aO q hq).trans ((hv.ff q (h4 _ hm)).trans jB)⟩
 ·cases h
theorem amn{dst:ak Tmp}{c:pz}{args:af Operand}{k:S->ak X}(h:B5 N σ dst c args k=some r):∃ τ,k τ=some r/\∀ (X:Type) (k:S->ak X),B5 N σ dst c args k=k τ:=by
 unfold B5 at h;split at h
 next aS qq=>obtain⟨τ,h1,h2⟩:=Ue h;exact⟨_,h1,λX k=>by simp only[B5,qq];exact h2 X _⟩
 ·cases h
end
end Go.Proofs.YtecofnkoloihpaaGreat
namespace Go.Proofs.YtecofnkoloihpaaGreat
open Go.RowKit
set_option linter.unusedVariables false
def bM.un(aj:bM)(q:Nat):bM:=λb=>match aj b with
 |some k=>bif bP q k then none else some k
 |none=>none
def Ad{X:Type}(P:Program)(σ:S)(q s i j:Nat)(t:TypeId)(x:A)(k:S->ak X):ak X:=
 match σ.m q with
 |some (.sl (.sl tc (o+2) qn l))=>bif Nat.beq s (aB tc)&&Nat.beq (full tc) 0 then oB P (σ.drop q) t (x.drop q) (.lf (.v (.sl tc 0 false ((l.take j).drop i)))) k else none
 |_=>none
section
variable {P:Program} {w w':World} {w0:Wd} {B N:Nat} {aj aD:bM} {ρ ρ':Nat->Loc} {σ:S} {a:Act} {X:Type} {d q:Nat} {r:X} {o:Oper}
theorem amo(br:∀ b,aj b≠some []):Rel q aj (aj.un q):=
 ⟨br,λb h=>by simp[bM.un,h],λb k h hk=>by simp[bM.un,h,hk]⟩
theorem RV.ice{tc:TC}{g:Nat}{qn:Bool}{l:af (T tc)}{A:ak Addr}{n c:Nat}(hr:RV w B aj [q] (.sl tc (g+2) qn l) (.slice A n c))(hf:full tc=0):RV w B (aj.un q) [] (.sl tc 0 false l) (.slice A n c)/\n=l.length:=by
 cases hr with
 |c9=>exact⟨.c9 _ _ _,rfl⟩
 |dm=>exact⟨.dm _ _ _ _ _ (by omega),rfl⟩
 |dD=>exact⟨.dm _ _ _ _ _ (by omega),rfl⟩
 |az _ _ _ _ _ _ _ _ _ ho=>omega
 | own=>
  rename_i b cs u hl hh hc hr hs hn hm;have iP:∀ (i:Nat) (h:i<l.length) (j:Nat) (x:V),(enc tc 0 l[i])[j]?=some x->(enc tc g l[i])[j]?=some x/\x.plain=true:=by
   intro i h j x hx;obtain⟨y,hy,rfl⟩:=w6 tc g l[i] j x hx;have hp:=Mh tc g l[i] y (hJ hy);cases y with
   | sl t' o' q' l'=>
    have:=cT (show Nat.ble (full t'+2) (full tc)=true from hp);omega
   | nil=>
    have:=SM tc g l[i] _ (hJ hy);cases this
   |_=>exact⟨hy,rfl⟩
  refine⟨.az _ _ _ _ _ b 0 c u (by omega) (by simp[bM.un,hl,bP]) (ia.1 hh).1 (by omega) hn (λi h j x hx=>?_) (λi h j x hx=>?_),rfl⟩
  ·rw[fV,cell_of_row w b _ cs _ _ hh];exact hc i h j x (iP i h j x hx).1
  ·exact(hr i h j x (iP i h j x hx).1).uk (iP i h j x hx).2
theorem amp{s i j:Nat}{t:TypeId}{x:A}{k:S->ak X}(h:Ad P σ q s i j t x k=some r):∃ aA,k aA=some r/\∀ aj ρ a w,Rl w0 N aj ρ σ a w->∀ u v,RA w w0.heap.size aj ρ x u->RA w w0.heap.size aj ρ (.view [q] s i j) v->
  ∃w' aD,(Instr.storeAt t u v).run P w = .ok () w'/\Rl w0 N aD ρ aA a w':=by
 unfold Ad at h;split at h
 ·rename_i tc g qn l hm;cases hb:(Nat.beq s (aB tc)&&Nat.beq (full tc) 0)with
  |false=>rw[hb]at h;cases h
  | true=>
   rw[hb,aq]at h;rw[bx]at hb;obtain rfl:=cr hb.1;have hf:=cr hb.2;obtain⟨aA,h1,hs⟩:=aaa (w0:=w0) (N:=N) h
   refine⟨aA,h1,λaj ρ a w hR u v hu hv=>?_⟩
   have hrel:Rel q aj (aj.un q):=amo hR.xk;have tG:=hR.rel hrel (λb k hk=>by
    unfold bM.un at hk;cases hl:aj b with
    |none=>rw[hl]at hk;cases hk
    | some k'=>
     rw[hl]at hk;simp only at hk;cases hq:bP q k' with
     |true=>rw[hq]at hk;cases hk
     | false=>
      rw[hq,au]at hk;injection hk with hk;subst hk;exact⟨⟨_,rfl⟩,(hR.dF b k' hl).2.2⟩)
   obtain⟨A,n,c,fA,h3,h4,rfl⟩:=hv;have cZ:=hR.root q _ hm;generalize he:bg.sl (.sl tc (g+2) qn l)=z at cZ;cases cZ with
   |aC=>cases he
   |mp=>cases he
   |gh=>cases he
   | sl vq y aO hr=>
    injection he with he;subst he;have hvq:vq = .slice A n c:=by
     simp only[cJ,aO]at fA;injection fA
    subst hvq;obtain⟨h5,h6⟩:=hr.ice hf;have h7:=(h5.part (by omega) h3 (by omega)).1;obtain⟨w',bE,mA⟩:=hs _ _ _ _ tG u _ (hu.rel hrel) (show RA _ _ _ _ (.lf (.v _)) _ from ⟨rfl,h7⟩);exact⟨w',_,bE,mA⟩
 ·cases h
theorem amq{s i j:Nat}{t:TypeId}{x:A}{k:S->ak X}(h:Ad P σ q s i j t x k=some r):∃ τ,k τ=some r/\cR (λX k=>Ad (X:=X) P σ q s i j t x k) τ:=by
 unfold Ad at h;split at h
 ·rename_i tc g qn l hm;cases hb:(Nat.beq s (aB tc)&&Nat.beq (full tc) 0)with
  |false=>rw[hb]at h;cases h
  | true=>
   rw[hb,aq]at h;obtain⟨τ,h1,h2⟩:=aba h;exact⟨τ,h1,λX k=>by simp only[Ad,hm,hb,aq];exact h2.at_ _⟩
 ·cases h
end
end Go.Proofs.YtecofnkoloihpaaGreat
namespace Go.Proofs.YtecofnkoloihpaaGreat
open Go.RowKit
set_option linter.unusedVariables false
section
variable {P:Program} {w w':World} {w0:Wd} {B N:Nat} {aj aD:bM} {ρ ρ':Nat->Loc} {σ:S} {a:Act} {X:Type} {d q:Nat} {r:X} {o:Oper} {y:V}
def Ae{X:Type}(P:Program)(σ:S)(t:TypeId)(x lo hi mx:A)(k:ak X):ak X:=
 match x,lo,hi,mx with
 | .lf (.own q),.lf (.v (.int _ a)),.lf (.v (.int _ b)),.lf (.v (.int _ c))=>(match qY P t with
  | some e=>(match kM P e with
   | some _=>gR σ.m q λy=>(match y with
    |.sl _ _ _ l=>if 0<=a/\a<=b/\b<=c/\c<=(l.length:Int)then k else none
    |_=>none)
   |none=>none)
  |none=>none)
 |_,_,_,_=>none
theorem amr{t:TypeId}{x lo hi mx:A}{k:ak X}(h:Ae P σ t x lo hi mx k=some r):k=some r/\
  ∀aj ρ a w,Rl w0 N aj ρ σ a w->∀u lv hv mv,RA w w0.heap.size aj ρ x u->RA w w0.heap.size aj ρ lo lv->RA w w0.heap.size aj ρ hi hv->RA w w0.heap.size aj ρ mx mv->∃v,(Instr.sliceAt t u (some lv) (some hv) (some mv)).run P w = .ok v w:=by
 unfold Ae at h;split at h
 ·rename_i q kl a kh b km c;split at h
  ·rename_i e he;split at h
   ·rename_i n hn;obtain⟨y0,Tq,h2⟩:=th q _ h;split at h2
    ·rename_i tc g qn xs;split at h2
     ·rename_i hb
      refine⟨h2,λaj ρ ac w hR u lv hv mv hu hl hh hm=>?_⟩
      rw[hl.2.jf,hh.2.jf,hm.2.jf];have fQ:P.underlying t=some (.slice e):=by
       unfold qY at he;split at he
       next e' lO=>injection he with he;rw[<-he];exact lO
       ·cases he
      have jR:P.elem t=e:=by simp[Program.elem,fQ]
      have ri:P.underlying t=some (.slice (P.elem t)):=by rw[jR];exact fQ
      have uy:(sizeOf (P.elem t)).run P w = .ok n w:=by
       unfold kM at hn;cases hi:P.info? e with
       |none=>simp[hi]at hn
       | some i=>
        have:i.size=n:=by simpa [hi]using hn
        simp[sizeOf,typeInfo,jR,hi,this]
      obtain⟨v0,sn,dn⟩:=Tq.ok hR.root;have gQ:∃ D n c,u = .slice D n c:=by
       have:=hu.1;cases u<;>first|cases this;done|exact⟨_,_,_,rfl⟩
      obtain⟨D,n',c',rfl⟩:=gQ;have h3:=hu.2;rw[sn]at h3;injection h3 with h3;subst h3;have hf:RV w 0 (λ_=>none) [] (.sl tc 0 qn xs) (.slice D n' c'):=dn.iO;obtain⟨_,zF,MI⟩:=RV.part (w:=w) hf (a:=0) (h:=xs.length) (by omega) (by omega) (by omega);refine⟨sliced D a.toNat b.toNat c.toNat n,?_⟩;rw[run_sliceAt_slice w t _ _ _ _ ri,run_slice_lhm w t D n' c' ri kl kh km a b c hb.1 hb.2.1 hb.2.2.1 (by omega),uy];rfl
     ·cases h2
    ·cases h2
   ·cases h
  ·cases h
 ·cases h
end
end Go.Proofs.YtecofnkoloihpaaGreat
namespace Go.Proofs.YtecofnkoloihpaaGreat
open Go.RowKit
set_option linter.unusedVariables false
section
variable {P:Program} (w:World)
end
section
variable {P:Program} {w w':World} {w0:Wd} {B N:Nat} {aj aD:bM} {ρ ρ':Nat->Loc} {σ:S} {a:Act} {X:Type} {d:Nat} {r:X}
end
end Go.Proofs.YtecofnkoloihpaaGreat
namespace Go.Proofs.YtecofnkoloihpaaGreat
open Go.RowKit
set_option linter.unusedVariables false
section
variable {P:Program} {w w':World} {w0:Wd} {B N:Nat} {aj aD:bM} {ρ ρ':Nat->Loc} {σ:S} {a:Act} {X:Type} {d:Nat} {r:X} {o:Oper}
end
end Go.Proofs.YtecofnkoloihpaaGreat
namespace Go.Proofs.YtecofnkoloihpaaGreat
open Go.RowKit
set_option linter.unusedVariables false
def HI(t:TypeId)(d:Nat)(x:Operand):Bool:=[(91,26,22)].any λ(p:Nat×Nat×Nat)=>Nat.beq p.1 t&&Nat.beq p.2.1 d&&(match x with
 |.tmp n=>Nat.beq n p.2.2 ||Nat.beq p.2.2 1000000
 |_=>false)
def B6(dst:ak Tmp)(t:TypeId)(x:Operand):Bool:=match dst with
 |some d=>HI t d x
 |none=>false
def B7{X:Type}(P:Program)(N:Nat)(σ:S)(d:Nat)(t:TypeId)(x y:A)(k:S->ak X):ak X:=
 match vR P t with
 | some (e,tc)=>bif Nat.beq (full tc) 0&&(zeroOf P e).any (λz=>Nat.beq z.cells.size (aB tc))then qX σ y λyv=>(match yv.Ms tc with
  |none=>none
  | some l2=>match x with
   | .lf (.own [r])=>(match σ.m r with
    |some (.sl (.sl t' (o+2) true l))=>if h:t'=tc then (bif !ku l2&&bH (l.length+l2.length)then jF N σ d (.sl (.sl tc (o+2) false ((h ▸ l)++l2))) (.lf (.own [d])) k else none)else none
    |_=>none)
   |_=>none)else none
 |none=>none
section
variable {P:Program} {w w':World} {w0:Wd} {B N:Nat} {aj aD:bM} {ρ ρ':Nat->Loc} {σ:S} {a:Act} {X:Type} {d:Nat} {r:X}
theorem Rl.ams{t e ty:TypeId}{tc:TC}{i:TypeInfo}{z:Value}{rr o g:Nat}{qn:Bool}{l l2:af (T tc)}{u v:Value}{q':af Nat}{Bx:Nat}{Td:bM}(h:Rl w0 N aj ρ σ a w)(hF:w0.F d=none)(fQ:P.underlying t=some (.slice e))(ht:tid tc=e)(hi:P.info? e=some i)(hz:i.zero=some z)
  (dO:i.size=aB tc) (lJ:i.bytes<=65536) (gM:z.cells.size=aB tc) (hf:full tc=0) (hd:RV w w0.heap.size aj [rr] (.sl tc (o+2) true l) u) (hs:RV w Bx Td q' (.sl tc g qn l2) v) (br:l2≠[]) (hlen:l.length+l2.length<1073741824):
  ∃v' w' aD,(Builtin.append_ #[t,t] ty #[u,v]).run P w = .ok v' w'/\Rl w0 N aD (cB ρ d (.eK v')) ((σ.drop d).root d (.sl (.sl tc (o+2) false (l++l2)))) a w'/\ow v'=true:=by
 subst ht;obtain⟨xs,nc,xq,GV,jR⟩:=hd.aaj hf (B':=0) (λb _=>Nat.zero_le b);obtain⟨A,c,news,rfl,q7,ko,GW⟩:=hs.reads hf;have ga:(l.length+l2.length)*i.bytes<=140737488355328:=by
  have h1:(l.length+l2.length)*i.bytes<=1073741824*65536:=Nat.mul_le_mul (by omega) lJ;omega
 have uq:0<l2.length:=List.length_pos_iff.2 br;obtain⟨v',w',bE,q8,oE,kN⟩:=RD (P:=P) w 0 t ty (tid tc) i z (aB tc) i.bytes fQ hi hz dO rfl gM (p4 tc) u l.length xs nc _ A l2.length c news q7 ko (by unfold maxLen;omega) ga (Nat.zero_le _);have Bt:(l++l2).length=l.length+l2.length:=List.length_append;have hex:∃ b,u = .slice (some ⟨b,0,none⟩) l.length l.length:=by
  cases hd with
  |az _ _ _ _ _ _ _ _ _ ho=>omega
  |dD _ _ _ _ _ ho=>omega
  |own _ _ _ _ _ b cap cs us hl hh hs hn hm hc hr=>exact⟨b,by rw[hm.2 rfl]⟩
 obtain⟨b,rfl⟩:=hex;obtain⟨b',qL,rfl,_,eR⟩:=q7.2 uq;have amt:∀ j x,news[j]?=some x->w.cell? ((⟨b',qL,none⟩:Addr).add j)=some x:=by
  intro j x hx;have yQ:(⟨b',qL,none⟩:Addr).add j=⟨b',qL+j,none⟩:=by unfold Addr.add;split<;>simp_all
  rw[yQ];exact eR j x hx
 have abm:=run_append_grow (P:=P) w t ty (tid tc) i z fQ hi hz ⟨b,0,none⟩ l.length l.length xs (by rw[dO];exact nc.1) (nc.cells (g:=b) rfl) ⟨b',qL,none⟩ l2.length c news (by rw[dO];exact q7.1) amt (by omega) (by omega) (growslice_fits (by omega) ga);rw[bE]at abm;injection abm with e1 e2;have hold:∀ k,k<w.heap.size->w'.heap[k]?=w.heap[k]?:=by
  intro k hk;rw[e2];exact heap_alloc_old w.drew _ hk
 have hvb:v'.ownBlock=some w.heap.size:=by rw[e1];rfl
 have bW:w.heap.size<w'.heap.size:=by rw[e2];simp
 rw[<-Bt]at q8;have Bu:=jR.append GW nc.1;have gQ:ow v'=true:=by rw[e1];rfl
 have q9:Below 0 w w':=(Below.refl 0 w).grown oE (Nat.zero_le _) (λ_ _=>Nat.zero_le _);have iV:kJ w0 w w':=⟨q9.os,q9.tape,q9.output,q9.size,λk hk hL=>hold k (mg hk h.below.size)⟩
 refine⟨v',w',cB aj w.heap.size (some [d]),bE,h.Bo hF iV ⟨oE.size,λb hb _=>hold b hb,λb hb=>cV _ _ _ (by omega),λb hb=>(h.dF b [] hb).2.2 rfl⟩ (λb k hb hk=>?_) (λr hr=>cV _ _ _ hr) (.sl v' _ (cG _ _ _) (Tc q8 Bu (λb hb=>?_))),gQ⟩
 ·by_cases e:b=w.heap.size
  ·subst e;rw[cG]at hk;injection hk with hk;subst hk;exact⟨bW,by simp⟩
  ·rw[cV _ _ _ e]at hk;have:=(h.dF b k hk).2.1;omega
 ·rw[hvb]at hb;injection hb with hb;subst hb;exact cG _ _ _
theorem amu{t ty:TypeId}{x y:A}{k:S->ak X}(h:B7 P N σ d t x y k=some r):∃ aA,k aA=some r/\∀ aj ρ a w,Rl w0 N aj ρ σ a w->∀ u v,RA w w0.heap.size aj ρ x u->RA w w0.heap.size aj ρ y v->
  ∃w' aD ρ' z,(Builtin.append_ #[t,t] ty #[u,v]).run P w = .ok z w'/\Rl w0 N aD ρ' aA (a.put (some d) z) w':=by
 unfold B7 at h;split at h
 ·rename_i e tc gE;obtain⟨fQ,ht,i,hi,dO,lJ⟩:=zy gE;cases hc:(Nat.beq (full tc) 0&&(zeroOf P e).any (λz=>Nat.beq z.cells.size (aB tc)))with
  |false=>rw[hc]at h;cases h
  | true=>
   rw[hc,aq]at h;rw[bx]at hc;have hf:=cr hc.1;obtain⟨z,hz,gM⟩:=(Option.any_eq_true _ _).1 hc.2;have gM:=cr gM;have qb:i.zero=some z:=by unfold zeroOf at hz;simpa [hi]using hz
   obtain⟨yv,Mw,h2⟩:=aak (w0:=w0) (N:=N) h;clear h;split at h2
   ·cases h2
   ·rename_i l2 iA;split at h2
    ·rename_i rr;split at h2
     ·rename_i t' o l hm;split at h2
      ·rename_i gw;subst gw;cases hL:(!ku l2&&bH (l.length+l2.length))with
       |false=>rw[hL]at h2;cases h2
       | true=>
        rw[hL,aq]at h2;rw[bx]at hL;have br:l2≠[]:=by rintro rfl;cases hL.1
        have GX:l.length+l2.length<1073741824:=by simpa [bH]using hL.2
        obtain⟨hd,h3⟩:=q6 h2
        refine⟨_,h3,λaj ρ a w hR u v hu hv=>?_⟩
        obtain⟨q',_,_,eM⟩:=Mw aj ρ a w hR v hv;obtain⟨g,qn,eM⟩:=Tf iA eM;have cZ:=hR.root rr _ hm;generalize he:bg.sl (.sl t' (o+2) true l)=x at cZ;cases cZ with
        |aC=>cases he
        |mp=>cases he
        |gh=>cases he
        | sl uu y aO hr=>
         injection he with he;subst he;have GR:uu=u:=by
          have h4:=hu.2;simp only[cJ,aO]at h4;injection h4
         subst GR;obtain⟨v',w',aD,bE,aV,gQ⟩:=hR.ams (ty:=ty) (d:=d) (hR.ef d (.inl hd)) fQ ht hi qb dO lJ gM hf hr eM br GX;exact⟨w',aD,_,v',bE,aV.set ⟨gQ,by simp[cJ,cG]⟩ hd⟩
      ·cases h2
     ·cases h2
    ·cases h2
 ·cases h
theorem amv{t:TypeId}{x y:A}{k:S->ak X}(h:B7 P N σ d t x y k=some r):∃ τ,k τ=some r/\cR (λX k=>B7 (X:=X) P N σ d t x y k) τ:=by
 unfold B7 at h;split at h
 ·rename_i e tc gE;cases hc:(Nat.beq (full tc) 0&&(zeroOf P e).any (λz=>Nat.beq z.cells.size (aB tc)))with
  |false=>rw[hc]at h;cases h
  | true=>
   rw[hc,aq]at h;obtain⟨yv,h2,hd⟩:=T4 h;clear h;split at h2
   ·cases h2
   ·rename_i l2 iA;split at h2
    ·rename_i rr;split at h2
     ·rename_i t' o l hm;split at h2
      ·rename_i gw;subst gw;cases hL:(!ku l2&&bH (l.length+l2.length))with
       |false=>rw[hL]at h2;cases h2
       | true=>
        rw[hL,aq]at h2;obtain⟨h3,h4⟩:=zZ h2;exact⟨_,h3,λX k=>by
         simp only[B7,gE,hc,aq];exact(hd.at_ _).trans (by simp only[iA,hm,aG,hL,aq];exact h4 X k)⟩
      ·cases h2
     ·cases h2
    ·cases h2
 ·cases h
def Af{X:Type}(P:Program)(N:Nat)(σ:S)(d:Nat)(t:TypeId)(x y:A)(k:S->ak X):ak X:=
 match x with
 |.view q s i j=>Bv P N σ d t (.view q s i j) y k
 |x=>B7 P N σ d t x y k
theorem amw{t ty:TypeId}{x y:A}{k:S->ak X}(h:Af P N σ d t x y k=some r):∃ aA,k aA=some r/\∀ aj ρ a w,Rl w0 N aj ρ σ a w->∀ u v,RA w w0.heap.size aj ρ x u->RA w w0.heap.size aj ρ y v->
  ∃w' aD ρ' z,(Builtin.append_ #[t,t] ty #[u,v]).run P w = .ok z w'/\Rl w0 N aD ρ' aA (a.put (some d) z) w':=by
 unfold Af at h;split at h
 ·exact akF h
 ·exact amu h
theorem amx{t:TypeId}{x y:A}{k:S->ak X}(h:Af P N σ d t x y k=some r):∃ τ,k τ=some r/\cR (λX k=>Af (X:=X) P N σ d t x y k) τ:=by
 unfold Af at h;split at h
 ·obtain⟨τ,h1,h2⟩:=akG h;exact⟨τ,h1,λX k=>by simp only[Af];exact h2 X k⟩
 ·obtain⟨τ,h1,h2⟩:=amv h;exact⟨τ,h1,λX k=>by simp only[Af];exact h2.at_ k⟩
end
end Go.Proofs.YtecofnkoloihpaaGreat
