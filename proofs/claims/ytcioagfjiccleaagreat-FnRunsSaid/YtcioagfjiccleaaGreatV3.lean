/-
  Running the program over pure contents, and that it follows (part 3). Nothing here is a claim.
-/
import Derived.Lib.AppendStr
import Derived.MapKept
import Derived.Test.YtcioagfjiccleaaGreatV2
set_option linter.unusedSimpArgs false
namespace Go.Proofs.YtcioagfjiccleaaGreat
open Go.RowKit
set_option linter.unusedVariables false
section
variable {P:Program} {w w':World} {w0:Wd} {B N:Nat} {ah dD aC:bE} {ρ eX ρ':Nat->Loc} {σ:S} {a:Act} {X:Type} {d:Nat} {r:X} {ns cn:af Nat} {o:Oper} {rs:af Nat} {eR:af (Nat×Nat)} {nm MO:Nat->Nat} {c0:Nat}
theorem aif{dst:aj Tmp}{res:iF}{k:S->aj X}(h:oy N σ dst res k=some r):∃ az,k az=some r/\∀ ah ρ a w v,Rl w0 N ah ρ σ a w->sY w w0.heap.size ah (λn=>ju dst+n) res v->∃ ρ',Rl w0 N ah ρ' az (a.put dst v) w/\∀ r,r<ju dst->ρ' r=ρ r:=by
 unfold oy at h;cases dst with
 |none=>exact⟨σ,h,λah ρ a w v hR _=>⟨ρ,hR,λ_ _=>rfl⟩⟩
 | some d=>
  have h:(bif Nat.blt d N then (match res with
   | .one p=>(match sU (p.1,mc (1000000000100000+1000*d) p.2)with
    |some y=>k ((jP (1000000000100000+1000*d) σ p.2).set d y)
    |none=>none)
   |.cP ps=>k ((mM (1000000000100000+1000*d) σ ps).set d (.cP (nJ (1000000000100000+1000*d) ps))))else none)=some r:=h
  cases hN:Nat.blt d N with
  |false=>rw[hN]at h;cases h
  | true=>
   rw[hN,aq]at h;have yH:d<N:=cH hN;cases res with
   | one p=>
    simp only at h;split at h
    ·rename_i y hy
     refine⟨_,h,λah ρ a w v hR iS=>?_⟩
     obtain⟨ρ',ki,gE,_,jm⟩:=Io [p] (1000000000100000+1000*d) 0 σ ρ [v] (by omega) hR iS;have SP:=jm 0 _ v rfl rfl;exact⟨ρ',ki.set (Sk hy SP) yH,gE⟩
    ·cases h
   | cP ot=>
    refine⟨_,h,λah ρ a w v hR iS=>?_⟩
    obtain⟨vs,rfl,hv⟩:=iS;obtain⟨ρ',ki,gE,hlen,jm⟩:=Io ot (1000000000100000+1000*d) 0 σ ρ vs.toList (by omega) hR hv
    refine⟨ρ',ki.set ⟨vs,rfl,by simpa using hlen,λj p hp=>?_⟩ yH,gE⟩
    have hj:j<vs.size:=by
     have:=(dJ.1 hp).1;rw[Nat.add_zero]at hlen;rw[<-hlen]at this
     simpa using this
    exact⟨vs[j],Array.getElem?_eq_getElem hj,jm j p _ hp (by rw[nu,Array.getElem?_eq_getElem hj])⟩
theorem Th{f:Nat}{args:Array Operand}{dV:Array TypeId}{c:pG}{k:S->aj X}(ho:o.op = .call { callee:=.value (.func f),args,argTypes:=dV })(he:enters P f)(hc:wX P f c)(h:nM N σ o.dst c args.toList k=some r):∃ az aL cn,k az=some r/\lF σ c.ps args.toList=some aL/\(∀ n,cc n cn=true->n<N\/60000<=n)/\(∀ mu∈aL,cc mu.root cn=false)/\
  ∀a w K Q ah ρ,Rl w0 N ah ρ σ a w->(∀v w' dD eX uz,Rl w0 N dD uz az (a.put o.dst v) w'->tf w w' ah dD ρ eX ((mN 0 aL).map (·.1)) cn->kQ w0 w w'->(∀r,r<ju o.dst->uz r=eX r)->K (a.put o.dst v) w')->o.wp P a w K Q:=by
 unfold nM at h;split at h
 ·rename_i aL oz;generalize yL:mN 0 aL=eR at h;cases kC:(once eR&&Nat.ble aL.length 40)with
  |false=>rw[kC]at h;cases h
  | true=>
   rw[kC,aq]at h;rw[aJ]at kC;have avB:=cH kC.2;have vz:∀ p∈mN 0 aL,eR.lookup p.1=some p.2:=by
    intro p hp;rw[yL]at hp;have:=c9.1 kC.1 p hp;obtain⟨n,hn,he⟩:=(Option.any_eq_true _ _).1 this;rw[hn,cz he]
   obtain⟨x,h2,hrel,avC,jn⟩:=ML (w0:=w0) (N:=N) _ _ aL _ oz h;clear h;split at h2
   ·rename_i y hy;unfold AT at h2;generalize qN:ox (ju o.dst) (fK c.ro y.1).len aL (jQ (fC c.ps) y.2)=cn at h2;generalize vl:eR.map (·.1)=ns at h2 jn;cases eK:CJ N aL (jQ (fC c.ps) y.2) cn with
    |false=>rw[eK]at h2;cases h2
    | true=>
     rw[eK,aq]at h2;simp only[CJ,aJ]at eK;obtain⟨⟨⟨ok1,ZG⟩,ZH⟩,ok4⟩:=eK;obtain⟨az,h3,CO⟩:=aif (w0:=w0) h2
     refine⟨az,aL,cn,h3,oz,λn hn=>?_,λmu iG=>by simpa using c9.1 ZG mu iG,λa w K Q ah ρ hR hK=>?_⟩
     ·have:=c9.1 ZH n (vD.1 hn);rw[eH]at this;rcases this with h | h
      ·exact .inl (by have:=cH h;omega)
      ·exact .inr (cH h)
     have hS:CG ns ah (fl ah eR id):=by rw[<-vl];exact aib (λb k hb=>(hR.dn b k hb).2.2)
     have ZI:=MK _ _ _ oz;let rs:=aL.map Mu.root
     have gj:∀ j mu,aL[j]?=some mu->rs[0+j]?=some mu.root:=by
      intro j mu hj;rw[fQ,dH,hj];rfl
     have hE:=S9 (rs:=rs) hR hS aL (qR c.ps x) 0 vz gj ZI hrel (by omega);have hA:=jn ah ρ a w (fl ah eR id) (yK w ρ rs) hR hS (qR c.ps x) 0 (λj z hz=>by rw[fQ];exact hz) (λj mu hj=>by
      have h1:=gj j mu hj;rw[fQ]at h1 ⊢;exact Ix h1 (by have:=(dJ.1 hj).1;omega))
     obtain⟨hA1,SC⟩:=E0.get _ _ hA;let nm:Nat->Nat:=λn=>if n<(fK c.ro y.1).len then ju o.dst+n else (AS (ju o.dst) (fK c.ro y.1).len aL).getD (n-(fK c.ro y.1).len) 0
     have jm:∀ (ps:af PK) (i:Nat) (x:nL ps),(m8 ps i x).length=ps.length:=by
      intro ps
      induction ps with
      |nil=>intro i x;rfl
      | cons p ps ih=>
       intro i x;cases p with
       |v=>exact cA (· + 1) (ih _ _)
       |p=>exact cA (· + 1) (ih _ _)
       |s=>exact cA (· + 1) (ih _ _)
     unfold Oper.wp;rw[MD w o a f args dV ho he,Oper.upon_enter];have yI:(args.map a.eval)=(args.toList.map a.eval).toArray:=by apply Array.ext';rw[Array.toList_map]
     rw[yI];have MP:∀ b k,fl ah eR id b=some k->(∃ k',ah b=some k'/\cF k' ns=true)/\k≠[]:=by
      intro b k hb;cases hl:ah b with
      |none=>rw[hS.none b hl]at hb;cases hb
      | some k'=>
       refine⟨⟨k',rfl,?_⟩,?_⟩
       ·cases hq:cF k' ns with
        |true=>rfl
        |false=>rw[(hS.rest b k' hl).2 hq]at hb;cases hb
       ·simp only[fl,hl]at hb;split at hb
        ·cases hb
        ·cases ZJ:eR.lookup _ with
         |none=>rw[ZJ]at hb;cases hb
         |some n=>rw[ZJ]at hb;injection hb with hb;subst hb;simp
     have hQ:Hd w (fl ah eR id):=w0.on hR.below (λb k hb=>by obtain⟨⟨k',hl,_⟩,_⟩:=MP b k hb;exact(hR.dn b k' hl).1)
     refine(hc x y hy nm w (fl ah eR id) (yK w ρ rs) _ hE (λb k hb=>⟨?_,(MP b k hb).2⟩) ?_ SC hQ).mono λe w' s8=>?_
     ·obtain⟨⟨k',hl,_⟩,_⟩:=MP b k hb;exact(hR.dn b k' hl).2.1
     ·rw[List.size_toArray,hA1,jm]
     ·obtain⟨v,ic,rfl,iE,E1,iS,Ti⟩:=s8;have hB:=hR.below.size;let dD:bE:=λb=>match fl ah eR id b with
       |none=>if b<w.heap.size then ah b else ic b
       |some _=>ic b
      have e1:∀ b k,ic b=some k->dD b=some k:=by
       intro b k hb;show (match fl ah eR id b with|none=>if b<w.heap.size then ah b else ic b|some _=>ic b)=some k;split
       next di=>have:=(E1 b k hb).1;have oZ:w.heap.size<=b:=this.resolve_right (λh=>h di);rw[bJ (by omega)];exact hb
       ·exact hb
      have e2:∀ b,w.heap.size<=b->dD b=ic b:=by
       intro b hb;show (match fl ah eR id b with|none=>if b<w.heap.size then ah b else ic b|some _=>ic b)=ic b;split
       ·rw[bJ (by omega)]
       ·rfl
      have ZK:∀ p∈uy w' ρ (ju o.dst) (fK c.ro y.1).len aL (jQ (fC c.ps) y.2),(uy w' ρ (ju o.dst) (fK c.ro y.1).len aL (jQ (fC c.ps) y.2)).lookup p.1=some p.2:=
       ZB (by rw[MN,qN];exact ok1)
      generalize CN:uy w' ρ (ju o.dst) (fK c.ro y.1).len aL (jQ (fC c.ps) y.2)=hd at ZK;have aih:hd.map (·.1)=cn:=by rw[<-CN,MN,qN]
      have hv:tf w w' ah dD ρ (Zz hd ρ) ns cn:=by
       refine⟨iE.size,λb hb hk=>?_,λn hn=>?_,λb k hb=>(hR.dn b k hb).2⟩
       ·have di:fl ah eR id b=none:=by
         cases hl:ah b with
         |none=>exact hS.none b hl
         |some k=>exact(hS.rest b k hl).2 (hk k hl)
        refine⟨iE.block b hb di,?_⟩;show (match fl ah eR id b with|none=>if b<w.heap.size then ah b else ic b|some _=>ic b)=ah b;rw[di];exact bu hb
       ·show (match hd.lookup n with|some v=>Loc.dP v|none=>ρ n)=ρ n;rw[ZA (by rw[aih];exact hn)]
      have AV:∀mu∈aL,cc mu.root cn=false:=λmu iG=>by simpa using c9.1 ZG mu iG
      have ID:=Td (c0:=ju o.dst) (nm:=nm) hR hv e1 e2 hB aL (qR c.ps x) (jQ (fC c.ps) y.2) 0 (fK c.ro y.1).len gj ZI hrel (by omega) Ti (λk n hn=>?_) (λp hp=>?_) AV ok4
      ·have ZL:kQ w0 w w':=by
        refine⟨iE.os,iE.tape,iE.output,iE.size,λk hk hL=>iE.block k (mG hk hB) ?_⟩
        cases hl:ah k with
        |none=>exact hS.none k hl
        |some k'=>exact absurd hL ((hR.dn k k' hl).1.resolve_left (by omega))
       have ki:Rl w0 N dD (Zz hd ρ) (σ.bA ns cn (m9 ns cn (ju o.dst) (fK c.ro y.1).len aL (jQ (fC c.ps) y.2))) a w':=by
        refine hR.kU hv ZL (λb k hb=>?_) (λn hn=>?_) (λn z hz=>?_)
        ·have hb:(match fl ah eR id b with | none=>if b<w.heap.size then ah b else ic b | some _=>ic b)=some k:=hb;have ZM:ic b=some k->(w0.heap.size<=b\/w0.L b≠none)/\b<w'.heap.size/\k≠[]:=by
          intro h1;obtain⟨g1,g2,g3⟩:=E1 b k h1;refine⟨?_,g2,g3⟩;rcases g1 with g1|g1
          ·exact .inl (Nat.le_trans hB g1)
          ·cases di:fl ah eR id b with
           |none=>exact absurd di g1
           | some k2=>
            obtain⟨⟨k',hl,_⟩,_⟩:=MP b k2 di;exact(hR.dn b k' hl).1
         split at hb
         ·split at hb
          ·have:=hR.dn b k hb;exact⟨this.1,mG this.2.1 iE.size,this.2.2⟩
          ·exact ZM hb
         ·exact ZM hb
        ·have:=c9.1 ZH n (vD.1 hn);rw[eH]at this;refine hR.dQ n ?_;rcases this with h | h
         ·exact .inl (by have:=cH h;omega)
         ·exact .inr (cH h)
        ·have uw:(n,z)∈m9 ns cn (ju o.dst) (fK c.ro y.1).len aL (jQ (fC c.ps) y.2):=by
          clear ID;generalize m9 ns cn (ju o.dst) (fK c.ro y.1).len aL (jQ (fC c.ps) y.2)=l at hz
          induction l with
          |nil=>cases hz
          | cons p l ih=>
           rw[List.lookup_cons]at hz;cases hb:n==p.1 with
           | true=>
            rw[hb]at hz;have e:n=p.1:=by simpa using hb
            injection hz with hz;rw[e,<-hz];exact .head _
           | false=>
            rw[hb]at hz;exact .tail _ (ih hz)
         exact ID (n,z) uw
       have aii:sY w' w0.heap.size dD (λn=>ju o.dst+n) (fK c.ro y.1) v:=?_
       ·obtain⟨uz,IE,yM⟩:=CO dD _ a w' v ki aii;exact hK v w' dD _ uz IE (by rw[yL,vl];exact hv) ZL yM
       have Tj:∀(L:Nat),L=(fK c.ro y.1).len->∀n,n<L->nm n=ju o.dst+n:=λL hL n hn=>bu (by omega)
       generalize avD:fK c.ro y.1=res at iS Tj;cases res with
       | one p=>
        have iS:lC w' w.heap.size ic nm 0 [p] [v]:=iS;exact lC.CM [p] 0 [v] iS hB e2 e1 (λn _ hn=>Tj _ rfl n (by simpa [iF.len]using hn))
       | cP ot=>
        obtain⟨vs,e,ia⟩:=iS;exact⟨vs,e,lC.CM ot 0 vs.toList ia hB e2 e1 (λn _ hn=>Tj _ rfl n (by simpa [iF.len]using hn))⟩
      ·show (if (fK c.ro y.1).len+k<(fK c.ro y.1).len then ju o.dst+((fK c.ro y.1).len+k)else (AS (ju o.dst) (fK c.ro y.1).len aL).getD ((fK c.ro y.1).len+k-(fK c.ro y.1).len) 0)=n;rw[bJ (by omega),show (fK c.ro y.1).len+k-(fK c.ro y.1).len=k by omega,iz,hn];rfl
      ·rw[CN]at hp;show (match hd.lookup p.1 with|some v=>Loc.dP v|none=>ρ p.1) = .dP p.2;rw[ZK p hp]
   ·cases h2
 ·cases h
theorem aij{f:Nat}{args:Array Operand}{dV:Array TypeId}{c:pG}{k:S->aj X}(ho:o.op = .call { callee:=.value (.func f),args,argTypes:=dV })(he:enters P f)(hc:wX P f c)(h:nM N σ o.dst c args.toList k=some r):∃ az,k az=some r/\nE P w0 N o σ az:=by
 obtain⟨az,aL,cn,h1,_,_,_,h2⟩:=Th (w0:=w0) ho he hc h
 refine⟨az,h1,λa w K Q hR hK=>?_⟩
 obtain⟨ah,ρ,hR⟩:=hR;exact h2 a w K Q ah ρ hR λv w' dD eX uz aO _ _ _=>hK _ _ ⟨dD,uz,aO⟩
end
end Go.Proofs.YtcioagfjiccleaaGreat
namespace Go.Proofs.YtcioagfjiccleaaGreat
open Go.RowKit
set_option linter.unusedVariables false
def dT:Nat:=89999
def r7(ah:bE)(k:af Nat):bE:=λb=>match ah b with
 |some q=>bif k.isSuffixOf q then some (q.take (q.length-k.length)++[dT])else bif bH dT q then none else some q
 |none=>none
def MQ(σ:S)(c:pG)(args:af Operand)(q:Nat):Bool:=match lF σ c.ps args with
 |some aL=>!cc q ((mN 0 aL).map (·.1))&&aL.any λmu=>Nat.beq mu.root dT
 |none=>false
def CP{X:Type}(N:Nat)(σ:S)(dst:aj Tmp)(c:pG)(args:af Operand)(k:S->aj X):aj X:=
 match args with
 | .tmp t :: _=>(match σ.t t with
  | .lf (.own [j,i,s,q])=>(match σ.m q with
   | some (.sl (.sl tc (o+2) qn l))=>if s=aB tc then (if hi:i<l.length then (match (enc tc o l[i])[j]? with
    | some y=>bif Nat.ble N 20000&&Nat.ble 20000 q&&Nat.blt q 60000&&MQ ((σ.bA [q,dT] [dT] [(dT,.sl y)]).set t (.lf (.own [dT]))) c args q then nM N ((σ.bA [q,dT] [dT] [(dT,.sl y)]).set t (.lf (.own [dT]))) dst c args λτ=>(match τ.m dT with
      | some (.sl y')=>(match dec tc o (splice (enc tc o l[i]) j [y'])with
       |some e=>k ((τ.drop dT).root q (.sl (.sl tc (o+2) qn (l.set i e))))
       |none=>none)
      |_=>none)else none
    |none=>none)else none)else none
   |_=>none)
  |_=>none)
 |_=>none
section
variable {P:Program} {w w':World} {w0:Wd} {B N:Nat} {ah dD aC:bE} {ρ eX ρ':Nat->Loc} {σ:S} {a:Act} {X:Type} {d:Nat} {r:X} {o:Oper} {K:af Nat}
theorem MR{b:Nat}(h:ah b=none):r7 ah K b=none:=by simp[r7,h]
theorem aik{b:Nat}{p:af Nat}(h:ah b=some (p++K)):r7 ah K b=some (p++[dT]):=by
 have h1:K.isSuffixOf (p++K)=true:=List.isSuffixOf_iff_suffix.2 ⟨p,rfl⟩;simp[r7,h,h1]
theorem Tl{b:Nat}{k:af Nat}(h:ah b=some k)(h1:¬ K <:+ k)(h2:bH dT k=false):r7 ah K b=some k:=by
 have h1:K.isSuffixOf k=false:=by
  cases hk:K.isSuffixOf k with
  |false=>rfl
  |true=>exact absurd (List.isSuffixOf_iff_suffix.1 hk) h1
 simp[r7,h,h1,h2]
theorem RV.cut{k:af Nat}{x:V}{v:Value}(h:RV w B ah k x v):∀ p,k=p++K\/x.aA=true->RV w B (r7 ah K) (p++[dT]) x v:=by
 induction h with
 |int=>exact λ_ _=>.int _ _ _
 |bool=>exact λ_ _=>.bool _ _
 |str=>exact λ_ _=>.str _ _
 |nil=>exact λ_ _=>.nil _
 |dc=>exact λ_ _=>.dc _ _ _
 |dg=>exact λ_ _=>.dg _ _ _ _ _ (by first|assumption|omega)
 |dz=>exact λ_ _=>.dz _ _ _ _ _ (by first|assumption|omega)
 | aA k t o qn l b off cap u ho hl hb h1 ey hc hr ih=>
  exact λp _=>.aA _ _ _ _ _ _ _ _ u ho (MR hl) hb h1 ey hc (λi h j x hx=>(ih i h j x hx [] (.inr (lQ t o l[i] ho j x hx))).key (lQ t o l[i] ho j x hx))
 | own k t o qn l b cap cs u hl hh hs hn hm hc hr ih=>
  intro p hp;have hp:k=p++K:=by
   rcases hp with hp|hp
   ·exact hp
   ·simp[V.aA]at hp;omega
  subst hp;exact .own _ _ _ _ _ _ _ cs u (aik hl) hh hs hn hm hc (λi h j x hx=>ih i h j x hx (j::i::aB t::p) (.inl rfl))
theorem RV.ail{k:af Nat}{x:V}{v:Value}(h:RV w B ah k x v)(bg:∀ b,ah b≠some [])(hk:((∀ p,¬ K <:+ p++k)/\bH dT k=false)\/x.aA=true):RV w B (r7 ah K) k x v:=by
 induction h with
 |int=>exact .int _ _ _
 |bool=>exact .bool _ _
 |str=>exact .str _ _
 |nil=>exact .nil _
 |dc=>exact .dc _ _ _
 |dg=>exact .dg _ _ _ _ _ (by first|assumption|omega)
 |dz=>exact .dz _ _ _ _ _ (by first|assumption|omega)
 | aA k t o qn l b off cap u ho hl hb h1 ey hc hr ih=>
  exact .aA _ _ _ _ _ _ _ _ u ho (MR hl) hb h1 ey hc (λi h j x hx=>ih i h j x hx (.inr (lQ t o l[i] ho j x hx)))
 | own k t o qn l b cap cs u hl hh hs hn hm hc hr ih=>
  have hk:(∀ p,¬ K <:+ p++k)/\bH dT k=false:=by
   rcases hk with hk|hk
   ·exact hk
   ·simp[V.aA]at hk;omega
  refine .own _ _ _ _ _ _ _ cs u (Tl hl (hk.1 []) hk.2) hh hs hn hm hc (λi h j x hx=>ih i h j x hx (.inl ⟨λp=>?_,?_⟩))
  ·have:=hk.1 (p++[j,i,aB t])
   rwa [List.append_assoc]at this
  ·have E2:k≠[]:=by rintro rfl;exact bg b hl
   rw[Ml E2];exact hk.2
theorem Rl.aim{t:Nat}{x:A}(h:Rl w0 N ah ρ σ a w)(hx:RA w w0.heap.size ah ρ x (a.tmps.getD t undef)):Rl w0 N ah ρ (σ.set t x) a w:=by
 refine⟨h.below,h.dn,h.root,λk=>?_,h.size,h.defers,h.fix,h.dQ⟩
 show RA w w0.heap.size ah ρ (bP σ.t t x k) (a.tmps.getD k undef);by_cases hk:k=t
 ·subst hk;rw[bY];exact hx
 ·rw[cL _ _ _ hk];exact h.tmp k
theorem Rl.ain{q:Nat}{x:aW}(h:Rl w0 N ah ρ σ a w)(hx:fj w w0.heap.size ah ρ q x):Rl w0 N ah ρ (σ.root q x) a w:=by
 refine⟨h.below,h.dn,λr y hy=>?_,h.tmp,h.size,h.defers,h.fix,h.dQ⟩
 have hy:bP σ.m q (some x) r=some y:=hy;by_cases hr:r=q
 ·subst hr;rw[bY]at hy;injection hy with hy;subst hy;exact hx
 ·rw[cL _ _ _ hr]at hy;exact h.root r y hy
theorem kQ.aio(h:Rl w0 N ah ρ σ a w):kQ w0 w w:=⟨rfl,rfl,rfl,gZ _,λ_ _ _=>rfl⟩
theorem aip{f:Nat}{args:Array Operand}{dV:Array TypeId}{c:pG}{k:S->aj X}(ho:o.op = .call { callee:=.value (.func f),args,argTypes:=dV })(he:enters P f)(hc:wX P f c)(h:CP N σ o.dst c args.toList k=some r):∃ az,k az=some r/\nE P w0 N o σ az:=by
 unfold CP at h;split at h
 ·rename_i t rest jn;split at h
  ·rename_i j i s q ht;split at h
   ·rename_i tc oo qn l hm;split at h
    ·rename_i hs;subst hs;split at h
     ·rename_i hi;split at h
      ·rename_i y hy;generalize aiq:((σ.bA [q,dT] [dT] [(dT,.sl y)]).set t (.lf (.own [dT])))=nc at h;cases hb:(Nat.ble N 20000&&Nat.ble 20000 q&&Nat.blt q 60000&&MQ nc c args.toList q)with
       |false=>rw[hb]at h;cases h
       | true=>
        rw[hb,aq]at h;simp only[aJ]at hb;obtain⟨⟨⟨hN,pX⟩,qM⟩,MS⟩:=hb;have hN:=cH hN;have pX:=cH pX;have qM:q<60000:=cH qM;obtain⟨τ,aL,cn,hk,oz,qN,AV,Ip⟩:=Th (w0:=w0) ho he hc h;clear h;unfold MQ at MS;rw[oz]at MS;simp only[aJ,hD]at MS;obtain⟨H7,hdT⟩:=MS;obtain⟨mu,iG,Tn⟩:=List.any_eq_true.1 hdT;have Tn:=cz Tn;have air:cc dT cn=false:=by rw[<-Tn];exact AV mu iG
        have ais:cc q cn=false:=by
         cases hx:cc q cn with
         |false=>rfl
         |true=>have:=qN q hx;omega
        have To:q≠dT:=by unfold dT;omega
        split at hk
        ·rename_i y' fP;split at hk
         ·rename_i e IF
          refine⟨_,hk,λa w KK Q hR hK=>?_⟩
          obtain⟨ah,ρ,hR⟩:=hR;have bg:=hR.yu;have ait:w0.F dT=none:=hR.dQ dT (.inr (by decide));have cQ:=hR.root q _ hm;generalize hx:aW.sl (.sl tc (oo+2) qn l)=x at cQ;cases cQ with
          |ax=>cases hx
          |mp=>cases hx
          |gh=>cases hx
          | sl v yq aM hr=>
           injection hx with hx;subst hx;cases hr with
           |dc=>simp at hi
           |dg=>simp at hi
           |dz=>simp at hi
           |aA _ _ _ _ _ _ _ _ _ ho=>omega
           | own _ _ _ _ _ b cap cs u hl hh hs hn uj Tp kY=>
            have hKv:wG σ.m [j,i,aB tc,q] y:=.elem j i [q] tc oo qn l y (.root q _ hm) hi hy;obtain⟨u0,kS,aiu⟩:=hKv.ok hR.root;have vw:=hR.tmp t;rw[ht]at vw;have fG:a.tmps.getD t undef=u0:=by
             have h2:=vw.2;rw[kS]at h2;injection h2 with h2;exact h2.symm
            have aiv:u0=u i j:=by
             have h3:cE w ah ρ [j,i,aB tc,q]=some (u i j):=by
              rw[Mf,Cj j i (aB tc) (q:=[q]) (show cE w ah ρ [q]=some (.slice (some ⟨b,0,none⟩) l.length cap) by simp only[cE,aM]) hl];show w.cell? _=_;rw[cell_of_row w b _ cs _ _ hh];exact Tp i hi j y hy
             rw[kS]at h3;injection h3
            have gM:oe u0=true:=by rw[<-fG];exact vw.1
            -- the state that the callee's caller sees
            have Im:∀ k:af Nat,cF k [q,dT]=false->bH q k=false/\bH dT k=false:=by
             intro k hk;unfold cF at hk;unfold bH;split at hk
             next z hz=>rw[hz];have:=Zt hk;simp only[iL,List.not_mem_nil,or_false,not_or]at this;exact⟨by simpa using this.1,by simpa using this.2⟩
             next hz=>rw[hz];exact⟨rfl,rfl⟩
            have hKq:∀ k:af Nat,[j,i,aB tc,q] <:+ k->bH q k=true:=by
             rintro k ⟨p,rfl⟩;simp[bH]
            have wP:tf w w ah (r7 ah [j,i,aB tc,q]) ρ (bP ρ dT (.dP u0)) [q,dT] [dT]:=by
             refine⟨gZ _,λb' ug dU=>⟨rfl,?_⟩,λn hn=>?_,λb' k dU=>(hR.dn b' k dU).2⟩
             ·cases dB:ah b' with
              |none=>exact MR dB
              | some k=>
               obtain⟨g1,g2⟩:=Im k (dU k dB);exact Tl dB (λnD=>by rw[hKq k nD]at g1;cases g1) g2
             ·refine cL _ _ _ ?_;rintro rfl;simp[cc]at hn
            have dZ:∀ b' k,r7 ah [j,i,aB tc,q] b'=some k->(∃ k',ah b'=some k')/\k≠[]:=by
             intro b' k dU;cases dB:ah b' with
             |none=>rw[MR dB]at dU;cases dU
             | some k'=>
              refine⟨⟨k',rfl⟩,?_⟩;unfold r7 at dU;rw[dB]at dU;simp only at dU;cases h1:List.isSuffixOf [j,i,aB tc,q] k' with
              | true=>
               rw[h1,aq]at dU;injection dU with dU;rw[<-dU];simp
              | false=>
               rw[h1,au]at dU;cases h2:bH dT k' with
               |true=>rw[h2,aq]at dU;cases dU
               | false=>
                rw[h2,au]at dU;injection dU with dU;rw[<-dU];exact(hR.dn b' k' dB).2.2
            have r8:Rl w0 N (r7 ah [j,i,aB tc,q]) (bP ρ dT (.dP u0)) (σ.bA [q,dT] [dT] [(dT,.sl y)]) a w:=by
             refine hR.kU wP (kQ.aio hR) (λb' k dU=>?_) (λn hn=>?_) (λn z hz=>?_)
             ·obtain⟨⟨k',dB⟩,E2⟩:=dZ b' k dU;have:=hR.dn b' k' dB;exact⟨this.1,this.2.1,E2⟩
             ·have:n=dT:=by simpa [cc]using hn
              rw[this];exact ait
             ·have hn:n=dT/\z = .sl y:=by
               rw[List.lookup_cons]at hz;cases xe:(n==dT)with
               |false=>rw[xe]at hz;cases hz
               | true=>
                rw[xe]at hz;injection hz with hz;exact⟨by simpa using xe,hz.symm⟩
              obtain⟨rfl,rfl⟩:=hn;exact .sl u0 y (bY _ _ _) (aiu.cut [] (.inl rfl))
            have ki:Rl w0 N (r7 ah [j,i,aB tc,q]) (bP ρ dT (.dP u0)) nc a w:=by
             rw[<-aiq];refine r8.aim ?_;rw[fG];exact⟨gM,by simp only[cE,bY]⟩
            refine Ip a w KK Q _ _ ki λvv w' dD eX uz IE yF iE yM=>?_
            -- behind the call
            have vC:90000<=ju o.dst:=by unfold ju;split<;>omega
            have aiw:uz dT = .dP u0:=by
             rw[yM dT (by unfold dT;omega),yF.eW dT air,bY]
            have aix:uz q = .dP (.slice (some ⟨b,0,none⟩) l.length cap):=by
             rw[yM q (by omega),yF.eW q ais,cL _ _ _ To,aM]
            have cQ:=IE.root dT _ fP;generalize hx:aW.sl y'=x at cQ;cases cQ with
            |ax=>cases hx
            |mp=>cases hx
            |gh=>cases hx
            | sl v' y'' gE dA=>
             injection hx with hx;subst hx;rw[aiw]at gE;injection gE with gE;subst gE;have Tq:=IE.yu;have hrel:Rel dT dD (dD.jD dT [j,i,aB tc,q]):=HX Tq;have ZN:bH dT [q]=false:=by simpa [bH]using λe=>To e
             have E1:r7 ah [j,i,aB tc,q] b=some [q]:=Tl hl (λnD=>by have:=nD.length_le;simp at this) ZN;have aiy:cF [q] ((mN 0 aL).map (·.1))=false:=H7;obtain⟨g1,g2⟩:=yF.same b (yF.ah b _ E1).1 (λk dU=>by rw[E1]at dU;injection dU with dU;subst dU;exact aiy);have aiz:dD b=some [q]:=g2.trans E1;have aiA:dD.jD dT [j,i,aB tc,q] b=some [q]:=hrel.iD b _ aiz ZN;have hR4:=IE.rel hrel (λb' k dU=>by
              unfold bE.jD at dU;cases dB:dD b' with
              |none=>rw[dB]at dU;cases dU
              | some k'=>
               rw[dB]at dU;injection dU with dU;subst dU;exact⟨⟨k',rfl⟩,YP (by simp) (λe=>Tq b' (by rw[dB,e]))⟩)
             refine hK _ _ ⟨_,uz,hR4.ain (.sl _ _ aix ?_)⟩;have hj:j<aB tc:=by
              have:=(dJ.1 hy).1
              rwa [lO]at this
             refine RV.Mh (w':=w') (cs:=cs) (xs:=[y']) (u:=u) (us:=u) aiA (g1.trans hh) hs hn uj hi (show j+1<=aB tc from hj) IF (λi' vF j' x hx qU=>⟨Tp i' vF j' x hx,?_⟩) (λn x hx=>?_)
             ·have yw:=kY i' vF j' x hx;have aiB:¬ (i'=i/\j'=j):=λe=>qU ⟨e.1,by simp;omega⟩
              have ZO:bH dT [j',i',aB tc,q]=false:=by simpa [bH]using λe=>To e
              have a1:=yw.ail (K:=[j,i,aB tc,q]) bg (.inl ⟨λp nD=>?_,ZO⟩)
              ·have a2:=a1.kU yF (.inl (by simpa [cF]using H7));exact a2.rel hrel (.inl ZO)
              ·have e1:[j,i,aB tc,q]=[j',i',aB tc,q]:=Sd nD ⟨p,rfl⟩ rfl;injection e1 with e1 e2;injection e2 with e2 e3;exact aiB ⟨e2.symm,e1.symm⟩
             ·cases n with
              | zero=>
               simp only[List.getElem?_cons_zero,gp]at hx;subst hx;refine⟨Tp i hi j y hy,?_⟩;have:=dA.jD (q:=dT) (nk:=[j,i,aB tc,q]) Tq;rw[YO,aiv]at this;exact this
              |succ n=>simp at hx
         ·cases hk
        ·cases hk
      ·cases h
     ·cases h
    ·cases h
   ·cases h
  ·cases h
 ·cases h
theorem aiC{dst:aj Tmp}{c:pG}{args:af Operand}{k:S->aj X}(hcm:∀ {X:Type} {σ:S} {k:S->aj X} {r:X},nM N σ dst c args k=some r->∃ τ,k τ=some r/\∀ (X:Type) (k:S->aj X),nM N σ dst c args k=k τ)(h:CP N σ dst c args k=some r):
  ∃τ,k τ=some r/\∀(X:Type) (k:S->aj X),CP N σ dst c args k=k τ:=by
 unfold CP at h;split at h
 ·rename_i t rest;split at h
  ·rename_i j i s q ht;split at h
   ·rename_i tc oo qn l hm;split at h
    ·rename_i hs;split at h
     ·rename_i hi;split at h
      ·rename_i y hy;generalize hb:(Nat.ble N 20000&&Nat.ble 20000 q&&Nat.blt q 60000&&MQ ((σ.bA [q,dT] [dT] [(dT,.sl y)]).set t (.lf (.own [dT]))) c (.tmp t :: rest) q)=b at h;cases b with
       |false=>cases h
       | true=>
        rw[aq]at h;obtain⟨τ,h1,h2⟩:=hcm h;split at h1
        ·rename_i y' fP;split at h1
         ·rename_i e IF;exact⟨_,h1,λX k=>by
           simp only[CP,ht,hm,hs,if_true,hi,aK,hy];subst hs;rw[hb,aq,h2];simp only[fP,IF]⟩
         ·cases h1
        ·cases h1
      ·cases h
     ·cases h
    ·cases h
   ·cases h
  ·cases h
 ·cases h
end
end Go.Proofs.YtcioagfjiccleaaGreat
namespace Go.Proofs.YtcioagfjiccleaaGreat
open Go.RowKit
set_option linter.unusedVariables false
def cD{α:Type}(f:(X:Type)->(α->aj X)->aj X)(y:α):Prop:=∀(X:Type) (k:α->aj X),f X k=k y
section
variable {P:Program} {N:Nat} {σ:S} {X:Type} {r:X} {d:Nat} {m:Nat->aj aW}
theorem uA:∀ (q:af Nat) (k:V->aj X),gV m q k=some r->∃ y,k y=some r/\wG m q y/\cD (λX k=>gV (X:=X) m q k) y
 |[],_,h=>by simp[gV]at h
 | [x],k,h=>by
  simp only[gV]at h;split at h
  next y hy=>exact⟨y,h,.root x y hy,λX k=>by simp only[gV,hy]⟩
  ·cases h
 |[_,_],_,h=>by simp[gV]at h
 | j :: i :: s :: q,k,h=>by
  simp only[gV]at h;obtain⟨y,h2,hg,hd⟩:=uA q _ h;clear h;split at h2
  ·split at h2
   ·rename_i hs;subst hs;split at h2
    ·rename_i hi;split at h2
     ·rename_i z hz;exact⟨z,h2,.elem j i q _ _ _ _ z hg hi hz,λX k=>by
       simp only[gV];exact(hd X _).trans (by simp only[if_true,aK hi,hz])⟩
     ·cases h2
    ·cases h2
   ·cases h2
  ·cases h2
theorem E3{x:Lf}{k:V->aj X}(h:jY σ x k=some r):∃ y,k y=some r/\cD (λX k=>jY (X:=X) σ x k) y:=by
 cases x with
 |v z=>exact⟨z,h,λX k=>rfl⟩
 |own q=>obtain⟨y,h1,_,h2⟩:=uA q k h;exact⟨y,h1,h2⟩
 |dead=>cases h
theorem ZP{q:af Nat}{s i j:Nat}{k:V->aj X}(h:um σ q s i j k=some r):∃ y,k y=some r/\cD (λX k=>um (X:=X) σ q s i j k) y:=by
 obtain⟨y,h1,_,h2⟩:=uA q _ h;split at h1
 ·rename_i z hz;exact⟨z,h1,λX k=>by
   simp only[um];exact(h2 X _).trans (by simp only[hz])⟩
 ·cases h1
theorem Tr{x:A}{k:V->aj X}(h:rS σ x k=some r):∃ y,k y=some r/\cD (λX k=>rS (X:=X) σ x k) y:=by
 unfold rS at h;split at h
 ·exact E3 h
 ·exact ZP h
 ·cases h
theorem Ts{x:A}{k:V->aj X}(h:vK x k=some r):∃ y,k y=some r/\cD (λX k=>vK (X:=X) x k) y:=by
 obtain⟨y,rfl,h⟩:=Mi h;exact⟨y,h,λX k=>rfl⟩
theorem aiD{ty:TypeId}{op:BinOp}{x y:V}{k:V->aj X}(h:o6 P ty op x y k=some r):∃ z,k z=some r/\cD (λX k=>o6 (X:=X) P ty op x y k) z:=by
 unfold o6 at h;split at h
 ·rename_i kx a ky b;split at h
  ·split at h
   ·cases h
   next hb=>exact⟨_,h,λX k=>by simp only[o6,bJ hb]⟩
  ·split at h
   ·cases h
   next hb=>exact⟨_,h,λX k=>by simp only[o6,bJ hb]⟩
  ·rename_i h1 h2;split at h
   ·rename_i hk;subst hk;cases op
    case shl=>exact absurd rfl h1
    case shr=>exact absurd rfl h2
    case quo=>
     by_cases hb:b=0
     ·simp only[hb,if_true]at h;cases h
     ·simp only[hb,if_false]at h;exact⟨_,h,λX k=>by simp only[o6,if_true,bJ hb]⟩
    case rem=>
     by_cases hb:b=0
     ·simp only[hb,if_true]at h;cases h
     ·simp only[hb,if_false]at h;exact⟨_,h,λX k=>by simp only[o6,if_true,bJ hb]⟩
    all_goals first
     |(refine⟨_,h,λX k=>?_⟩;simp only[o6,if_true];done)
     |cases h
   ·cases h
 ·split at h
  ·rename_i HS;split at h
   ·exact⟨_,h,λX k=>by simp only[o6,HS]⟩
   ·exact⟨_,h,λX k=>by simp only[o6,HS]⟩
   ·cases h
  ·cases h
 ·rename_i a b;split at h
  ·cases hL:bZ (a.size+b.size)with
   |false=>rw[hL]at h;cases h
   |true=>rw[hL]at h;exact⟨_,h,λX k=>by simp only[o6,hL,aq]⟩
  ·exact⟨_,h,λX k=>by simp only[o6]⟩
  ·exact⟨_,h,λX k=>by simp only[o6]⟩
  ·cases h
 ·cases h
theorem aiE{op:BinOp}{t:TypeId}{x y:A}{k:A->aj X}(h:om P σ op t x y k=some r):∃ z,k z=some r/\cD (λX k=>om (X:=X) P σ op t x y k) z:=by
 unfold om at h;split at h
 ·rename_i ng cs ds iR;split at h
  ·rename_i xs ys iQ m7;generalize hg:(P.eqGuardType P.depth t || !isStr P t)=g at h;cases g with
   |true=>cases h
   | false=>
    rw[au]at h;split at h
    next b hb=>exact⟨_,h,λX k=>by simp only[om,iR,iQ,m7,hg,au,hb]⟩
    ·cases h
  ·cases h
 ·rename_i ng l iR;split at h
  ·rename_i e he;obtain⟨z,h2,hd⟩:=E3 h;clear h;split at h2
   ·exact⟨_,h2,λX k=>by
     simp only[om,iR,he];exact hd X _⟩
   ·exact⟨_,h2,λX k=>by
     simp only[om,iR,he];exact hd X _⟩
   ·rename_i t' o' l';cases hl:kT l' with
    |true=>rw[hl]at h2;cases h2
    | false=>
     rw[hl,au]at h2;exact⟨_,h2,λX k=>by
      simp only[om,iR,he];exact(hd X _).trans (by simp only[hl,au])⟩
   ·cases h2
  ·cases h
 ·rename_i x' y' _ _ _ h1 s7;obtain⟨u0,k1,CA⟩:=Ts h;obtain⟨v0,k2,lG⟩:=Ts k1;obtain⟨z,k3,CQ⟩:=aiD k2
  refine⟨_,k3,λX k=>?_⟩
  have e1:om P σ op t x' y' k=vK x' λa=>vK y' λb=>o6 P t op a b λz=>k (.lf (.v z)):=by
   unfold om;split
   next ng cs ds iR=>exact(h1 ng cs ds iR rfl rfl).elim
   next ng l iR=>exact(s7 ng l iR rfl rfl).elim
   ·rfl
  exact e1.trans ((CA _ _).trans ((lG _ _).trans (CQ _ _)))
theorem aiF{op:UnOp}{x:V}{k:V->aj X}(h:EM op x k=some r):∃ z,k z=some r/\cD (λX k=>EM (X:=X) op x k) z:=by
 unfold EM at h;split at h
 ·exact⟨_,h,λX k=>rfl⟩
 ·exact⟨_,h,λX k=>rfl⟩
 ·cases h
theorem yN{t:TypeId}{cs:af Lf}{k:A->aj X}(h:m6 P t cs k=some r):∃ y,k y=some r/\cD (λX k=>m6 (X:=X) P t cs k) y:=by
 unfold m6 at h;split at h
 ·rename_i n hn;split at h
  ·rename_i hl;split at h
   next hr=>exact⟨_,h,λX k=>by simp only[m6,hn,bu hl,hr]⟩
   ·rename_i hr;split at h
    ·exact⟨_,h,λX k=>by simp only[m6,hn,bu hl,hr]⟩
    ·cases h
   ·cases h
  ·cases h
 ·cases h
theorem IG{t:TypeId}{x:A}{k:A->aj X}(h:lu P σ t x k=some r):∃ y,k y=some r/\cD (λX k=>lu (X:=X) P σ t x k) y:=by
 unfold lu at h;split at h
 ·cases h
 ·rename_i n hn;split at h
  ·split at h
   next cs dL=>obtain⟨y,h1,h2⟩:=yN h;exact⟨y,h1,λX k=>by simp only[lu,hn,dL];exact h2 X k⟩
   ·cases h
  ·obtain⟨y,h1,h2⟩:=yN h;exact⟨y,h1,λX k=>by simp only[lu,hn];exact h2 X k⟩
  ·rename_i j i s q;obtain⟨z,h2,_,hd⟩:=uA _ _ h;clear h;split at h2
   ·split at h2
    ·rename_i hs;split at h2
     ·rename_i hi;obtain⟨y,h3,h4⟩:=yN h2;exact⟨y,h3,λX k=>by
       simp only[lu,hn];exact(hd X _).trans (by simp only[bu hs,aK hi];exact h4 X k)⟩
     ·cases h2
    ·cases h2
   ·cases h2
  ·cases h
theorem aiG{s:TypeId}{x:A}{f:Nat}{k:A->aj X}(h:wI P s x f k=some r):∃ y,k y=some r/\cD (λX k=>wI (X:=X) P s x f k) y:=by
 unfold wI at h;split at h
 ·cases h
 ·rename_i fd qG;split at h
  ·rename_i n hn;split at h
   ·exact⟨_,h,λX k=>by simp only[wI,qG,hn]⟩
   ·exact⟨_,h,λX k=>by simp only[wI,qG,hn]⟩
   ·exact⟨_,h,λX k=>by simp only[wI,qG,hn]⟩
   ·cases h
  ·cases h
theorem aiH{t:TypeId}{x i:A}{k:A->aj X}(h:qF P σ t x i k=some r):∃ y,k y=some r/\cD (λX k=>qF (X:=X) P σ t x i k) y:=by
 unfold qF at h;split at h
 ·cases h
 ·rename_i e he;split at h
  ·rename_i n kk iv hn;split at h
   ·rename_i t' g qn l;split at h
    ·rename_i n8;cases hg:Nat.blt g 2 with
     |false=>rw[hg]at h;cases h
     | true=>
      rw[hg,aq]at h;split at h
      next hb=>exact⟨_,h,λX k=>by simp only[qF,he,hn,bu n8,hg,aq,aK hb]⟩
      ·cases h
    ·cases h
   ·rename_i q;obtain⟨z,h2,_,hd⟩:=uA _ _ h;clear h;split at h2
    ·split at h2
     ·rename_i n8;split at h2
      ·rename_i hb;rename_i t' g qn l _;cases wJ:Nat.blt g 2 with
       | true=>
        rw[wJ,aq]at h2;exact⟨_,h2,λX k=>by
         simp only[qF,he,hn];exact(hd X _).trans (by simp only[bu n8,aK hb,wJ,aq])⟩
       | false=>
        rw[wJ,au]at h2;exact⟨_,h2,λX k=>by
         simp only[qF,he,hn];exact(hd X _).trans (by simp only[bu n8,aK hb,wJ,au])⟩
      ·cases h2
     ·cases h2
    ·cases h2
   ·cases h
  ·cases h
theorem aiI{t:TypeId}{x:A}{k:A->aj X}(h:pW P σ t x k=some r):∃ y,k y=some r/\cD (λX k=>pW (X:=X) P σ t x k) y:=by
 unfold pW at h;split at h
 ·obtain⟨z,h2,hd⟩:=E3 h;clear h;split at h2
  ·split at h2
   next he=>exact⟨_,h2,λX k=>by simp only[pW];exact(hd X _).trans (by simp only[he])⟩
   ·cases h2
  ·split at h2
   next he=>exact⟨_,h2,λX k=>by simp only[pW];exact(hd X _).trans (by simp only[he])⟩
   ·cases h2
  ·split at h2
   next he=>exact⟨_,h2,λX k=>by simp only[pW];exact(hd X _).trans (by simp only[he])⟩
   ·cases h2
  ·cases h2
 ·split at h
  next he=>exact⟨_,h,λX k=>by simp only[pW,he]⟩
  ·cases h
 ·cases h
theorem aiJ{x:A}{i:Nat}{k:A->aj X}(h:ym x i k=some r):∃ y,k y=some r/\cD (λX k=>ym (X:=X) x i k) y:=by
 unfold ym at h;split at h
 ·split at h
  next y hy=>exact⟨y,h,λX k=>by simp only[ym,hy]⟩
  ·cases h
 ·cases h
theorem aiK{t:TypeId}{parts:af (Nat×Operand)}{k:A->aj X}(h:wN P σ t parts k=some r):∃ y,k y=some r/\cD (λX k=>wN (X:=X) P σ t parts k) y:=by
 unfold wN at h;split at h
 ·rename_i z pl hz iP;split at h
  next cs dL=>exact⟨_,h,λX k=>by simp only[wN,hz,iP,dL]⟩
  ·cases h
 ·cases h
theorem aiL{s:TypeId}{x:A}{f:Nat}{k:A->aj X}(h:AF P s x f k=some r):∃ y,k y=some r/\cD (λX k=>AF (X:=X) P s x f k) y:=by
 unfold AF at h;split at h
 ·rename_i fd cs qG;split at h
  ·rename_i n hn hr;split at h
   next hle=>exact⟨_,h,λX k=>by simp only[AF,qG,hn,hr,bu hle]⟩
   ·cases h
  ·rename_i n hn hr;split at h
   next y hy=>exact⟨_,h,λX k=>by simp only[AF,qG,hn,hr,hy]⟩
   ·cases h
  ·cases h
 ·cases h
theorem ZQ{mx:Bool}{x y:A}{k:A->aj X}(h:Cy mx x y k=some r):∃ z,k z=some r/\cD (λX k=>Cy (X:=X) mx x y k) z:=by
 unfold Cy at h;split at h
 ·exact⟨_,h,λX k=>rfl⟩
 ·cases h
theorem aiM{t:TypeId}{x i:A}{k:A->aj X}(h:Cz P t x i k=some r):∃ z,k z=some r/\cD (λX k=>Cz (X:=X) P t x i k) z:=by
 unfold Cz at h;split at h
 ·split at h
  ·rename_i hu;split at h
   next hb=>exact⟨_,h,λX k=>by simp only[Cz,hu,aK hb]⟩
   ·cases h
  ·cases h
 ·cases h
theorem aiN{src dst:TypeId}{z:V}{k:A->aj X}(h:yD P src dst z k=some r):∃ y,k y=some r/\cD (λX k=>yD (X:=X) P src dst z k) y:=by
 unfold yD at h;split at h
 ·cases ht:AH P src dst with
  |false=>rw[ht]at h;cases h
  |true=>rw[ht,aq]at h;exact⟨_,h,λX k=>by simp only[yD,ht,aq]⟩
 ·cases ht:AH P src dst with
  |false=>rw[ht]at h;cases h
  |true=>rw[ht,aq]at h;exact⟨_,h,λX k=>by simp only[yD,ht,aq]⟩
 ·cases h
theorem aiO{src dst:TypeId}{x:A}{k:A->aj X}(h:pY P σ src dst x k=some r):∃ z,k z=some r/\cD (λX k=>pY (X:=X) P σ src dst x k) z:=by
 unfold pY at h;split at h
 ·split at h
  next d1 kd h1 h2=>exact⟨_,h,λX k=>by simp only[pY,h1,h2]⟩
  ·cases h
 ·rename_i y hy;obtain⟨z,h2,hd⟩:=E3 h;obtain⟨y',h3,lG⟩:=aiN h2
  refine⟨_,h3,λX k=>?_⟩
  have:pY P σ src dst (.lf y) k=jY σ y λz=>yD P src dst z k:=by
   unfold pY;split
   next n e=>injection e with e;exact(hy _ _ e).elim
   next e=>injection e with e;subst e;rfl
   next h' =>exact absurd rfl (h' _)
  show pY P σ src dst (.lf y) k=k y';rw[this];exact(hd X _).trans (lG X k)
 ·cases h
end
end Go.Proofs.YtcioagfjiccleaaGreat
namespace Go.Proofs.YtcioagfjiccleaaGreat
open Go.RowKit
set_option linter.unusedVariables false
section
variable {P:Program} {N:Nat} {σ:S} {X:Type} {r:X} {d:Nat} {m:Nat->aj aW} {o:Oper}
theorem cD.at_{α:Type}{f:(X:Type)->(α->aj X)->aj X}{y:α}(h:cD f y){X:Type}(k:α->aj X):f X k=k y:=h X k
theorem yO{x:aW}{y:A}{k:S->aj X}(h:jO N σ d x y k=some r):k (((σ.drop d).root d x).set d y)=some r/\cD (λX k=>jO (X:=X) N σ d x y k) (((σ.drop d).root d x).set d y):=by
 unfold jO at h;cases hN:Nat.blt d N with
 |false=>rw[hN]at h;cases h
 |true=>rw[hN]at h;exact⟨h,λX k=>by simp only[jO,hN,aq]⟩
theorem ZR{e:TypeId}{k:S->aj X}(h:uq P N σ d e k=some r):∃ x y,k (((σ.drop d).root d x).set d y)=some r/\y = .aG d 0/\(∀ (az:S),cD (λX k=>uq (X:=X) P N az d e k) (((az.drop d).root d x).set d y)):=by
 unfold uq at h;split at h
 ·rename_i z hz;obtain⟨h1,_⟩:=yO h
  refine⟨_,_,h1,rfl,λaz X k=>?_⟩
  obtain⟨hN,_⟩:=qH h;have hb:Nat.blt d N=true:=jV hN;simp only[uq,hz,jO,hb,aq]
 ·cases h
theorem Tt{t:TypeId}{l c:A}{k:S->aj X}(h:Cq P N σ d t l c k=some r):∃ y,k (((σ.drop d).root d (.sl y)).set d (.lf (.own [d])))=some r/\(∀ (az:S),cD (λX k=>Cq (X:=X) P N az d t l c k) (((az.drop d).root d (.sl y)).set d (.lf (.own [d])))):=by
 unfold Cq at h;split at h
 ·rename_i e tc kl n kc c gN;split at h
  ·cases h
  ·rename_i z hz;split at h
   ·rename_i hb;obtain⟨h1,_⟩:=yO h
    refine⟨_,h1,λaz X k=>?_⟩
    obtain⟨hN,_⟩:=qH h;have fT:Nat.blt d N=true:=jV hN;simp only[Cq,gN,hz,bu hb,jO,fT,aq]
   ·cases h
 ·cases h
theorem Tu{t:TypeId}{len:Nat}{parts:af (Nat×Operand)}{k:S->aj X}(h:Cx P N σ d t len parts k=some r):∃ y,k (((σ.drop d).root d (.sl y)).set d (.lf (.own [d])))=some r/\
  (∀(az:S),(∀p∈parts,aF az p.2=aF σ p.2)->cD (λX k=>Cx (X:=X) P N az d t len parts k) (((az.drop d).root d (.sl y)).set d (.lf (.own [d])))):=by
 unfold Cx at h;split at h
 ·rename_i e tc gN;split at h
  ·rename_i z hz;cases hc:(Nat.beq (full tc) 0&&Nat.beq z.cells.size (aB tc)&&Nat.blt (len*aB tc) 16777217)with
   |false=>rw[hc]at h;cases h
   | true=>
    rw[hc,aq]at h;split at h
    ·rename_i cs dL;split at h
     ·rename_i vs ia;split at h
      ·rename_i l hl;obtain⟨h1,_⟩:=yO h
       refine⟨_,h1,λaz II X k=>?_⟩
       obtain⟨hN,_⟩:=qH h;have fT:Nat.blt d N=true:=jV hN;have e:(parts.map λp=>(p.1,aF az p.2))=parts.map λp=>(p.1,aF σ p.2):=lK λp hp=>by rw[II p hp]
       simp only[Cx,gN,hz,hc,aq,e,dL,ia,hl,jO,fT]
      ·cases h
     ·cases h
    ·cases h
  ·cases h
 ·cases h
theorem ZS{t:TypeId}{q:af Nat}{dh:aj Nat}{lo hi:aj A}{k:A->aj X}(h:qa P σ t q dh lo hi k=some r):∃ y,k y=some r/\cD (λX k=>qa (X:=X) P σ t q dh lo hi k) y:=by
 unfold qa at h;split at h
 ·rename_i e he;split at h
  ·rename_i n hn;obtain⟨y,h1,_,hd⟩:=uA q _ h;obtain⟨tc,g,qn,xs,l,m,rfl,n8,e1,e2,b1,b2,b3,h3,hf⟩:=Zg h1
   refine⟨_,h3,λX k=>?_⟩
   simp only[qa,he,hn];exact(hd X _).trans (hf X k)
  ·cases h
 ·cases h
theorem aiP{t:TypeId}{x:A}{lo hi:aj A}{k:A->aj X}(h:sX P σ t x lo hi k=some r):∃ y,k y=some r/\cD (λX k=>sX (X:=X) P σ t x lo hi k) y:=by
 unfold sX at h;split at h
 ·exact ZS h
 ·exact ZS h
 ·rename_i hx;obtain⟨y,h1,hd,_⟩:=Zf h
  refine⟨y,h1,λX k=>?_⟩
  simp only[sX];exact hd X k
theorem aiQ{t:TypeId}{x y:A}{k:S->aj X}(h:rW P N σ d t x y k=some r):∃ τ,k τ=some r/\cD (λX k=>rW (X:=X) P N σ d t x y k) τ:=by
 unfold rW at h;split at h
 ·rename_i e tc gN;cases hc:(Nat.beq (full tc) 0&&(zeroOf P e).any (λz=>Nat.beq z.cells.size (aB tc)))with
  |false=>rw[hc]at h;cases h
  | true=>
   rw[hc,aq]at h;obtain⟨yv,h2,hd⟩:=Tr h;clear h;split at h2
   ·cases h2
   ·rename_i l2 gF;split at h2
    ·cases hL:bZ l2.length with
     |false=>rw[hL]at h2;cases h2
     | true=>
      rw[hL,aq]at h2;obtain⟨h3,h4⟩:=yO h2;exact⟨_,h3,λX k=>by
       simp only[rW,gN,hc,aq];exact(hd.at_ _).trans (by simp only[gF,hL,aq];exact h4 X k)⟩
    ·rename_i rr;split at h2
     ·rename_i t' o q l hm;split at h2
      ·rename_i gG;cases hL:(Nat.blt d N&&(Nat.blt rr N || Nat.ble 60000 rr)&&bZ (l.length+l2.length))with
       |false=>rw[hL]at h2;cases h2
       | true=>
        rw[hL,aq]at h2;exact⟨_,h2,λX k=>by
         simp only[rW,gN,hc,aq];exact(hd.at_ _).trans (by simp only[gF,hm,aK gG,hL,aq])⟩
      ·cases h2
     ·cases h2
    ·cases h2
 ·cases h
theorem ZT:∀ (q:af Nat) (y:V) (k:(Nat->aj aW)->aj X),qE m q y k=some r->∃ m',k m'=some r/\cD (λX k=>qE (X:=X) m q y k) m'
 |[],_,_,h=>by simp[qE]at h
 | [x],y,k,h=>by
  simp only[qE]at h;split at h
  next y0 hy=>exact⟨_,h,λX k=>by simp only[qE,hy]⟩
  ·cases h
 |[_,_],_,_,h=>by simp[qE]at h
 | j :: i :: s :: q,y,k,h=>by
  simp only[qE]at h;obtain⟨z,h2,_,hd⟩:=uA q _ h;clear h;split at h2
  ·split at h2
   ·rename_i hs;split at h2
    ·rename_i hi;split at h2
     ·rename_i hj;split at h2
      ·rename_i e he;obtain⟨m',h3,h4⟩:=ZT q _ k h2;exact⟨m',h3,λX k=>by
        simp only[qE];exact(hd.at_ _).trans (by simp only[bu hs,aK hi,bu hj,he];exact h4 X k)⟩
      ·cases h2
     ·cases h2
    ·cases h2
   ·cases h2
  ·cases h2
theorem ZU{t:TypeId}{x y:A}{k:S->aj X}(h:o7 P σ t x y k=some r):∃ τ,k τ=some r/\cD (λX k=>o7 (X:=X) P σ t x y k) τ:=by
 unfold o7 at h;split at h
 ·rename_i n xs hn iQ;split at h
  ·rename_i hlen;split at h
   ·rename_i r' j;split at h
    ·rename_i cs dL;split at h
     ·rename_i hj;cases hl:xs.all Lf.live with
      |false=>rw[hl]at h;cases h
      |true=>rw[hl]at h;exact⟨_,h,λX k=>by simp only[o7,hn,iQ,bu hlen,dL,bu hj,hl,aq]⟩
     ·cases h
    ·cases h
   ·rename_i j i s q;split at h
    ·cases h
    ·rename_i vs ia;obtain⟨y0,h2,hg0,hd⟩:=uA _ _ h;clear h;split at h2
     ·rename_i t' o' qn l;split at h2
      ·rename_i hs;split at h2
       ·rename_i hi;split at h2
        ·rename_i hj;cases hold:(((enc t' o' l[i]).drop j).take vs.length).all V.plain with
         |false=>rw[hold]at h2;cases h2
         | true=>
          rw[hold,aq]at h2;split at h2
          ·rename_i e he;obtain⟨m',h3,h4⟩:=ZT q _ _ h2;exact⟨_,h3,λX k=>by
            simp only[o7,hn,iQ,bu hlen,ia];exact(hd.at_ _).trans (by simp only[bu hs,aK hi,bu hj,hold,aq,he];exact h4.at_ _)⟩
          ·cases h2
        ·cases h2
       ·cases h2
      ·cases h2
     ·cases h2
   ·cases h
  ·cases h
 ·cases h
theorem IJ:∀ (xs:af Lf) (k:af V->aj X),pn σ xs k=some r->∃ vs,k vs=some r/\cD (λX k=>pn (X:=X) σ xs k) vs
 |[],k,h=>⟨[],h,λX k=>rfl⟩
 | x :: xs,k,h=>by
  unfold pn at h;obtain⟨y,h2,hd⟩:=E3 h;obtain⟨ys,h3,lG⟩:=IJ xs _ h2;exact⟨_,h3,λX k=>by
   simp only[pn];exact(hd.at_ _).trans (lG.at_ _)⟩
theorem ZV{x:A}{k:Pt->aj X}(h:oq σ x k=some r):∃ p,k p=some r/\cD (λX k=>oq (X:=X) σ x k) p:=by
 unfold oq at h;split at h
 ·obtain⟨vs,h2,hd⟩:=IJ _ _ h;exact⟨_,h2,λX k=>by simp only[oq];exact hd.at_ _⟩
 ·obtain⟨vs,h2,hd⟩:=IJ _ _ h;exact⟨_,h2,λX k=>by simp only[oq];exact hd.at_ _⟩
 ·obtain⟨y,h2,hd⟩:=ZP h;exact⟨_,h2,λX k=>by simp only[oq];exact hd.at_ _⟩
 ·exact⟨_,h,λX k=>rfl⟩
 ·cases h
theorem Tv:∀ (xs:af Operand) (k:af Pt->aj X),mL σ xs k=some r->∃ ps,k ps=some r/\cD (λX k=>mL (X:=X) σ xs k) ps
 |[],k,h=>⟨[],h,λX k=>rfl⟩
 | x :: xs,k,h=>by
  unfold mL at h;obtain⟨p,h2,hd⟩:=ZV h;obtain⟨ps,h3,lG⟩:=Tv xs _ h2;exact⟨_,h3,λX k=>by
   simp only[mL];exact(hd.at_ _).trans (lG.at_ _)⟩
theorem aiR{x:A}{k:Pt->aj X}(h:uv σ x k=some r):∃ p,k p=some r/\cD (λX k=>uv (X:=X) σ x k) p:=by
 unfold uv at h;split at h
 ·exact⟨_,h,λX k=>rfl⟩
 ·exact⟨_,h,λX k=>rfl⟩
 ·split at h
  ·rename_i cs hm;obtain⟨vs,h2,hd⟩:=IJ _ _ h;split at h2
   ·exact⟨_,h2,λX k=>by simp only[uv,hm];exact hd.at_ _⟩
   ·cases h2
  ·cases h
 ·split at h
  ·rename_i cs hm;obtain⟨vs,h2,hd⟩:=IJ _ _ h;split at h2
   ·exact⟨_,h2,λX k=>by simp only[uv,hm];exact hd.at_ _⟩
   ·cases h2
  ·cases h
 ·rename_i y h1 h2 h3 h4;obtain⟨p,h5,hd⟩:=ZV h;exact⟨p,h5,λX k=>by
   unfold uv;split
   ·exact absurd rfl (h1 _ _)
   ·exact absurd rfl (h2 _ _ _)
   ·exact absurd rfl (h3 _ _)
   ·exact absurd rfl (h4 _ _ _)
   ·exact hd.at_ _⟩
theorem Tw:∀ (xs:af Operand) (k:af Pt->aj X),pq σ xs k=some r->∃ ps,k ps=some r/\cD (λX k=>pq (X:=X) σ xs k) ps
 |[],k,h=>⟨[],h,λX k=>rfl⟩
 | x :: xs,k,h=>by
  unfold pq at h;obtain⟨p,h2,hd⟩:=aiR h;obtain⟨ps,h3,lG⟩:=Tw xs _ h2;exact⟨_,h3,λX k=>by
   simp only[pq];exact(hd.at_ _).trans (lG.at_ _)⟩
theorem aiS{f:Nat}{c:mb}{args:af Operand}{k:S->aj X}(hc:lD P f c)(h:sZ N σ d c args k=some r):∃ τ,k τ=some r/\cD (λX k=>sZ (X:=X) N σ d c args k) τ:=by
 unfold sZ at h;cases hN:Nat.blt d N with
 |false=>rw[hN]at h;cases h
 | true=>
  rw[hN,aq]at h;obtain⟨ps,h2,hd⟩:=Tw _ _ h;obtain⟨res,h3,lG,_⟩:=hc X ps _ r h2;cases res with
  | one p=>
   simp only at h3;split at h3
   ·rename_i y hy
    refine⟨_,h3,λX k=>?_⟩
    simp only[sZ,hN,aq];refine(hd.at_ _).trans ((lG X _).trans ?_);simp only[hy]
   ·cases h3
  | cP ot=>
   refine⟨_,h3,λX k=>?_⟩
   simp only[sZ,hN,aq];exact(hd.at_ _).trans (lG X _)
def qV(d:Nat)(res:iF)(σ:S):aj S:=match res with
 | .one p=>match sU (p.1,mc (1000000000100000+1000*d) p.2)with
  |some y=>some ((jP (1000000000100000+1000*d) σ p.2).set d y)
  |none=>none
 |.cP ps=>some ((mM (1000000000100000+1000*d) σ ps).set d (.cP (nJ (1000000000100000+1000*d) ps)))
theorem IK{f:Nat}{c:mb}{args:af Operand}{k:S->aj X}(hc:lD P f c)(h:AN N σ d c args k=some r):∃ res τ,qV d res σ=some τ/\k τ=some r/\
  (∀az gv,(∀(X:Type) (k:af Pt->aj X),mL az args k=mL σ args k)->qV d res az=some gv->cD (λX k=>AN (X:=X) N az d c args k) gv):=by
 unfold AN at h;cases hN:Nat.blt d N with
 |false=>rw[hN]at h;cases h
 | true=>
  rw[hN,aq]at h;obtain⟨ps,h2,hd⟩:=Tv _ _ h;obtain⟨res,h3,lG,_⟩:=hc X ps _ r h2;have step:∀ az gv,(∀ (X:Type) (k:af Pt->aj X),mL az args k=mL σ args k)->qV d res az=some gv->cD (λX k=>AN (X:=X) N az d c args k) gv:=by
   intro az gv ha en X k;simp only[AN,hN,aq];rw[ha];refine(hd.at_ _).trans ((lG X _).trans ?_);unfold qV at en;cases res with
   | one p=>
    simp only at en ⊢;split at en
    next y hy=>injection en with en;subst en;simp only[hy]
    ·cases en
   | cP ot=>
    injection en with en;subst en;rfl
  cases res with
  | one p=>
   simp only at h3;split at h3
   next y hy=>exact⟨.one p,_,by simp only[qV,hy],h3,step⟩
   ·cases h3
  |cP ot=>exact⟨.cP ot,_,rfl,h3,step⟩
theorem aiT{f:Nat}{c:mb}{args:af Operand}{k:S->aj X}(hc:lD P f c)(h:sZ N σ d c args k=some r):∃ res τ,qV d res σ=some τ/\k τ=some r/\
  (∀az gv,(∀(X:Type) (k:af Pt->aj X),pq az args k=pq σ args k)->qV d res az=some gv->cD (λX k=>sZ (X:=X) N az d c args k) gv):=by
 unfold sZ at h;cases hN:Nat.blt d N with
 |false=>rw[hN]at h;cases h
 | true=>
  rw[hN,aq]at h;obtain⟨ps,h2,hd⟩:=Tw _ _ h;obtain⟨res,h3,lG,_⟩:=hc X ps _ r h2;have step:∀ az gv,(∀ (X:Type) (k:af Pt->aj X),pq az args k=pq σ args k)->qV d res az=some gv->cD (λX k=>sZ (X:=X) N az d c args k) gv:=by
   intro az gv ha en X k;simp only[sZ,hN,aq];rw[ha];refine(hd.at_ _).trans ((lG X _).trans ?_);unfold qV at en;cases res with
   | one p=>
    simp only at en ⊢;split at en
    next y hy=>injection en with en;subst en;simp only[hy]
    ·cases en
   | cP ot=>
    injection en with en;subst en;rfl
  cases res with
  | one p=>
   simp only at h3;split at h3
   next y hy=>exact⟨.one p,_,by simp only[qV,hy],h3,step⟩
   ·cases h3
  |cP ot=>exact⟨.cP ot,_,rfl,h3,step⟩
/-! Keys that do not end in certain names. -/
def eY(p:Nat->Bool)(k:af Nat):Bool:=match k.getLast? with
 |some r=>!p r
 |none=>true
def Lf.nr(p:Nat->Bool):Lf->Bool
 |.own k=>eY p k
 |_=>true
def A.nr(p:Nat->Bool):A->Bool
 |.lf x=>x.nr p
 |.agg cs=>cs.all (Lf.nr p)
 |.cP xs=>xs.all λq=>q.2.all (Lf.nr p)
 |.ptr k=>eY p k
 |.aG r _=>!p r
 |.pk r _=>!p r
 |.view k _ _ _=>eY p k
 |.fn _ cap=>cap.all λq=>!p q.1
 |_=>true
theorem uB{p:Nat->Bool}{k:af Nat}{n:Nat}(h:eY p k=true)(hn:p n=true):bH n k=false:=by
 unfold eY at h;unfold bH;split at h
 ·rename_i r hr;rw[hr];have:r≠n:=by rintro rfl;simp[hn]at h
  simpa using this
 next hr=>rw[hr];rfl
theorem Lf.nN{p:Nat->Bool}{x:Lf}{n:Nat}(h:x.nr p=true)(hn:p n=true):x.drop n=x:=by
 cases x with
 | own k=>
  have e:Lf.drop n (.own k)=(bif bH n k then .dead else .own k):=rfl;rw[e,uB h hn];rfl
 |v x=>rfl
 |dead=>rfl
theorem oA.nN{p:Nat->Bool}{xs:af Lf}{n:Nat}(h:xs.all (Lf.nr p)=true)(hn:p n=true):xs.map (Lf.drop n)=xs:=by
 conv=>rhs;rw[<-List.map_id xs]
 exact lK λx hx=>Lf.nN (c9.1 h x hx) hn
theorem A.nN{p:Nat->Bool}{x:A}{n:Nat}(h:x.nr p=true)(hn:p n=true):x.drop n=x:=by
 cases x with
 |lf x=>exact cA A.lf (Lf.nN h hn)
 |agg cs=>exact cA A.agg (oA.nN h hn)
 | cP xs=>
  refine cA A.cP ?_
  conv=>rhs;rw[<-List.map_id xs]
  refine lK λq hq=>?_
  have:=oA.nN (c9.1 h q hq) hn;simp only[id];rw[this]
 | ptr k=>
  have e:A.drop n (.ptr k)=(bif bH n k then .undef else .ptr k):=rfl;rw[e,uB h hn];rfl
 | view k s i j=>
  have e:A.drop n (.view k s i j)=(bif bH n k then .undef else .view k s i j):=rfl;rw[e,uB h hn];rfl
 | pk r j=>
  have e:A.drop n (.pk r j)=(bif Nat.beq r n then .undef else .pk r j):=rfl;have:Nat.beq r n=false:=by
   cases hb:Nat.beq r n with
   |false=>rfl
   | true=>
    obtain rfl:=cz hb;have h:(!p r)=true:=h;rw[hn]at h;cases h
  rw[e,this];rfl
 | aG r j=>
  have e:A.drop n (.aG r j)=(bif Nat.beq r n then .undef else .aG r j):=rfl;have:Nat.beq r n=false:=by
   cases hb:Nat.beq r n with
   |false=>rfl
   | true=>
    obtain rfl:=cz hb;have h:(!p r)=true:=h;rw[hn]at h;cases h
  rw[e,this];rfl
 | fn f cap=>
  have e:A.drop n (.fn f cap)=(bif cap.any (λp=>Nat.beq p.1 n)then .undef else .fn f cap):=rfl;have:cap.any (λp=>Nat.beq p.1 n)=false:=by
   rw[mW];intro q hq hb;obtain hb:=cz hb;have:=c9.1 h q hq;rw[hb,hn]at this;cases this
  rw[e,this];rfl
 |_=>rfl
theorem S.ext'{σ τ:S}(h1:∀ k,σ.t k=τ.t k)(h2:∀ r,σ.m r=τ.m r):σ=τ:=by
 cases σ;cases τ;simp only[S.mk.injEq];exact⟨funext h1,funext h2⟩
theorem S.set_set{e d:Nat}(h:e≠d)(v u:A):(σ.set d v).set e u=(σ.set e u).set d v:=by
 refine S.ext' (λk=>?_) λ_=>rfl
 show bP (bP σ.t d v) e u k=bP (bP σ.t e u) d v k;by_cases h1:k=e
 ·subst h1;rw[bY,cL _ _ _ h,bY]
 ·by_cases h2:k=d
  ·subst h2;rw[cL _ _ _ h1,bY,bY]
  ·rw[cL _ _ _ h1,cL _ _ _ h2,cL _ _ _ h2,cL _ _ _ h1]
theorem S.drop_set(n:Nat){v:A}(hv:v.drop n=v):(σ.set d v).drop n=(σ.drop n).set d v:=by
 refine S.ext' (λk=>?_) λ_=>rfl
 show (bP σ.t d v k).drop n=bP (λk=>(σ.t k).drop n) d v k;by_cases h:k=d
 ·subst h;rw[bY,bY,hv]
 ·rw[cL _ _ _ h,cL _ _ _ h]
theorem E4(v:A):∀ (xs:af V) (c:Nat) (σ:S),(∀ n,c<=n->v.drop n=v)->jP c (σ.set d v) xs=(jP c σ xs).set d v
 |[],c,σ,h=>rfl
 | x :: xs,c,σ,h=>by
  simp only[jP];cases hf:x.aA with
  | true=>
   simp only[aq];exact E4 v xs (c+1) σ (λn hn=>h n (by omega))
  | false=>
   simp only[au];rw[S.drop_set c (h c (gZ _))];exact E4 v xs (c+1) ((σ.drop c).root c (.sl x)) (λn hn=>h n (by omega))
theorem MT(v:A):∀ (ps:af Pt) (c:Nat) (σ:S),(∀ n,c<=n->v.drop n=v)->mM c (σ.set d v) ps=(mM c σ ps).set d v
 |[],c,σ,h=>rfl
 | p :: ps,c,σ,h=>by
  simp only[mM];rw[E4 v p.2 c σ h];exact MT v ps _ _ (λn hn=>h n (by omega))
end
end Go.Proofs.YtcioagfjiccleaaGreat
namespace Go.Proofs.YtcioagfjiccleaaGreat
open Go.RowKit
set_option linter.unusedVariables false
def CR{X:Type}(N:Nat)(σ:S)(d:Nat)(x:A)(k:S->aj X):aj X:=
 match x.Az with
 |some xs=>bif xs.all Lf.live then jO N σ d (.ax (xs.map (Lf.drop d))) (.aG d 0) k else none
 |none=>none
def MU{X:Type}(x:A)(k:A->aj X):aj X:=
 match x with
 |.aG r j=>k (.aG r j)
 |.ptr q=>k (.ptr q)
 |.jB cs=>k (.jB cs)
 |_=>none
section
variable {P:Program} {w w':World} {w0:Wd} {B N:Nat} {ah aC:bE} {ρ ρ':Nat->Loc} {σ:S} {a:Act} {X:Type} {d:Nat} {r:X} {o:Oper}
theorem aiU{e:TypeId}{x:A}{k:S->aj X}(h:CR N σ d x k=some r):∃ az,k az=some r/\∀ ah ρ a w,Rl w0 N ah ρ σ a w->∀ u,RA w w0.heap.size ah ρ x u->
  ∃w' aC ρ' v,(Instr.box e u).run P w = .ok v w'/\Rl w0 N aC ρ' az (a.put (some d) v) w':=by
 unfold CR at h;split at h
 ·rename_i xs iQ;cases jC:xs.all Lf.live with
  |false=>rw[jC]at h;cases h
  | true=>
   rw[jC,aq]at h;obtain⟨hd,h⟩:=qH h
   refine⟨_,h,λah ρ a w hR u hu=>?_⟩
   obtain⟨hl,_⟩:=HV iQ jC hu;have bq:(Instr.box e u).run P w = .ok (.pointer (some ⟨w.heap.size,0,none⟩)) (w.alloc (.cells u.cells e)):=by
    simp[Instr.box,newVar,newRow]
   refine⟨_,bP ah w.heap.size (some [d]),bP ρ d (.ax w.heap.size 0),_,bq,(hR.ER (hR.dQ d (.inl hd)) (λr hr=>cL _ _ _ hr) ?_).set ⟨w.heap.size,0,bY _ _ _,rfl⟩ hd⟩
   have h1:eB (w.alloc (.cells u.cells e)) w0.heap.size (bP ah w.heap.size (some [d])) ρ xs u.cells:=
    hl.iD (by simp) (λb hb=>⟨Below.heap_alloc w _ b hb,cL _ _ _ (by omega)⟩) (λb k hb=>(hR.dn b k hb).2.1)
   have h2:=h1.eW (ρ':=bP ρ d (.ax w.heap.size 0)) (d:=d) (λr hr=>cL _ _ _ hr)
   refine .ax w.heap.size 0 u.cells e _ (λj=>u.cells.getD j undef) (bY _ _ _) (bY _ _ _) (heap_alloc_new w _) (by rw[h2.1];omega) λj y hy=>?_
   obtain⟨v,hv,hr⟩:=h2.2 j y hy;have hg:u.cells.getD j undef=v:=by rw[jy,hv];rfl
   rw[hg,fQ];exact⟨hv,hr⟩
 ·cases h
theorem ZW{x:A}{k:S->aj X}(h:CR N σ d x k=some r):∃ y u,k (((σ.drop d).root d y).set d u)=some r/\(∀ (az:S),cD (λX k=>CR (X:=X) N az d x k) (((az.drop d).root d y).set d u)):=by
 unfold CR at h;split at h
 ·rename_i xs iQ;cases jC:xs.all Lf.live with
  |false=>rw[jC]at h;cases h
  | true=>
   rw[jC,aq]at h;obtain⟨h1,_⟩:=yO h
   refine⟨_,_,h1,λaz X k=>?_⟩
   obtain⟨hN,_⟩:=qH h;have hb:Nat.blt d N=true:=jV hN;simp only[CR,iQ,jC,jO,hb,aq]
 ·cases h
theorem ZX{x:A}{k:A->aj X}(h:MU x k=some r):k x=some r/\cD (λX k=>MU (X:=X) x k) x/\∀ u,RA w B ah ρ x u->∃ ad,u = .pointer (some ad):=by
 unfold MU at h;split at h
 ·exact⟨h,λX k=>rfl,λu hu=>by obtain⟨b,off,_,rfl⟩:=hu;exact⟨_,rfl⟩⟩
 ·exact⟨h,λX k=>rfl,λu hu=>by obtain⟨ad,rfl,_⟩:=hu;exact⟨_,rfl⟩⟩
 ·exact⟨h,λX k=>rfl,λu hu=>by obtain⟨b,off,rfl,_⟩:=hu;exact⟨_,rfl⟩⟩
 ·cases h
end
end Go.Proofs.YtcioagfjiccleaaGreat
namespace Go.Proofs.YtcioagfjiccleaaGreat
open Go.RowKit
set_option linter.unusedVariables false
def qe(t:TypeId):Bool:=[999999,999999,999999,50,999999,57,999999,999999,999999,999999,999999,999999,999999,999999,999999,999999,999999,999999,39,999999,999999,999999,999999,999999].any (Nat.beq t)
def AX{X:Type}(P:Program)(N:Nat)(σ:S)(d:Nat)(t:TypeId)(len:Nat)(parts:af (Nat×Operand))(k:S->aj X):aj X:=
 match wM P t with
 | some (e,tc)=>match zeroOf P e with
  | some z=>bif Nat.beq z.cells.size (aB tc)&&Nat.blt (len*aB tc) 16777217 then (match AE (λi=>some (i*aB tc,aB tc)) (List.replicate len (z.cells.toList.map ke)).flatten (parts.map λp=>(p.1,aF σ p.2))with
   |some cs=>bif Nat.beq len 0 then jO N σ d (.sl (.sl tc (full tc+2) true [])) (.lf (.own [d])) k else jO N σ d (.ax (cs.map (Lf.drop d))) (.pk d len) k
   |none=>none)else none
  |none=>none
 |none=>none
def yP{X:Type}(N:Nat)(σ:S)(d r ry:Nat)(tc:TC)(n:Nat)(k:S->aj X):aj X:=
 match σ.m ry,σ.m r with
 | some (.ax cs),some (.sl (.sl t' (o+2) q l))=>if h:t'=tc then (match jE r (λj=>(j % aB tc) :: (l.length+j / aB tc) :: aB tc :: [r]) cs.length 0 cs σ with
  | some (vs,τ)=>(match Ib tc o n vs with
   |some l2=>bif Nat.blt d N&&bZ (l.length+l2.length)then k (((τ.drop r).root r (.sl (.sl tc (o+2) false ((h ▸ l)++l2)))).set d (.lf (.own [r])))else none
   |none=>none)
  |none=>none)else none
 |_,_=>none
def AY{X:Type}(P:Program)(N:Nat)(σ:S)(d:Nat)(t:TypeId)(x y:A)(k:S->aj X):aj X:=
 match wM P t,y with
 | some (e,tc),.pk ry n=>bif (zeroOf P e).any (λz=>Nat.beq z.cells.size (aB tc))&&(Nat.blt d N&&Nat.blt n rR)then (match x with
  |.lf (.v .nil)=>yP N ((σ.drop d).root d (.sl (.sl tc (full tc+2) false []))) d d ry tc n k
  |.lf (.own [r])=>bif Nat.blt r N ||Nat.ble 60000 r then yP N σ d r ry tc n k else none
  |_=>none)else none
 |_,_=>none
def tq{X:Type}(P:Program)(σ:S)(t:TypeId)(x y:A)(k:S->aj X):aj X:=
 match ld P t,y.Az,x with
 | some n,some xs,.ptr [j,i,s,r]=>if xs.length=n then (bif xs.all Lf.live then (match jE r (λm=>(j+m) :: i :: s :: [r]) xs.length 0 xs σ with
  | some (vs,τ)=>(match τ.m r with
   | some (.sl (.sl t' (o+2) qn l))=>if s=aB t' then (if h:i<l.length then (if j+n<=aB t' then (match dec t' o (splice (enc t' o l[i]) j vs)with
    |some e=>k (τ.bA [r] [] [(r,.sl (.sl t' (o+2) qn (l.set i e)))])
    |none=>none)else none)else none)else none
   |_=>none)
  |none=>none)else none)else none
 |_,_,_=>none
def xg(x y:A):Bool:=match x,y.Az with
 |.ptr _,some xs=>(sS xs).isNone
 |_,_=>false
section
variable {P:Program} {w w':World} {w0:Wd} {B N:Nat} {ah aC:bE} {ρ ρ':Nat->Loc} {σ:S} {a:Act} {X:Type} {d:Nat} {r:X} {o:Oper}
theorem ZY{place:Nat->aj (Nat×Nat)}:∀ (parts:af (Nat×A)) (cells out:af Lf),AE place cells parts=some out->out.length=cells.length
 |[],cells,out,h=>by injection h with h;rw[h]
 | (i,x) :: rest,cells,out,h=>by
  unfold AE at h;split at h
  ·rename_i off n xs hp hx;split at h
   ·rename_i hc;cases hl:xs.all Lf.live with
    | true=>
     rw[hl,aq]at h;rw[ZY rest _ _ h,uh _ _ _ (by omega)]
    |false=>rw[hl]at h;cases h
   ·cases h
  ·cases h
theorem aiV{t:TypeId}{len:Nat}{parts:Array (Nat×Operand)}{k:S->aj X}(h:AX P N σ d t len parts.toList k=some r):∃ az,k az=some r/\∀ ah ρ a w,Rl w0 N ah ρ σ a w->
  ∃w' aC ρ' v,(Instr.buildSlice t len (parts.map λ(i,x)=>(i,a.eval x))).run P w = .ok v w'/\Rl w0 N aC ρ' az (a.put (some d) v) w':=by
 unfold AX at h;split at h
 ·rename_i e tc gN;obtain⟨gi,ht,i,hi,dx,lU⟩:=AB gN;split at h
  ·rename_i z hz;cases hc:(Nat.beq z.cells.size (aB tc)&&Nat.blt (len*aB tc) 16777217)with
   |false=>rw[hc]at h;cases h
   | true=>
    rw[hc,aq]at h;rw[aJ]at hc;have gQ:=cz hc.1;have hsm:len*aB tc<16777217:=by have:=cH hc.2;omega
    have qI:i.zero=some z:=by unfold zeroOf at hz;simpa [hi]using hz
    split at h
    ·rename_i cs dL;have key:∀ ah ρ (a:Act) w,Rl w0 N ah ρ σ a w->∃ gW,(Instr.buildSlice t len (parts.map λ(i,x)=>(i,a.eval x))).run P w = .ok (.slice (some ⟨w.heap.size,0,none⟩) len len) (w.alloc (.cells gW e))/\eB w w0.heap.size ah ρ cs gW/\gW.size=cs.length:=λah ρ a w hR=>by
      have SF:eB w w0.heap.size ah ρ (List.replicate len (z.cells.toList.map ke)).flatten (madeCells z.cells (len*aB tc)):=by
       have e1:(List.replicate len (z.cells.toList.map ke)).flatten=((List.replicate len z.cells.toList).flatten).map ke:=by
        rw[List.map_flatten,List.map_replicate]
       rw[e1,<-Y6 z.cells (aB tc) len gQ (qB tc)]
       refine⟨by simp,λj x hx=>?_⟩
       rw[dH]at hx;cases hv:(madeCells z.cells (len*aB tc)).toList[j]? with
       |none=>rw[hv]at hx;cases hx
       | some v=>
        rw[hv]at hx;injection hx with hx;subst hx;exact⟨v,by simpa using hv,Mq v⟩
      obtain⟨gW,yE,hl⟩:=Mx (w:=w) (B:=w0.heap.size) (ah:=ah) (ρ:=ρ) _ _ _ (parts.toList.map λp=>(p.1,a.eval p.2)) cs dL SF (by simp) (λj p q hp hq=>by
       rw[dH]at hp hq;cases hx:parts.toList[j]? with
       |none=>rw[hx]at hp;cases hp
       | some x=>
        rw[hx]at hp hq;injection hp with hp;injection hq with hq;subst hp hq;exact⟨rfl,hR.aF x.2⟩)
      have bq:(Instr.buildSlice t len (parts.map λ(i,x)=>(i,a.eval x))).run P w = .ok (.slice (some ⟨w.heap.size,0,none⟩) len len) (w.alloc (.cells gW e)):=by
       have Ic:(parts.map λ(i,x)=>(i,a.eval x)).toList=parts.toList.map λp=>(p.1,a.eval p.2):=by simp
       by_cases h0:len*aB tc=0
       ·have hm:madeCells z.cells (len*aB tc) = #[]:=by rw[h0];simp[madeCells]
        rw[hm]at yE;have SG:len*i.size=0:=by rw[dx];exact h0
        rw[<-dx]at yE;have e0:∀f:Nat->Value,Array.map f (Array.range 0) = #[]:=λf=>by simp
        simp only[Instr.buildSlice,fz,jr gi,kA,sizeOf,typeInfo];simp[hi,SG];rw[e0,yE];simp[newRow]
       ·exact run_buildSlice (P:=P) w t e len _ gW i z gi hi qI (by rw[dx];omega) (by rw[dx];exact h0) (by rw[dx,Ic];exact yE)
      exact⟨gW,bq,hl,hl.1⟩
     cases jN:Nat.beq len 0 with
     | true=>
      rw[jN,aq]at h;have hln:=cz jN;subst hln;obtain⟨hd,h⟩:=qH h
      refine⟨_,h,λah ρ a w hR=>?_⟩
      obtain⟨gW,bq,hl,hcz⟩:=key ah ρ a w hR;have vC:cs.length=0:=by
       have h1:=ZY _ _ _ dL;rw[h1];simp
      refine⟨_,bP ah w.heap.size (some [d]),bP ρ d (.dP (.slice (some ⟨w.heap.size,0,none⟩) 0 0)),_,bq,(hR.ER (hR.dQ d (.inl hd)) (λr hr=>cL _ _ _ hr) (.sl _ _ (bY _ _ _) ?_)).set ⟨rfl,by simp[cE,bY]⟩ hd⟩
      exact RV.own (w:=w.alloc (.cells gW e)) (B:=w0.heap.size) (ah:=bP ah w.heap.size (some [d])) [d] tc (full tc) true [] w.heap.size 0 gW (λ_ _=>undef)
       (bY _ _ _) (by rw[ht];exact heap_alloc_new w _) (by omega) (gZ _) ⟨by unfold maxLen;omega,λ_=>rfl⟩ (λi' h'=>absurd h' (by simp)) (λi' h'=>absurd h' (by simp))
     |false=>
     rw[jN,au]at h;obtain⟨hd,h⟩:=qH h
     refine⟨_,h,λah ρ a w hR=>?_⟩
     obtain⟨gW,bq,hl,_⟩:=key ah ρ a w hR
     refine⟨_,bP ah w.heap.size (some [d]),bP ρ d (.ax w.heap.size 0),_,bq,(hR.ER (hR.dQ d (.inl hd)) (λr hr=>cL _ _ _ hr) ?_).set ⟨w.heap.size,bY _ _ _,(R6 (by have:=Nat.le_mul_of_pos_right len (qB tc);unfold rR;omega)).symm⟩ hd⟩
     have h1:eB (w.alloc (.cells gW e)) w0.heap.size (bP ah w.heap.size (some [d])) ρ cs gW:=
      hl.iD (by simp) (λb hb=>⟨Below.heap_alloc w _ b hb,cL _ _ _ (by omega)⟩) (λb k hb=>(hR.dn b k hb).2.1)
     have h2:=h1.eW (ρ':=bP ρ d (.ax w.heap.size 0)) (d:=d) (λr hr=>cL _ _ _ hr)
     refine .ax w.heap.size 0 gW e _ (λj=>gW.getD j undef) (bY _ _ _) (bY _ _ _) (heap_alloc_new w _) (by rw[h2.1];omega) λj y hy=>?_
     obtain⟨v,hv,hr⟩:=h2.2 j y hy;have hg:gW.getD j undef=v:=by rw[jy,hv];rfl
     rw[hg,fQ];exact⟨hv,hr⟩
    ·cases h
  ·cases h
 ·cases h
theorem ZZ{t:TypeId}{len:Nat}{parts:af (Nat×Operand)}{k:S->aj X}(h:AX P N σ d t len parts k=some r):∃ y u,k (((σ.drop d).root d y).set d u)=some r/\
  (∀(az:S),(∀p∈parts,aF az p.2=aF σ p.2)->cD (λX k=>AX (X:=X) P N az d t len parts k) (((az.drop d).root d y).set d u)):=by
 unfold AX at h;split at h
 ·rename_i e tc gN;split at h
  ·rename_i z hz;cases hc:(Nat.beq z.cells.size (aB tc)&&Nat.blt (len*aB tc) 16777217)with
   |false=>rw[hc]at h;cases h
   | true=>
    rw[hc,aq]at h;split at h
    ·rename_i cs dL;cases jN:Nat.beq len 0 with
     | true=>
      rw[jN,aq]at h;obtain⟨h1,_⟩:=yO h
      refine⟨_,_,h1,λaz II X k=>?_⟩
      obtain⟨hN,_⟩:=qH h;have fT:Nat.blt d N=true:=jV hN;have e:(parts.map λp=>(p.1,aF az p.2))=parts.map λp=>(p.1,aF σ p.2):=lK λp hp=>by rw[II p hp]
      simp only[AX,gN,hz,hc,aq,e,dL,jO,fT,jN]
     | false=>
      rw[jN,au]at h;obtain⟨h1,_⟩:=yO h
      refine⟨_,_,h1,λaz II X k=>?_⟩
      obtain⟨hN,_⟩:=qH h;have fT:Nat.blt d N=true:=jV hN;have e:(parts.map λp=>(p.1,aF az p.2))=parts.map λp=>(p.1,aF σ p.2):=lK λp hp=>by rw[II p hp]
      simp only[AX,gN,hz,hc,aq,e,dL,jO,fT,jN,au]
    ·cases h
  ·cases h
 ·cases h
theorem Z0{t e ty:TypeId}{tc:TC}{i:TypeInfo}{z:Value}{rr ry n:Nat}{k:S->aj X}(gi:P.underlying t=some (.slice e))(ht:tid tc=e)(hi:P.info? e=some i)(hz:i.zero=some z)
  (dx:i.size=aB tc) (lU:i.bytes<=65536) (gQ:z.cells.size=aB tc) (h:yP N σ d rr ry tc n k=some r):∃az,k az=some r/\∀ah ρ a w,Rl w0 N ah ρ σ a w->w0.F rr=none->∀u v b,ρ rr = .dP u->ρ ry = .ax b 0->v = .slice (some ⟨b,0,none⟩) n n->
  ∃w' aC ρ' z,(Builtin.append_ #[t,t] ty #[u,v]).run P w = .ok z w'/\Rl w0 N aC ρ' az (a.put (some d) z) w':=by
 unfold yP at h;split at h
 ·rename_i cs t' o q l IL hr;split at h
  ·rename_i gG;subst gG;split at h
   ·rename_i vs τ qW;split at h
    ·rename_i l2 gF;cases hL:(Nat.blt d N&&bZ (l.length+l2.length))with
     |false=>rw[hL]at h;cases h
     | true=>
      rw[hL,aq]at h;rw[aJ]at hL;have H9:l.length+l2.length<1073741824:=by simpa [bZ]using hL.2
      have hd:d<N:=by have:=cH hL.1;omega
      refine⟨_,h,λah ρ a w hR hF u v b aiW aiX hv=>?_⟩
      subst hv;have hy:=hR.root ry _ IL;generalize he:aW.ax cs=x at hy;cases hy with
      |sl=>cases he
      |mp=>cases he
      |gh=>cases he
      | ax b' off cells e' fO us aM dB hh hs hc=>
       injection he with he;subst he;rw[aiX]at aM;injection aM with e1 e2;subst e1 e2;have gD:eB w w0.heap.size ah ρ cs ((List.range cs.length).map us).toArray:=by
        refine⟨by simp,λj x hx=>?_⟩
        have hj:j<cs.length:=(dJ.1 hx).1;exact⟨us j,by simp[hj],(hc j x hx).2⟩
       obtain⟨aC,aO,uo,MV,_,kY,fG,_,_⟩:=Mm (w0:=w0) (N:=N) (λj=>by simp[bH]) _ _ _ _ _ _ qW ah ρ a w hR _ gD;obtain⟨ET,aiY,kf⟩:=SE t' o n vs l2 gF;have dZ:cs.length=n*aB t':=by rw[<-uo,aiY]
       have kR:∀ j,j<cs.length->(us j).oneCell'=true:=by
        intro j hj;have hx:=bT (l:=vs) (i:=j) (by rw[uo];exact hj);obtain⟨u',l8,dA⟩:=MV j _ hx;have:u'=us j:=by simpa [hj]using l8.symm
        rw[<-this];exact dA.one
       have MW:b<w.heap.size:=(gS.1 hh).1;have rX:Reads w w.heap.size (aB t') (some ⟨b,0,none⟩) n ((List.range cs.length).map us):=by
        refine⟨by simp[dZ],λhn=>⟨b,0,rfl,MW,λj v hv=>?_⟩⟩
        have hj:j<cs.length:=by have:=(dJ.1 hv).1;simpa using this
        have:v=us j:=by simpa [hj]using hv.symm
        subst this;rw[cell_of_row w b _ cells _ _ hh];exact(hc j _ (bT hj)).1
       have fT:vp w w0.heap.size aC rr l.length t' o l2 ((List.range cs.length).map us):=by
        intro i' vF j x hx;have hj:j<aB t':=by have:=(dJ.1 hx).1;rwa [lO]at this
        obtain⟨y,hy,hw⟩:=kf i' vF j x hx;obtain⟨u',l8,dA⟩:=MV _ _ hy;refine⟨u',l8,?_⟩;have e1:(0+(i'*aB t'+j)) % aB t'=j:=by rw[fQ,Nat.add_comm,Nat.add_mul_mod_self_right,Nat.mod_eq_of_lt hj]
        have e2:(0+(i'*aB t'+j)) / aB t'=i':=by rw[fQ,Nat.add_comm,Nat.add_mul_div_right _ _ (qB t'),Nat.div_eq_of_lt hj,fQ]
        simp only[e1,e2]at dA;exact dA.wk hw
       have CS:=aO.root rr _ (kY _ hr);generalize he:aW.sl (.sl t' (o+2) q l)=x at CS;cases CS with
       |ax=>cases he
       |mp=>cases he
       |gh=>cases he
       | sl uu y gE dA=>
        injection he with he;subst he;rw[aiW]at gE;injection gE with gE;subst gE;obtain⟨v',w',dD,bq,ki,gM⟩:=aO.ahF (ty:=ty) (c:=n) hF gi ht hi hz dx lU gQ dA rX (λv hv=>by
         obtain⟨j,hj⟩:=List.mem_iff_getElem?.1 hv;have Ia:j<cs.length:=by have:=(dJ.1 hj).1;simpa using this
         have:v=us j:=by simpa [Ia]using hj.symm
         rw[this];exact kR j Ia) ET.symm fT H9
        exact⟨w',dD,_,v',bq,ki.set ⟨gM,by simp[cE,bY]⟩ hd⟩
    ·cases h
   ·cases h
  ·cases h
 ·cases h
theorem Z1{rr ry n:Nat}{tc:TC}{k:S->aj X}(h:yP N σ d rr ry tc n k=some r):∃ τ,k τ=some r/\cD (λX k=>yP (X:=X) N σ d rr ry tc n k) τ:=by
 unfold yP at h;split at h
 ·rename_i cs t' o q l IL hr;split at h
  ·rename_i gG;split at h
   ·rename_i vs τ qW;split at h
    ·rename_i l2 gF;cases hL:(Nat.blt d N&&bZ (l.length+l2.length))with
     |false=>rw[hL]at h;cases h
     | true=>
      rw[hL,aq]at h;exact⟨_,h,λX k=>by simp only[yP,IL,hr,aK gG,qW,gF,hL,aq]⟩
    ·cases h
   ·cases h
  ·cases h
 ·cases h
theorem aiZ{t ty:TypeId}{x y:A}{k:S->aj X}(h:AY P N σ d t x y k=some r):∃ az,k az=some r/\∀ ah ρ a w,Rl w0 N ah ρ σ a w->∀ u v,RA w w0.heap.size ah ρ x u->RA w w0.heap.size ah ρ y v->
  ∃w' aC ρ' z,(Builtin.append_ #[t,t] ty #[u,v]).run P w = .ok z w'/\Rl w0 N aC ρ' az (a.put (some d) z) w':=by
 unfold AY at h;split at h
 ·rename_i e tc ry n gN;obtain⟨gi,ht,i,hi,dx,lU⟩:=AB gN;cases hc:((zeroOf P e).any (λz=>Nat.beq z.cells.size (aB tc))&&(Nat.blt d N&&Nat.blt n rR))with
  |false=>rw[hc]at h;cases h
  | true=>
   rw[hc,aq]at h;rw[aJ]at hc;obtain⟨z,hz,gQ⟩:=(Option.any_eq_true _ _).1 hc.1;have gQ:=cz gQ;have qI:i.zero=some z:=by unfold zeroOf at hz;simpa [hi]using hz
   have jt:=hc.2;rw[aJ]at jt;have hd:d<N:=by have:=cH jt.1;omega
   have dR:n<rR:=by have:=cH jt.2;omega
   split at h
   ·obtain⟨az,h2,hs⟩:=Z0 (w0:=w0) (ty:=ty) gi ht hi qI dx lU gQ h
    refine⟨az,h2,λah ρ a w hR u v hu hv=>?_⟩
    have hu:u = .slice none 0 0:=by cases hu.2;rfl
    subst hu;obtain⟨b,hb,rfl⟩:=hv;have IL:ry≠d:=by
     rintro rfl;unfold yP at h;split at h
     next h1 h2=>have:(bP (σ.drop ry).m ry (some (aW.sl (.sl tc (full tc+2) false [])))) ry=_:=h1;rw[bY]at this;cases this
     ·cases h
    have hR0:=hR.new (d:=d) (x:=.sl (.sl tc (full tc+2) false [])) (.dP (.slice none 0 0)) (.sl _ _ (bY _ _ _) (.dc _ _ _)) (hR.dQ d (.inl hd));exact hs _ _ a w hR0 (hR.dQ d (.inl hd)) _ _ b (bY _ _ _) ((cL _ _ _ IL).trans hb) (R6 dR)
   ·rename_i rr;cases hL:(Nat.blt rr N || Nat.ble 60000 rr)with
    |false=>rw[hL]at h;cases h
    | true=>
     rw[hL,aq]at h;rw[eH]at hL;have kY:rr<N\/60000<=rr:=hL.imp (λh=>by have:=cH h;omega) (λh=>cH h);obtain⟨az,h2,hs⟩:=Z0 (w0:=w0) (ty:=ty) gi ht hi qI dx lU gQ h
     refine⟨az,h2,λah ρ a w hR u v hu hv=>?_⟩
     obtain⟨b,hb,rfl⟩:=hv;have aM:ρ rr = .dP u:=by
      have h4:=hu.2;simp only[cE]at h4;cases hl:ρ rr with
      |ax b o=>rw[hl]at h4;cases h4
      |bQ us=>rw[hl]at h4;cases h4
      |dP v=>rw[hl]at h4;injection h4 with h4;rw[h4]
     exact hs ah ρ a w hR (hR.dQ rr kY) _ _ b aM hb (R6 dR)
   ·cases h
 ·cases h
theorem ai0{t:TypeId}{x y:A}{k:S->aj X}(h:AY P N σ d t x y k=some r):∃ τ,k τ=some r/\cD (λX k=>AY (X:=X) P N σ d t x y k) τ:=by
 unfold AY at h;split at h
 ·rename_i e tc ry n gN;cases hc:((zeroOf P e).any (λz=>Nat.beq z.cells.size (aB tc))&&(Nat.blt d N&&Nat.blt n rR))with
  |false=>rw[hc]at h;cases h
  | true=>
   rw[hc,aq]at h;split at h
   ·obtain⟨τ,h1,h2⟩:=Z1 h;exact⟨τ,h1,λX k=>by simp only[AY,gN,hc,aq];exact h2 X k⟩
   ·rename_i rr;cases hL:(Nat.blt rr N || Nat.ble 60000 rr)with
    |false=>rw[hL]at h;cases h
    | true=>
     rw[hL,aq]at h;obtain⟨τ,h1,h2⟩:=Z1 h;exact⟨τ,h1,λX k=>by simp only[AY,gN,hc,hL,aq];exact h2 X k⟩
   ·cases h
 ·cases h
theorem ai1{t:TypeId}{x y:A}{k:S->aj X}(h:tq P σ t x y k=some r):∃ az,k az=some r/\∀ ah ρ a w,Rl w0 N ah ρ σ a w->∀ u v,RA w w0.heap.size ah ρ x u->RA w w0.heap.size ah ρ y v->
  ∃w' aC,(Instr.storeAt t u v).run P w = .ok () w'/\Rl w0 N aC ρ az a w':=by
 unfold tq at h;split at h
 ·rename_i n xs j i s rr hn iQ;split at h
  ·rename_i hlen;cases jC:xs.all Lf.live with
   |false=>rw[jC]at h;cases h
   | true=>
    rw[jC,aq]at h;split at h
    ·rename_i vs τ qW;split at h
     ·rename_i t' o' qn l en;split at h
      ·rename_i nD;split at h
       ·rename_i hi;split at h
        ·rename_i hj;split at h
         ·rename_i e he
          refine⟨_,h,λah ρ a w hR u v hu hv=>?_⟩
          obtain⟨ad,rfl,jX⟩:=hu;obtain⟨hl,kR⟩:=HV iQ jC hv;have gD:eB w w0.heap.size ah ρ xs v.cells.toList.toArray:=by simpa using hl
          obtain⟨aC,aO,uo,MV,_,kY,fG,avE,_⟩:=Mm (w0:=w0) (N:=N) (λm=>by simp[bH]) _ _ _ _ _ _ qW ah ρ a w hR _ gD;simp only[addrAt]at jX;split at jX
          ·rename_i b n0 c0 aM;split at jX
           ·rename_i dB;injection jX with jX;subst jX;have CS:=aO.root rr _ en;generalize hx:aW.sl (.sl t' (o'+2) qn l)=x at CS;cases CS with
            |ax=>cases hx
            |mp=>cases hx
            |gh=>cases hx
            | sl uu y gE dA=>
             injection hx with hx;subst hx;rw[aM]at gE;injection gE with gE;subst gE;cases dA with
             |aA _ _ _ _ _ _ _ _ _ ho=>omega
             |dg=>simp at hi
             |dz=>simp at hi
             | own _ _ _ _ _ _ cap cs us MX hh hs sR hm hc hr=>
              subst nD;have Tx:v.cells.size=n:=by rw[hl.1,hlen]
              have sP:i*aB t'+aB t'<=c0*aB t':=by
               have:(i+1)*aB t'<=c0*aB t':=kz _ (by omega);rw[je]at this;exact this
              have ji:i*aB t'+j+v.cells.toList.length<=cs.size:=by rw[mX,Tx,hs];omega
              have hW:=Mg w b (i*aB t'+j) v.cells.toList;obtain⟨c2,fT,jt⟩:=G0 b (tid t') v.cells.toList (i*aB t'+j) w cs hh ji;have vk:∀ m,c2[m]?=if m<i*aB t'+j then cs[m]? else if m<i*aB t'+j+n then v.cells[m-(i*aB t'+j)]? else cs[m]?:=by
               intro m;have e2:c2[m]?=(splice cs.toList (i*aB t'+j) v.cells.toList)[m]?:=by
                rw[show c2[m]?=c2.toList[m]? by simp,jt];rfl
               rw[e2,yf _ _ _ (by simpa using ji),mX,Tx];simp
              have HR:c2.size=cs.size:=by
               rw[<-mX,jt];have:=uh cs.toList (i*aB t'+j) v.cells.toList (by simpa using ji);simp only[splice]at this;rw[this];simp
              have MW:b<w.heap.size:=(gS.1 hh).1;have hz:w.heap.size<=(w.setCells b (i*aB t'+j) v.cells.toList).heap.size:=Nat.le_of_eq hW.size.symm;have yB:∀b',b'<w.heap.size->aC b'≠some [rr]->(w.setCells b (i*aB t'+j) v.cells.toList).heap[b']?=w.heap[b']?:=λb' _ bg=>hW.block b' (by rintro rfl;exact bg MX)
              have HW:w.there b (i*aB t'+j) v.cells.size:=by
               intro m og;refine⟨?_,frozen_of_row w b _ cs _ hh⟩;rw[cell_of_row w b _ cs _ _ hh];rw[mX]at ji;simp;omega
              have ia:vs.length=n:=by rw[uo,hlen]
              refine⟨_,aC,Sg w b _ t v HW (by rw[Tx];exact hn) kR,aO.kU (ns:=[rr]) (cn:=[]) (eX:=ρ) (dD:=aC) ⟨hz,λb' ug hk=>⟨hW.block b' ?_,rfl⟩,λ_ _=>rfl,λb' k hk=>(aO.dn b' k hk).2⟩
               ⟨hW.os,hW.tape,hW.output,hz,λk hk hL=>hW.block k ?_⟩ (λb' k hk=>?_) (λr hr=>by cases hr) (λr0 x hx=>?_)⟩
              ·rintro rfl;have:=hk _ MX;simp[cF,cc]at this
              ·rintro rfl;rcases(aO.dn k _ MX).1 with h1 | h1
               ·exact absurd hk (Nat.not_lt.2 h1)
               ·exact h1 hL
              ·have:=aO.dn b' k hk;exact⟨this.1,mG this.2.1 hz,this.2.2⟩
              ·have di:r0=rr/\x = .sl (.sl t' (o'+2) qn (l.set i e)):=by
                simp only[List.lookup]at hx;split at hx
                next ug=>injection hx with hx;exact⟨by simpa using ug,hx.symm⟩
                ·cases hx
               obtain⟨rfl,rfl⟩:=di;refine .sl _ _ aM ?_
               refine RV.Mh (u:=us) (us:=λ_ m=>v.cells.getD (m-j) undef) (cs:=cs) (xs:=vs) MX fT (HR.trans hs) sR hm hi (by rw[ia];exact hj) he (λi' h' j' x cV HQ=>?_) (λm x cV=>?_)
               ·have qD:j'<aB t':=by have:=(dJ.1 cV).1;rwa [lO]at this
                refine⟨?_,(hr i' h' j' x cV).under (n:=r0) (.inl (by simp)) hz yB (λ_ _=>rfl)⟩
                rw[vk];have vl:¬ (¬ i'*aB t'+j'<i*aB t'+j/\i'*aB t'+j'<i*aB t'+j+n):=by
                 rintro⟨h1,h2⟩;rcases Nat.lt_trichotomy i' i with bC|heq|EL
                 ·have:(i'+1)*aB t'<=i*aB t':=kz _ bC;rw[je]at this;omega
                 ·subst heq;exact HQ ⟨rfl,by omega,by omega⟩
                 ·have:(i+1)*aB t'<=i'*aB t':=kz _ EL;rw[je]at this;omega
                split
                ·exact hc i' h' j' x cV
                ·rw[bJ (by omega)];exact hc i' h' j' x cV
               ·obtain⟨v0,qL,Cn⟩:=MV m x cV;have og:m<n:=by rw[<-ia];exact(dJ.1 cV).1
                have Mv:v.cells[m]?=some v0:=by simpa using qL
                have vm:v.cells.getD (j+m-j) undef=v0:=by rw[show j+m-j=m by omega,jy,Mv];rfl
                show c2[_]?=some (v.cells.getD (j+m-j) undef)/\RV _ _ _ _ _ (v.cells.getD (j+m-j) undef);rw[vm,vk,bJ (by omega),bu (by omega)];rw[fQ]at Cn
                refine⟨?_,Cn.under (n:=r0) (.inl (by simp)) hz yB (λ_ _=>rfl)⟩
                rw[show i*aB t'+(j+m)-(i*aB t'+j)=m by omega];exact Mv
           ·cases jX
          ·cases jX
         ·cases h
        ·cases h
       ·cases h
      ·cases h
     ·cases h
    ·cases h
  ·cases h
 ·cases h
theorem ai2{t:TypeId}{x y:A}{k:S->aj X}(h:tq P σ t x y k=some r):∃ τ,k τ=some r/\cD (λX k=>tq (X:=X) P σ t x y k) τ:=by
 unfold tq at h;split at h
 ·rename_i n xs j i s rr hn iQ;split at h
  ·rename_i hlen;cases jC:xs.all Lf.live with
   |false=>rw[jC]at h;cases h
   | true=>
    rw[jC,aq]at h;split at h
    ·rename_i vs τ qW;split at h
     ·rename_i t' o' qn l en;split at h
      ·rename_i nD;split at h
       ·rename_i hi;split at h
        ·rename_i hj;split at h
         next e he=>exact⟨_,h,λX k=>by simp only[tq,hn,iQ,bu hlen,jC,aq,qW,en,bu nD,aK hi,bu hj,he]⟩
         ·cases h
        ·cases h
       ·cases h
      ·cases h
     ·cases h
    ·cases h
  ·cases h
 ·cases h
end
end Go.Proofs.YtcioagfjiccleaaGreat
namespace Go.Proofs.YtcioagfjiccleaaGreat
open Go.RowKit
set_option linter.unusedVariables false
def MY(P:Program)(f:Nat)(F:af Int->aj Int):Prop:=
 ∀ (w:World) (l:af (T .u8)) (h:Int) (v:Value),F l=some h->RV w w.heap.size (λ_=>none) [] (.sl .u8 0 false l) v->Hd w (λ_=>none)->Calls P f #[v] w λe w'=>
  ∃b off cells t,e = .returned (.pointer (some ⟨b,off,none⟩))/\Below w.heap.size w w'/\w.heap.size<=b/\w'.heap[b]?=some (.cells cells t (0,0))/\cells[off]?=some v/\cells[off+1]?=some (.int .i64 0)/\cells[off+2]?=some (.int .i64 h)
def CT{X:Type}(N:Nat)(σ:S)(d:Nat)(F:af Int->aj Int)(x:A)(k:S->aj X):aj X:=
 match x with
 | .lf (.v (.sl .u8 0 q l))=>bif Nat.blt d N then (match F l with
  |some h=>k (((σ.drop (1000000000100000+1000*d)).root (1000000000100000+1000*d) (.ax [.v (.sl .u8 0 q l),.v (.int .i64 0),.v (.int .i64 h)])).set d (.aG (1000000000100000+1000*d) 0))
  |none=>none)else none
 |_=>none
structure CU where
 a:Nat
 j:Nat
 t:TC
 run:List Pt->Option (Nat×Nat)
def vG(bQ:Array Value)(a j:Nat):aj Value:=match bQ[a]? with
 |some (.agg us)=>us[j]?
 |some u=>bif Nat.beq j 0 then some u else none
 |none=>none
def MZ(P:Program)(f:Nat)(c:CU):Prop:=
 ∀ (args:af Pt) (p:Nat×Nat),c.run args=some p->∀ (w:World) (bQ:Array Value),wS w args bQ->Hd w (λ_=>none)->Calls P f bQ w λe w'=>
  ∃A n cap,vG bQ c.a c.j=some (.slice A n cap)/\p.1<=p.2/\p.2<=n/\e = .returned (sliced A p.1 p.2 cap (aB c.t))/\Below w.heap.size w w'
def Z2(σ:S)(args:af Operand)(a j:Nat):aj Lf:=match args[a]? with
 | some x=>(match aF σ x with
  |.agg cs=>cs[j]?
  |.lf l=>bif Nat.beq j 0 then some l else none
  |_=>none)
 |none=>none
def CV{X:Type}(N:Nat)(σ:S)(d:Nat)(c:CU)(args:af Operand)(k:S->aj X):aj X:=
 bif Nat.blt d N then mL σ args λps=>(match c.run ps with
  | some p=>(match Z2 σ args c.a c.j with
   |some (.v (.sl t g _ l))=>if t=c.t then (bif Nat.blt g 2&&Nat.ble p.1 p.2&&Nat.ble p.2 l.length then k (σ.set d (.lf (.v (.sl t g false ((l.take p.2).drop p.1)))))else none)else none
   |_=>none)
  |none=>none)else none
structure vH where
 run:(X:Type)->Nat->S->List A->(S->A->Option X)->Option X
def r9(P:Program)(f:Nat)(c:vH):Prop:=
 ∀ [Inhabited Wd] (X:Type) (N:Nat) (σ:S) (xs:af A) (k:S->A->aj X) (r:X),c.run X N σ xs k=some r->∃ az y,k az y=some r/\(∀ (X':Type) (k':S->A->aj X'),c.run X' N σ xs k'=k' az y)/\
  ∀ (w0:Wd) (ah:bE) (ρ:Nat->Loc) (a:Act) (w:World) (bQ:Array Value),Rl w0 N ah ρ σ a w->bQ.size=xs.length->(∀ i,RA w w0.heap.size ah ρ ((xs[i]?).getD .undef) (bQ.getD i undef))->
   Calls P f bQ w λe w'=>∃v aC ρ',e = .returned v/\Rl w0 N aC ρ' az a w'/\RA w' w0.heap.size aC ρ' y v
inductive sg where
 |p (c:mb)
 |m (c:pG)
 |n (F:List Int->Option Int)
 |v (c:CU)
 |i (c:vH)
 |d (c:pG)
 |q (c:mb)
 |c (c:pG)
def Ty(P:Program)(f:Nat):sg->Prop
 |.p c=>lD P f c
 |.m c=>wX P f c
 |.n F=>MY P f F
 |.v c=>MZ P f c
 |.i c=>r9 P f c
 |.d c=>wX P f c
 |.q c=>lD P f c
 |.c c=>wX P f c
section
variable {P:Program} {w w':World} {w0:Wd} {B N:Nat} {ah dD aC:bE} {ρ eX ρ':Nat->Loc} {σ:S} {a:Act} {X:Type} {d:Nat} {r:X} {ns cn:af Nat} {o:Oper}
theorem Tz:∀ (xs:af Lf) (k:af V->aj X),qS σ ns xs k=some r->∃ vs,k vs=some r/\cD (λX k=>qS (X:=X) σ ns xs k) vs
 |[],k,h=>⟨[],h,λX k=>rfl⟩
 | x :: xs,k,h=>by
  unfold qS at h;cases ho:MI ns x with
  |false=>rw[ho]at h;cases h
  | true=>
   rw[ho,aq]at h;obtain⟨y,h2,hd⟩:=E3 h;obtain⟨ys,h3,lG⟩:=Tz xs _ h2;exact⟨_,h3,λX k=>by
    simp only[qS,ho,aq];exact(hd.at_ _).trans (lG.at_ _)⟩
theorem Z3{x:A}{k:Pt->aj X}(h:qb σ ns x k=some r):∃ p,k p=some r/\cD (λX k=>qb (X:=X) σ ns x k) p:=by
 unfold qb at h;split at h
 next y=>obtain⟨vs,h2,hd⟩:=Tz _ _ h;exact⟨_,h2,λX k=>hd X (λvs=>k (false,vs))⟩
 next ys=>obtain⟨vs,h2,hd⟩:=Tz _ _ h;exact⟨_,h2,λX k=>hd X (λvs=>k (true,vs))⟩
 ·exact⟨_,h,λX k=>rfl⟩
 ·rename_i f r' j;cases CH:cc r' ns with
  |true=>rw[CH]at h;cases h
  | false=>
   rw[CH,au]at h;split at h
   ·rename_i cs hm;split at h
    next c vs iP=>exact⟨_,h,λX k=>by simp only[qb,CH,au,hm,iP]⟩
    ·cases h
   ·cases h
 ·cases h
theorem CW:∀ (ps:af PK) (xs:af Operand) (aL:af Mu) (k:nL ps->aj X),jR σ ns ps xs aL k=some r->∃ x,k x=some r/\cD (λX k=>jR (X:=X) σ ns ps xs aL k) x
 |[],[],[],k,h=>⟨(),h,λX k=>rfl⟩
 | .v b t :: ps,x :: xs,aL,k,h=>by
  unfold jR at h;obtain⟨p,h2,hd⟩:=Z3 h;cases hb:p.1==b with
  |false=>rw[hb]at h2;cases h2
  | true=>
   rw[hb,aq]at h2;split at h2
   ·rename_i y hy;obtain⟨ys,h3,lG⟩:=CW ps xs aL _ h2;exact⟨_,h3,λX k=>by
     show qb σ ns (aF σ x) _=_;refine(hd.at_ _).trans ?_;rw[hb,aq,hy];exact lG.at_ _⟩
   ·cases h2
 | .p t g off :: ps,x :: xs,.ax r' cs vs :: aL,k,h=>by
  unfold jR at h;split at h
  ·rename_i y hy;obtain⟨ys,h3,lG⟩:=CW ps xs aL _ h;exact⟨_,h3,λX k=>by
    simp only[jR,hy];exact lG.at_ _⟩
  ·cases h
 | .s t g :: ps,x :: xs,.sl q y0 :: aL,k,h=>by
  unfold jR at h;split at h
  ·rename_i y hy;obtain⟨ys,h3,lG⟩:=CW ps xs aL _ h;exact⟨_,h3,λX k=>by
    simp only[jR,hy];exact lG.at_ _⟩
  ·cases h
 |[],[],_::_,k,h=>by cases h
 |[],_::_,_,k,h=>by cases h
 |.v _ _::_,[],_,k,h=>by cases h
 |.p _ _ _::_,[],_,k,h=>by cases h
 |.s _ _::_,[],_,k,h=>by cases h
 |.p _ _ _::_,_::_,[],k,h=>by cases h
 |.s _ _::_,_::_,[],k,h=>by cases h
 |.p _ _ _::_,_::_,.sl _ _::_,k,h=>by cases h
 |.s _ _::_,_::_,.ax _ _ _::_,k,h=>by cases h
theorem Z4{dst:aj Tmp}{res:iF}{k:S->aj X}(h:oy N σ dst res k=some r):∃ τ,k τ=some r/\cD (λX k=>oy (X:=X) N σ dst res k) τ:=by
 unfold oy at h;cases dst with
 |none=>exact⟨σ,h,λX k=>rfl⟩
 | some d=>
  have h:(bif Nat.blt d N then (match res with
   | .one p=>(match sU (p.1,mc (1000000000100000+1000*d) p.2)with
    |some y=>k ((jP (1000000000100000+1000*d) σ p.2).set d y)
    |none=>none)
   |.cP ps=>k ((mM (1000000000100000+1000*d) σ ps).set d (.cP (nJ (1000000000100000+1000*d) ps))))else none)=some r:=h
  cases hN:Nat.blt d N with
  |false=>rw[hN]at h;cases h
  | true=>
   rw[hN,aq]at h;cases res with
   | one p=>
    simp only at h;split at h
    next y hy=>exact⟨_,h,λX k=>by simp only[oy,hN,aq,hy]⟩
    ·cases h
   |cP ps=>exact⟨_,h,λX k=>by simp only[oy,hN,aq]⟩
theorem TA{dst:aj Tmp}{c:pG}{args:af Operand}{k:S->aj X}(h:nM N σ dst c args k=some r):∃ τ,k τ=some r/\cD (λX k=>nM (X:=X) N σ dst c args k) τ:=by
 unfold nM at h;split at h
 ·rename_i aL oz;cases kC:(once (mN 0 aL)&&Nat.ble aL.length 40)with
  |false=>rw[kC]at h;cases h
  | true=>
   rw[kC,aq]at h;obtain⟨x,h2,hd⟩:=CW _ _ _ _ h;split at h2
   ·rename_i y hy;unfold AT at h2;generalize eK:CJ N aL (jQ (fC c.ps) y.2) (ox (ju dst) (fK c.ro y.1).len aL (jQ (fC c.ps) y.2))=ok at h2;cases ok with
    |false=>cases h2
    | true=>
     rw[aq]at h2;obtain⟨τ,h3,CQ⟩:=Z4 h2;exact⟨τ,h3,λX k=>by
      simp only[nM,oz,kC,aq];refine(hd X _).trans ?_;simp only[hy,AT,eK,aq];exact CQ.at_ _⟩
   ·cases h2
 ·cases h
theorem ai3{F:af Int->aj Int}{x:A}{k:S->aj X}(h:CT N σ d F x k=some r):∃ τ,k τ=some r/\cD (λX k=>CT (X:=X) N σ d F x k) τ:=by
 unfold CT at h;split at h
 ·cases hN:Nat.blt d N with
  |false=>rw[hN]at h;cases h
  | true=>
   rw[hN,aq]at h;split at h
   next z hz=>exact⟨_,h,λX k=>by simp only[CT,hN,aq,hz]⟩
   ·cases h
 ·cases h
theorem ai4{f:Nat}{x:Operand}{args:Array Operand}{dV:Array TypeId}{F:af Int->aj Int}{k:S->aj X}(ho:o.op = .call { callee:=.value (.func f),args,argTypes:=dV })(hx:args.toList=[x])(hd:o.dst=some d)(he:enters P f)(hc:MY P f F)(h:CT N σ d F (aF σ x) k=some r):
  ∃az,k az=some r/\nE P w0 N o σ az:=by
 unfold CT at h;split at h
 ·rename_i q l hq;cases hN:Nat.blt d N with
  |false=>rw[hN]at h;cases h
  | true=>
   rw[hN,aq]at h;have yH:d<N:=cH hN;split at h
   ·rename_i hz hhz
    refine⟨_,h,λa w K Q hR hK=>?_⟩
    obtain⟨ah,ρ,hR⟩:=hR;have hv:=hR.aF x;rw[hq]at hv;have qL:RV w w.heap.size (λ_=>none) [] (.sl .u8 0 false l) (a.eval x):=by
     have h0:RV w w.heap.size (λ_=>none) [] (.sl .u8 0 q l) (a.eval x):=hv.2.ja;cases q with
     |false=>exact h0
     |true=>exact h0.wk (.q _ _ _)
    unfold Oper.wp;rw[MD w o a f args dV ho he,Oper.upon_enter];have yI:(args.map a.eval) = #[a.eval x]:=by apply Array.ext';rw[Array.toList_map,hx];rfl
    rw[yI]
    refine(hc w l _ _ hhz qL (w0.on hR.below (λ_ _ h=>by cases h))).mono λe w' s8=>?_
    obtain⟨b,off,cells,t,rfl,iE,hb,hh,vC,AZ,jt⟩:=s8;have hB:=hR.below.size;have fk:b<w'.heap.size:=(gS.1 hh).1;have r8:Rl w0 N (bP ah b (some [1000000000100000+1000*d])) ρ σ a w':=by
     refine hR.grow iE (λc oh=>cL _ _ _ (by omega)) (λc k oh hk=>?_)
     by_cases e:c=b
     ·subst e;rw[bY]at hk;injection hk with hk;subst hk;exact⟨fk,by simp⟩
     ·rw[cL _ _ _ e]at hk;have:=(hR.dn c k hk).2.1;omega
    have ki:=r8.new (d:=1000000000100000+1000*d) (x:=.ax [.v (.sl .u8 0 q l),.v (.int .i64 0),.v (.int .i64 hz)]) (.ax b off) (by
     refine .ax b off cells t _ (λj=>(#[a.eval x,.int .i64 0,.int .i64 hz]:Array Value).getD j undef) (bY _ _ _) (bY _ _ _) hh (by
      have:=(gS.1 jt).1;simp;omega) (λj y hy=>?_)
     have wP:dN w' w0.heap.size (bP ah b (some [1000000000100000+1000*d])) (bP ρ (1000000000100000+1000*d) (.ax b off)) (.v (.sl .u8 0 q l)) (a.eval x):=by
      refine⟨rfl,hv.2.iD iE.size (λc oh=>⟨iE.block c oh,cL _ _ _ (by omega)⟩)⟩
     match j,hy with
     |0,hy=>simp at hy;subst hy;exact⟨vC,wP⟩
     |1,hy=>simp at hy;subst hy;exact⟨AZ,rfl,.int _ _ _⟩
     |2,hy=>simp at hy;subst hy;exact⟨jt,rfl,.int _ _ _⟩
     |j+3,hy=>simp at hy) (hR.dQ _ (.inr (by omega)))
    rw[hd];exact hK _ _ ⟨_,_,ki.set ⟨b,off,bY _ _ _,rfl⟩ yH⟩
   ·cases h
 ·cases h
theorem ai5{f:Nat}{args:Array Operand}{dV:Array TypeId}{c:CU}{k:S->aj X}(ho:o.op = .call { callee:=.value (.func f),args,argTypes:=dV })(hd:o.dst=some d)(he:enters P f)(hc:MZ P f c)(h:CV N σ d c args.toList k=some r):∃ az,k az=some r/\nE P w0 N o σ az:=by
 unfold CV at h;cases hN:Nat.blt d N with
 |false=>rw[hN]at h;cases h
 | true=>
  rw[hN,aq]at h;have yH:d<N:=by have:=cH hN;omega
  obtain⟨ps,h2,jn⟩:=SM (w0:=w0) (N:=N) _ _ h;split at h2
  ·rename_i p hp;split at h2
   ·rename_i t g q l hl;split at h2
    ·rename_i gG;cases hb:(Nat.blt g 2&&Nat.ble p.1 p.2&&Nat.ble p.2 l.length)with
     |false=>rw[hb]at h2;cases h2
     | true=>
      rw[hb,aq]at h2;rw[aJ,aJ]at hb;have hg:g<2:=by have:=cH hb.1.1;omega
      have jz:=cH hb.1.2;have h2l:=cH hb.2
      refine⟨_,h2,λa w K Q hR hK=>?_⟩
      obtain⟨ah,ρ,hR⟩:=hR;unfold Oper.wp;rw[MD w o a f args dV ho he,Oper.upon_enter];have yI:(args.map a.eval)=(args.toList.map a.eval).toArray:=by apply Array.ext';rw[Array.toList_map]
      rw[yI]
      refine(hc ps p hp w _ (jn ah ρ a w hR) (w0.on hR.below (λ_ _ h=>by cases h))).mono λe w' s8=>?_
      obtain⟨A,n,cap,e1,hle,hn,rfl,iE⟩:=s8;have l7:RV w w0.heap.size ah [] (.sl t g q l) (.slice A n cap):=by
       unfold Z2 at hl;split at hl
       ·rename_i x hx;have hev:((args.toList.map a.eval).toArray)[c.a]?=some (a.eval x):=by
         rw[List.getElem?_toArray,dH,hx];rfl
        unfold vG at e1;rw[hev]at e1;have yQ:=hR.aF x;split at hl
        next cs dL=>rw[dL]at yQ;obtain⟨us,gD,wQ⟩:=yQ;rw[gD]at e1;obtain⟨u,hu,hr⟩:=wQ.2 _ _ hl;simp only at e1;rw[e1]at hu;injection hu with hu;subst hu;exact hr.2
        ·rename_i lf vw;rw[vw]at yQ;cases hj:Nat.beq c.j 0 with
         |false=>rw[hj]at hl;cases hl
         | true=>
          rw[hj]at hl e1;injection hl with hl;subst hl;have yQ:dN w w0.heap.size ah ρ (.v (.sl t g q l)) (a.eval x):=yQ;have xh:∀ us,a.eval x ≠ .agg us:=by
           intro us e;rw[e]at yQ;cases yQ.2
          generalize a.eval x=z at e1 yQ xh;cases z<;>first|exact absurd rfl (xh _)|(simp only[aq,gp]at e1;cases e1;exact yQ.2)|(simp only[aq,gp]at e1;cases e1)
        ·cases hl
       ·cases hl
      obtain⟨TB,AJ,EX⟩:=l7.part (a:=p.1) (h:=p.2) hg jz h2l;subst gG;rw[hd];have aO:=hR.grow iE (aC:=ah) (λ_ _=>rfl) (λb k hb hk=>absurd (hR.dn b k hk).2.1 (Nat.not_lt.2 hb));refine hK _ _ ⟨ah,ρ,aO.set ⟨by simp[V.aA,hg],?_⟩ yH⟩;exact TB.iD iE.size λb hb=>⟨iE.block b hb,rfl⟩
    ·cases h2
   ·cases h2
  ·cases h2
theorem ai6{c:CU}{args:af Operand}{k:S->aj X}(h:CV N σ d c args k=some r):∃ τ,k τ=some r/\cD (λX k=>CV (X:=X) N σ d c args k) τ:=by
 unfold CV at h;cases hN:Nat.blt d N with
 |false=>rw[hN]at h;cases h
 | true=>
  rw[hN,aq]at h;obtain⟨ps,h2,vI⟩:=Tv _ _ h;split at h2
  ·rename_i p hp;split at h2
   ·rename_i t g q l hl;split at h2
    ·rename_i gG;cases hb:(Nat.blt g 2&&Nat.ble p.1 p.2&&Nat.ble p.2 l.length)with
     |false=>rw[hb]at h2;cases h2
     | true=>
      rw[hb,aq]at h2
      refine⟨_,h2,λX k=>?_⟩
      simp only[CV,hN,aq];exact(vI.at_ _).trans (by simp only[hp,hl,bu gG,hb,aq])
    ·cases h2
   ·cases h2
  ·cases h2
/-! Calls of functions that are run in the state of their caller. -/
def CX{X:Type}(N:Nat)(σ:S)(dst:aj Tmp)(c:vH)(xs:af A)(k:S->aj X):aj X:=c.run X N σ xs λaz y=>jM N az dst y k
def ai7(p:Nat×Nat):A:=.aG p.1 p.2
def IM(σ:S):af Operand->aj (af (Nat×Nat))
 |[]=>some []
 | x :: xs=>match aF σ x,IM σ xs with
  |.aG r j,some ps=>some ((r,j)::ps)
  |_,_=>none
theorem ai8(w:World)(o:Oper)(a:Act)(f:Nat)(cl:Operand)(vs:Array Value)(args:Array Operand)(dV:Array TypeId)(ho:o.op = .call { callee:=.value cl,args,argTypes:=dV })(hv:a.eval cl = .func (.func f) #[] vs)(he:enters P f):
  (execOp a.eval o).run P w = .ok (.enter f (args.map a.eval++vs)) w:=by
 obtain⟨fn,h1,h2,h3⟩:=he;have s7:¬ fn.name = "runtime.NumGoroutine":=by simpa using h2
 have CB:¬ fn.body=none:=by intro e;rw[e]at h3;cases h3
 simp[execOp,ho,resolve,hv,Deferred.ofValue,invoke,callFunc,fz,Sem.run,program,h1,s7,CB]
def M0:A->aj (Nat×af A)
 |.fn f cap=>some (f,cap.map ai7)
 |.mK f cs=>some (f,[.jB cs])
 |_=>none
theorem ai9{x:A}{f:Nat}{ex:af A}{u:Value}(h:M0 x=some (f,ex))(hu:RA w B ah ρ x u):∃ vs:Array Value,u = .func (.func f) #[] vs/\vs.size=ex.length/\∀ (j:Nat) y,ex[j]?=some y->RA w B ah ρ y (vs.getD j undef):=by
 unfold M0 at h;split at h
 ·rename_i f' cap;injection h with h;injection h with h1 h2;subst h1 h2;obtain⟨vs,hv,hs,ia⟩:=hu
  refine⟨vs,hv,by simp[hs],λj y hy=>?_⟩
  rw[dH]at hy;cases hp:cap[j]? with
  |none=>rw[hp]at hy;cases hy
  | some p=>
   rw[hp]at hy;injection hy with hy;subst hy;obtain⟨b,off,h1,h2⟩:=ia _ p hp;rw[jy,h2];exact⟨b,off,h1,rfl⟩
 ·injection h with h;injection h with h1 h2;subst h1 h2;obtain⟨pv,e,hp⟩:=hu
  refine⟨#[pv],e,rfl,λj y hy=>?_⟩
  rcases j with _|j
  ·injection hy with hy;subst hy;exact hp
  ·cases hy
 ·cases h
theorem Z5{f:Nat}{cl:Operand}{ex:af A}{args:Array Operand}{dV:Array TypeId}{c:vH}{k:S->aj X}(ho:o.op = .call { callee:=.value cl,args,argTypes:=dV })(dZ:M0 (aF σ cl)=some (f,ex))(he:enters P f)(hc:r9 P f c)
  (h:CX N σ o.dst c (args.toList.map (aF σ)++ex) k=some r):∃az,k az=some r/\nE P w0 N o σ az:=by
 unfold CX at h
 haveI:Inhabited Wd:=⟨w0⟩
 obtain⟨nc,y,hk,_,Ip⟩:=hc _ _ _ _ _ _ h;have step:∀ a w K Q,R w0 N σ a w->(∀ v w' aC ρ',Rl w0 N aC ρ' nc a w'->RA w' w0.heap.size aC ρ' y v->K (a.put o.dst v) w')->o.wp P a w K Q:=by
  intro a w K Q hR hK;obtain⟨ah,ρ,hR⟩:=hR;obtain⟨vs,hv,hs,ia⟩:=ai9 dZ (hR.aF cl);unfold Oper.wp;rw[ai8 w o a f cl vs args dV ho hv he,Oper.upon_enter]
  refine(Ip w0 ah ρ a w _ hR (by simp[hs]) λi=>?_).mono λe w' s8=>?_
  ·by_cases hi:i<args.size
   ·have e1:(args.toList.map (aF σ)++ex)[i]?=some (aF σ args[i]):=by
     rw[List.getElem?_append_left (by simpa using hi),dH,nu,Array.getElem?_eq_getElem hi];rfl
    have e2:(args.map a.eval++vs).getD i undef=a.eval args[i]:=by
     rw[jy,Array.getElem?_append_left (by simpa using hi)];simp[hi]
    rw[e1,e2];exact hR.aF _
   ·have e0:(args.toList.map (aF σ)++ex)[i]?=ex[i-args.size]?:=by
     rw[List.getElem?_append_right (by simp;omega)];simp
    rw[e0];cases hp:ex[i-args.size]? with
    |none=>trivial
    | some p=>
     have e2:(args.map a.eval++vs).getD i undef=vs.getD (i-args.size) undef:=by
      rw[jy,Array.getElem?_append_right (by simp;omega),jy];simp
     rw[e2];exact ia _ p hp
  ·obtain⟨v,aC,ρ',rfl,aO,hy⟩:=s8;exact hK v w' aC ρ' aO hy
 unfold jM at hk;split at hk
 ·rename_i hd
  refine⟨nc,hk,λa w K Q hR hK=>step a w K Q hR λv w' aC ρ' aO _=>?_⟩
  rw[hd];exact hK _ _ ⟨aC,ρ',aO⟩
 ·rename_i d hd;cases hN:Nat.blt d N with
  |false=>rw[hN]at hk;cases hk
  | true=>
   rw[hN,aq]at hk
   refine⟨_,hk,λa w K Q hR hK=>step a w K Q hR λv w' aC ρ' aO hy=>?_⟩
   rw[hd];exact hK _ _ ⟨aC,ρ',aO.set hy (by have:=cH hN;omega)⟩
theorem Z6:∀ (xs:af Operand) (ps:af (Nat×Nat)),IM σ xs=some ps->ps.length=xs.length/\∀ ah ρ a w,Rl w0 N ah ρ σ a w->∀ (j:Nat) p,ps[j]?=some p->∃ b off,ρ p.1 = .ax b off/\(xs.map a.eval)[j]?=some (.pointer (some ⟨b,off+p.2,none⟩))
 | [],ps,h=>by
  simp only[IM,gp]at h;subst h;exact⟨rfl,λ_ _ _ _ _ j p hp=>by simp at hp⟩
 | x :: xs,ps,h=>by
  unfold IM at h;split at h
  ·rename_i rr j ot h1 h2;injection h with h;subst h;obtain⟨k1,k2⟩:=Z6 xs ot h2
   refine⟨by simp[k1],λah ρ a w hR j' p hp=>?_⟩
   cases j' with
   | zero=>
    simp only[List.getElem?_cons_zero,gp]at hp;subst hp;have hv:=hR.aF x;rw[h1]at hv;obtain⟨b,off,e1,e2⟩:=hv;exact⟨b,off,e1,by simp[e2]⟩
   | succ j'=>
    obtain⟨b,off,e1,e2⟩:=k2 ah ρ a w hR j' p (by simpa using hp);exact⟨b,off,e1,by simpa using e2⟩
  ·cases h
end
end Go.Proofs.YtcioagfjiccleaaGreat
namespace Go.Proofs.YtcioagfjiccleaaGreat
open Go.RowKit
set_option linter.unusedVariables false
def A.A0(q s n:Nat):A->A
 |.lf (.own [q'])=>bif Nat.beq q' q then .view [q] s 0 n else .lf (.own [q'])
 |x=>x
def S.A0(σ:S)(p:Nat×Nat×Nat):S:=⟨λk=>(σ.t k).A0 p.1 p.2.1 p.2.2,σ.m⟩
def TD:af (Nat×Nat×Nat)->S->S
 |[],σ=>σ
 |p::l,σ=>TD l (σ.A0 p)
def TE(c0 g:Nat):Mu->af (Nat×Nat×Nat)
 |.sl q (.sl t _ _ l)=>bif Nat.ble 1000000 g&&Nat.blt q c0 then [(q,aB t,l.length)]else []
 |_=>[]
def IN(c0:Nat):af PK->af Mu->af (Nat×Nat×Nat)
 |.v _ _::ps,aL=>IN c0 ps aL
 |.p _ _ _::ps,_::aL=>IN c0 ps aL
 |.s _ g::ps,mu::aL=>TE c0 g mu++IN c0 ps aL
 |_,_=>[]
def CY{X:Type}(N:Nat)(σ:S)(dst:aj Tmp)(c:pG)(args:af Operand)(k:S->aj X):aj X:=
 match lF σ c.ps args with
 |some aL=>nM N σ dst c args λaz=>k (TD (IN (ju dst) c.ps aL) az)
 |none=>none
section
variable {P:Program} {w w':World} {w0:Wd} {B N:Nat} {ah dD aC:bE} {ρ eX ρ':Nat->Loc} {σ:S} {a:Act} {X:Type} {d:Nat} {r:X} {o:Oper}
theorem Rl.A0{p:Nat×Nat×Nat}{ad:aj Addr}{c:Nat}(h:Rl w0 N ah ρ σ a w)(hq:ρ p.1 = .dP (.slice ad p.2.2 c)):Rl w0 N ah ρ (σ.A0 p) a w:=by
 refine⟨h.below,h.dn,h.root,λk=>?_,h.size,h.defers,h.fix,h.dQ⟩
 have hk:=h.tmp k;show RA _ _ _ _ ((σ.t k).A0 p.1 p.2.1 p.2.2) _;generalize σ.t k=x at hk;unfold A.A0;split
 ·rename_i q';cases hb:Nat.beq q' p.1 with
  |false=>exact hk
  | true=>
   obtain rfl:=cz hb;have h2:=hk.2;simp only[cE,hq]at h2;injection h2 with h2;refine⟨ad,p.2.2,c,by simp only[cE,hq],Nat.zero_le _,gZ _,?_⟩;rw[<-h2];cases ad<;>simp[sliced,Addr.add]
 ·exact hk
theorem Z7:∀ (l:af (Nat×Nat×Nat)) (σ:S),Rl w0 N ah ρ σ a w->(∀ p∈l,∃ A c,ρ p.1 = .dP (.slice A p.2.2 c))->Rl w0 N ah ρ (TD l σ) a w
 |[],σ,h,_=>h
 | p :: l,σ,h,hl=>by
  obtain⟨A,c,hp⟩:=hl p (.head _);exact Z7 l _ (h.A0 hp) λp hp=>hl p (.tail _ hp)
theorem aja{c0 g:Nat}{mu:Mu}{p:Nat×Nat×Nat}(h:p∈TE c0 g mu):∃ q t o qn l,mu = .sl q (.sl t o qn l)/\p=(q,aB t,l.length)/\q<c0:=by
 unfold TE at h;split at h
 ·rename_i q t o qn l;cases hb:(Nat.ble 1000000 g&&Nat.blt q c0)with
  |false=>rw[hb]at h;cases h
  | true=>
   rw[hb,aq]at h;rw[aJ]at hb;exact⟨q,t,o,qn,l,rfl,List.mem_singleton.1 h,cH hb.2⟩
 ·cases h
theorem M1{c0:Nat}{p:Nat×Nat×Nat}:∀ (ps:af PK) (aL:af Mu),p∈IN c0 ps aL->∃ q t o qn l,Mu.sl q (.sl t o qn l)∈aL/\p=(q,aB t,l.length)/\q<c0
 |.v _ _::ps,aL,h=>M1 ps aL h
 |.p _ _ _::ps,mu::aL,h=>let ⟨q,t,o,qn,l,h1,h2⟩:=M1 ps aL h;⟨q,t,o,qn,l,.tail _ h1,h2⟩
 | .s _ g :: ps,mu :: aL,h=>by
  rcases List.mem_append.1 h with h|h
  ·obtain⟨q,t,o,qn,l,rfl,h2⟩:=aja h;exact⟨q,t,o,qn,l,.head _,h2⟩
  ·obtain⟨q,t,o,qn,l,h1,h2⟩:=M1 ps aL h;exact⟨q,t,o,qn,l,.tail _ h1,h2⟩
 |[],_,h=>by cases h
 |.p _ _ _::_,[],h=>by cases h
 |.s _ _::_,[],h=>by cases h
theorem RV.ajb{q:af Nat}{t:TC}{g:Nat}{qn:Bool}{l:af (T t)}{v:Value}(h:RV w B ah q (.sl t g qn l) v):∃ A c,v = .slice A l.length c:=by
 cases h<;>exact⟨_,_,rfl⟩
theorem ajc{f:Nat}{args:Array Operand}{dV:Array TypeId}{c:pG}{k:S->aj X}(ho:o.op = .call { callee:=.value (.func f),args,argTypes:=dV })(he:enters P f)(hc:wX P f c)(h:CY N σ o.dst c args.toList k=some r):∃ az,k az=some r/\nE P w0 N o σ az:=by
 unfold CY at h;split at h
 ·rename_i aL oz;obtain⟨nc,lR,cn,h1,h2,_,h4,h5⟩:=Th (w0:=w0) ho he hc h;rw[oz]at h2;injection h2 with h2;subst h2
  refine⟨_,h1,λa w K Q hR hK=>?_⟩
  obtain⟨ah,ρ,hR⟩:=hR
  refine h5 a w K Q ah ρ hR λv w' dD eX uz aO hv _ aM=>hK _ _ ⟨dD,uz,Z7 _ _ aO λp hp=>?_⟩
  obtain⟨q,t,oo,qn,l,hm,rfl,hq⟩:=M1 _ _ hp;have iG:=(MK _ _ _ oz _ hm).1;have cQ:=hR.root q _ iG;generalize hz:aW.sl _=z at cQ;cases cQ with
  |ax=>cases hz
  |mp=>cases hz
  |gh=>cases hz
  | sl u y jW hr=>
   injection hz with hz;subst hz;obtain⟨A,c,rfl⟩:=hr.ajb;exact⟨A,c,(aM q hq).trans ((hv.eW q (h4 _ hm)).trans jW)⟩
 ·cases h
theorem ajd{dst:aj Tmp}{c:pG}{args:af Operand}{k:S->aj X}(h:CY N σ dst c args k=some r):∃ τ,k τ=some r/\∀ (X:Type) (k:S->aj X),CY N σ dst c args k=k τ:=by
 unfold CY at h;split at h
 next aL oz=>obtain⟨τ,h1,h2⟩:=TA h;exact⟨_,h1,λX k=>by simp only[CY,oz];exact h2 X _⟩
 ·cases h
end
end Go.Proofs.YtcioagfjiccleaaGreat
namespace Go.Proofs.YtcioagfjiccleaaGreat
open Go.RowKit
set_option linter.unusedVariables false
def bE.un(ah:bE)(q:Nat):bE:=λb=>match ah b with
 |some k=>bif bH q k then none else some k
 |none=>none
def A1{X:Type}(P:Program)(σ:S)(q s i j:Nat)(t:TypeId)(x:A)(k:S->aj X):aj X:=
 match σ.m q with
 |some (.sl (.sl tc (o+2) qn l))=>bif Nat.beq s (aB tc)&&Nat.beq (full tc) 0 then o7 P (σ.drop q) t (x.drop q) (.lf (.v (.sl tc 0 false ((l.take j).drop i)))) k else none
 |_=>none
section
variable {P:Program} {w w':World} {w0:Wd} {B N:Nat} {ah aC:bE} {ρ ρ':Nat->Loc} {σ:S} {a:Act} {X:Type} {d q:Nat} {r:X} {o:Oper}
theorem aje(bg:∀ b,ah b≠some []):Rel q ah (ah.un q):=
 ⟨bg,λb h=>by simp[bE.un,h],λb k h hk=>by simp[bE.un,h,hk]⟩
theorem RV.ice{tc:TC}{g:Nat}{qn:Bool}{l:af (T tc)}{A:aj Addr}{n c:Nat}(hr:RV w B ah [q] (.sl tc (g+2) qn l) (.slice A n c))(hf:full tc=0):RV w B (ah.un q) [] (.sl tc 0 false l) (.slice A n c)/\n=l.length:=by
 cases hr with
 |dc=>exact⟨.dc _ _ _,rfl⟩
 |dg=>exact⟨.dg _ _ _ _ _ (by omega),rfl⟩
 |dz=>exact⟨.dg _ _ _ _ _ (by omega),rfl⟩
 |aA _ _ _ _ _ _ _ _ _ ho=>omega
 | own=>
  rename_i b cs u hl hh hc hr hs hn hm;have iP:∀ (i:Nat) (h:i<l.length) (j:Nat) (x:V),(enc tc 0 l[i])[j]?=some x->(enc tc g l[i])[j]?=some x/\x.plain=true:=by
   intro i h j x hx;obtain⟨y,hy,rfl⟩:=yd tc g l[i] j x hx;have hp:=Md tc g l[i] y (iy hy);cases y with
   | sl t' o' q' l'=>
    have:=cH (show Nat.ble (full t'+2) (full tc)=true from hp);omega
   | nil=>
    have:=R4 tc g l[i] _ (iy hy);cases this
   |_=>exact⟨hy,rfl⟩
  refine⟨.aA _ _ _ _ _ b 0 c u (by omega) (by simp[bE.un,hl,bH]) (gS.1 hh).1 (by omega) hn (λi h j x hx=>?_) (λi h j x hx=>?_),rfl⟩
  ·rw[fQ,cell_of_row w b _ cs _ _ hh];exact hc i h j x (iP i h j x hx).1
  ·exact(hr i h j x (iP i h j x hx).1).vj (iP i h j x hx).2
theorem ajf{s i j:Nat}{t:TypeId}{x:A}{k:S->aj X}(h:A1 P σ q s i j t x k=some r):∃ az,k az=some r/\∀ ah ρ a w,Rl w0 N ah ρ σ a w->∀ u v,RA w w0.heap.size ah ρ x u->RA w w0.heap.size ah ρ (.view [q] s i j) v->
  ∃w' aC,(Instr.storeAt t u v).run P w = .ok () w'/\Rl w0 N aC ρ az a w':=by
 unfold A1 at h;split at h
 ·rename_i tc g qn l hm;cases hb:(Nat.beq s (aB tc)&&Nat.beq (full tc) 0)with
  |false=>rw[hb]at h;cases h
  | true=>
   rw[hb,aq]at h;rw[aJ]at hb;obtain rfl:=cz hb.1;have hf:=cz hb.2;obtain⟨az,h1,hs⟩:=YM (w0:=w0) (N:=N) h
   refine⟨az,h1,λah ρ a w hR u v hu hv=>?_⟩
   have hrel:Rel q ah (ah.un q):=aje hR.yu;have r8:=hR.rel hrel (λb k hk=>by
    unfold bE.un at hk;cases hl:ah b with
    |none=>rw[hl]at hk;cases hk
    | some k'=>
     rw[hl]at hk;simp only at hk;cases hq:bH q k' with
     |true=>rw[hq]at hk;cases hk
     | false=>
      rw[hq,au]at hk;injection hk with hk;subst hk;exact⟨⟨_,rfl⟩,(hR.dn b k' hl).2.2⟩)
   obtain⟨A,n,c,fG,h3,h4,rfl⟩:=hv;have cQ:=hR.root q _ hm;generalize he:aW.sl (.sl tc (g+2) qn l)=z at cQ;cases cQ with
   |ax=>cases he
   |mp=>cases he
   |gh=>cases he
   | sl vq y aM hr=>
    injection he with he;subst he;have hvq:vq = .slice A n c:=by
     simp only[cE,aM]at fG;injection fG
    subst hvq;obtain⟨h5,h6⟩:=hr.ice hf;have h7:=(h5.part (by omega) h3 (by omega)).1;obtain⟨w',bq,ki⟩:=hs _ _ _ _ r8 u _ (hu.rel hrel) (show RA _ _ _ _ (.lf (.v _)) _ from ⟨rfl,h7⟩);exact⟨w',_,bq,ki⟩
 ·cases h
theorem ajg{s i j:Nat}{t:TypeId}{x:A}{k:S->aj X}(h:A1 P σ q s i j t x k=some r):∃ τ,k τ=some r/\cD (λX k=>A1 (X:=X) P σ q s i j t x k) τ:=by
 unfold A1 at h;split at h
 ·rename_i tc g qn l hm;cases hb:(Nat.beq s (aB tc)&&Nat.beq (full tc) 0)with
  |false=>rw[hb]at h;cases h
  | true=>
   rw[hb,aq]at h;obtain⟨τ,h1,h2⟩:=ZU h;exact⟨τ,h1,λX k=>by simp only[A1,hm,hb,aq];exact h2.at_ _⟩
 ·cases h
end
end Go.Proofs.YtcioagfjiccleaaGreat
namespace Go.Proofs.YtcioagfjiccleaaGreat
open Go.RowKit
set_option linter.unusedVariables false
section
variable {P:Program} {w w':World} {w0:Wd} {B N:Nat} {ah aC:bE} {ρ ρ':Nat->Loc} {σ:S} {a:Act} {X:Type} {d q:Nat} {r:X} {o:Oper} {y:V}
def A3{X:Type}(P:Program)(σ:S)(t:TypeId)(x lo hi mx:A)(k:aj X):aj X:=
 match x,lo,hi,mx with
 | .lf (.own q),.lf (.v (.int _ a)),.lf (.v (.int _ b)),.lf (.v (.int _ c))=>(match rT P t with
  | some e=>(match ld P e with
   | some _=>gV σ.m q λy=>(match y with
    |.sl _ _ _ l=>if 0<=a/\a<=b/\b<=c/\c<=(l.length:Int)then k else none
    |_=>none)
   |none=>none)
  |none=>none)
 |_,_,_,_=>none
theorem ajh{t:TypeId}{x lo hi mx:A}{k:aj X}(h:A3 P σ t x lo hi mx k=some r):k=some r/\
  ∀ah ρ a w,Rl w0 N ah ρ σ a w->∀u lv hv mv,RA w w0.heap.size ah ρ x u->RA w w0.heap.size ah ρ lo lv->RA w w0.heap.size ah ρ hi hv->RA w w0.heap.size ah ρ mx mv->∃v,(Instr.sliceAt t u (some lv) (some hv) (some mv)).run P w = .ok v w:=by
 unfold A3 at h;split at h
 ·rename_i q kl a kh b km c;split at h
  ·rename_i e he;split at h
   ·rename_i n hn;obtain⟨y0,SJ,h2⟩:=uk q _ h;split at h2
    ·rename_i tc g qn xs;split at h2
     ·rename_i hb
      refine⟨h2,λah ρ ac w hR u lv hv mv hu hl hh hm=>?_⟩
      rw[hl.2.jk,hh.2.jk,hm.2.jk];have gi:P.underlying t=some (.slice e):=by
       unfold rT at he;split at he
       next e' l8=>injection he with he;rw[<-he];exact l8
       ·cases he
      have kf:P.elem t=e:=by simp[Program.elem,gi]
      have r5:P.underlying t=some (.slice (P.elem t)):=by rw[kf];exact gi
      have vu:(sizeOf (P.elem t)).run P w = .ok n w:=by
       unfold ld at hn;cases hi:P.info? e with
       |none=>simp[hi]at hn
       | some i=>
        have:i.size=n:=by simpa [hi]using hn
        simp[sizeOf,typeInfo,kf,hi,this]
      obtain⟨v0,qL,di⟩:=SJ.ok hR.root;have gM:∃ D n c,u = .slice D n c:=by
       have:=hu.1;cases u<;>first|cases this;done|exact⟨_,_,_,rfl⟩
      obtain⟨D,n',c',rfl⟩:=gM;have h3:=hu.2;rw[qL]at h3;injection h3 with h3;subst h3;have hf:RV w 0 (λ_=>none) [] (.sl tc 0 qn xs) (.slice D n' c'):=di.ja;obtain⟨_,AJ,EX⟩:=RV.part (w:=w) hf (a:=0) (h:=xs.length) (by omega) (by omega) (by omega);refine⟨sliced D a.toNat b.toNat c.toNat n,?_⟩;rw[run_sliceAt_slice w t _ _ _ _ r5,run_slice_lhm w t D n' c' r5 kl kh km a b c hb.1 hb.2.1 hb.2.2.1 (by omega),vu];rfl
     ·cases h2
    ·cases h2
   ·cases h
  ·cases h
 ·cases h
end
end Go.Proofs.YtcioagfjiccleaaGreat
namespace Go.Proofs.YtcioagfjiccleaaGreat
open Go.RowKit
set_option linter.unusedVariables false
section
variable {P:Program} (w:World)
end
section
variable {P:Program} {w w':World} {w0:Wd} {B N:Nat} {ah aC:bE} {ρ ρ':Nat->Loc} {σ:S} {a:Act} {X:Type} {d:Nat} {r:X}
end
end Go.Proofs.YtcioagfjiccleaaGreat
namespace Go.Proofs.YtcioagfjiccleaaGreat
open Go.RowKit
set_option linter.unusedVariables false
def mO(l:af (Int×Bool))(k:Int):Bool:=match l with
 |[]=>false
 |p::ps=>bif k==p.1 then p.2 else mO ps k
def nh(l:af (Int×Bool))(k:Int)(v:Bool):af (Int×Bool):=match l with
 |[]=>[(k,v)]
 |p::ps=>bif k==p.1 then (k,v)::ps else p::nh ps k v
def E5(P:Program)(t:TypeId):Bool:=match P.underlying t with
 | some (.map k e)=>(match P.underlying k with
  |some (.int .i64)=>true
  |_=>false)&&(match zeroOf P e with
  |some (.bool false)=>true
  |_=>false)
 |_=>false
def M3{X:Type}(N:Nat)(σ:S)(d:Nat)(k:S->aj X):aj X:=jO N σ d (.mp []) (.pk d rR) k
def IP{X:Type}(P:Program)(σ:S)(t:TypeId)(x i:A)(k:A->aj X):aj X:=
 match x,i with
 | .pk r n,.lf (.v (.int .i64 key))=>bif Nat.beq n rR&&E5 P t then (match σ.m r with
  |some (.mp l)=>k (.lf (.v (.bool (mO l key))))
  |_=>none)else none
 |_,_=>none
def IQ{X:Type}(P:Program)(σ:S)(t:TypeId)(x i v:A)(k:S->aj X):aj X:=
 match x,i,v with
 | .pk r n,.lf (.v (.int .i64 key)),.lf (.v (.bool b))=>bif Nat.beq n rR&&E5 P t then (match σ.m r with
  |some (.mp l)=>k ⟨σ.t,bP σ.m r (some (.mp (nh l key b)))⟩
  |_=>none)else none
 |_,_,_=>none
section
variable {P:Program} {w w':World} {w0:Wd} {B N:Nat} {ah aC:bE} {ρ ρ':Nat->Loc} {σ:S} {a:Act} {X:Type} {d:Nat} {r:X} {o:Oper}
theorem Z8{t:TypeId}(h:E5 P t=true):∃ k e i,P.underlying t=some (.map k e)/\P.underlying k=some (.int .i64)/\P.info? e=some i/\i.zero=some (.bool false):=by
 unfold E5 at h;split at h
 ·rename_i k e he;rw[aJ]at h;obtain⟨h1,h2⟩:=h;have hk:P.underlying k=some (.int .i64):=by
   split at h1
   ·assumption
   ·cases h1
  have hz:zeroOf P e=some (.bool false):=by
   split at h2
   ·assumption
   ·cases h2
  unfold zeroOf at hz;cases hi:P.info? e with
  |none=>rw[hi]at hz;cases hz
  | some i=>
   rw[hi]at hz;exact⟨k,e,i,he,hk,hi,hz⟩
 ·cases h
theorem Rl.newObj{ob:Obj}{x:aW}{ρ':Nat->Loc}(h:Rl w0 N ah ρ σ a w)(hF:w0.F d=none)(aM:∀ r,r≠d->ρ' r=ρ r)
  (hx:fj (w.alloc ob) w0.heap.size (bP ah w.heap.size (some [d])) ρ' d x):Rl w0 N (bP ah w.heap.size (some [d])) ρ' ((σ.drop d).root d x) a (w.alloc ob):=by
 refine h.AA hF (kQ.YT w0 w _ h.below.size) ⟨by simp,λb hb _=>Below.heap_alloc w _ b hb,λb hb=>cL _ _ _ (by omega),λb hb=>(h.dn b [] hb).2.2 rfl⟩ (λb k hb hk=>?_) aM hx
 by_cases e:b=w.heap.size
 ·subst e;rw[bY]at hk;injection hk with hk;subst hk;exact⟨by simp,by simp⟩
 ·rw[cL _ _ _ e]at hk;have:=(h.dn b k hk).2.1;omega
theorem aji{t:TypeId}{k:S->aj X}(h:M3 N σ d k=some r):∃ az,k az=some r/\∀ ah ρ a w,Rl w0 N ah ρ σ a w->∃ w' aC ρ' v,(Instr.makeMap t none).run P w = .ok v w'/\Rl w0 N aC ρ' az (a.put (some d) v) w':=by
 obtain⟨hd,h⟩:=qH h
 refine⟨_,h,λah ρ a w hR=>?_⟩
 have bq:(Instr.makeMap t none).run P w = .ok (.map (some w.heap.size)) (w.alloc (.map #[] 0)):=rfl
 refine⟨_,bP ah w.heap.size (some [d]),bP ρ d (.ax w.heap.size 0),_,bq,(hR.newObj (hR.dQ d (.inl hd)) (λr hr=>cL _ _ _ hr) ?_).set ⟨w.heap.size,bY _ _ _,(R7 _).symm⟩ hd⟩
 exact .mp w.heap.size 0 #[] [] (bY _ _ _) (bY _ _ _) (heap_alloc_new w _) rfl
theorem ajj{k:S->aj X}(h:M3 N σ d k=some r):∃ τ,k τ=some r/\cD (λX k=>M3 (X:=X) N σ d k) τ:=by
 obtain⟨h1,h2⟩:=yO h;exact⟨_,h1,h2⟩
def CZ(l:af (Int×Bool)):af (Value×Value):=l.map λp=>(.int .i64 p.1,.bool p.2)
theorem TF:∀ (es:af MapEntry) (l:af (Int×Bool)) (k:Int) (n:Nat),es.map (λe=>(e.key,e.val))=CZ l->
  (Instr.findNow (.int .i64) (.int .i64 k) es n=some none/\mO l k=false/\∀v,nh l k v=l++[(k,v)])\/
  (∃i b,Instr.findNow (.int .i64) (.int .i64 k) es n=some (some (n+i,.bool b))/\mO l k=b/\∃h:i<es.length,es[i].key = .int .i64 k/\∀v,CZ (nh l k v)=(es.modify i λe=>{ e with key:=.int .i64 k,val:=.bool v }).map (λe=>(e.key,e.val)))
 |[],[],k,n,_=>.inl ⟨rfl,rfl,λv=>rfl⟩
 |[],_::_,k,n,h=>by cases h
 |_::_,[],k,n,h=>by cases h
 | e :: es,p :: l,k,n,h=>by
  have h:(e.key,e.val) :: es.map (λe=>(e.key,e.val))=(.int .i64 p.1,.bool p.2) :: CZ l:=h;injection h with h1 h2;injection h1 with hk hv;have hs:Instr.sameNow (.int .i64) (.int .i64 k) e.key=some (k==p.1):=by
   rw[hk];simp[Instr.sameNow]
  cases hb:(k==p.1)with
  | true=>
   have M4:k=p.1:=by simpa using hb
   refine .inr ⟨0,p.2,?_,by simp only[mO,hb,aq],by simp,by simp[hk,M4],λv=>?_⟩
   ·simp only[Instr.findNow,hs,hb,hv];rfl
   ·simp only[nh,hb,aq];simp only[List.modify_zero_cons,kN];show (Value.int .i64 k,Value.bool v)::CZ l=_;rw[h2]
  | false=>
   rcases TF es l k (n+1) h2 with ⟨a1,a2,a3⟩|⟨i,b,a1,a2,hi,a3,a4⟩
   ·refine .inl ⟨?_,by simp only[mO,hb,au,a2],λv=>by simp only[nh,hb,au,a3];rfl⟩
    simp only[Instr.findNow,hs,hb];exact a1
   ·refine .inr ⟨i+1,b,?_,by simp only[mO,hb,au,a2],by simpa using hi,by simpa using a3,λv=>?_⟩
    ·simp only[Instr.findNow,hs,hb];rw[a1];congr 3;omega
    ·simp only[nh,hb,au];simp only[List.modify_succ_cons,kN];show (Value.int .i64 p.1,Value.bool p.2)::CZ (nh l k v)=_;rw[a4,hk,hv]
theorem M5{kt:TypeId}{k:Int}{es:af MapEntry}{z:aj (Nat×Value)}(hk:P.underlying kt=some (.int .i64))(h:Instr.findNow (.int .i64) (.int .i64 k) es 0=some z):(Instr.findKey kt (.int .i64 k) es).run P w = .ok z w:=by
 unfold Instr.findKey;simp only[fz,jr hk,kA,h];rfl
theorem Z9{t:TypeId}{x i:A}{k:A->aj X}(h:IP P σ t x i k=some r):∃ v,k v=some r/\cD (λX k=>IP (X:=X) P σ t x i k) v/\∀ ah ρ a w,Rl w0 N ah ρ σ a w->∀ u z,RA w w0.heap.size ah ρ x u->RA w w0.heap.size ah ρ i z->
  ∃y,(Instr.lookup t u z false).run P w = .ok y w/\RA w w0.heap.size ah ρ v y:=by
 unfold IP at h;split at h
 ·rename_i rr n key;cases hb:(Nat.beq n rR&&E5 P t)with
  |false=>rw[hb]at h;cases h
  | true=>
   rw[hb,aq]at h;split at h
   ·rename_i l hm
    refine⟨_,h,λX k=>by simp only[IP,hb,aq,hm],λah ρ a w hR u z hu hz=>?_⟩
    rw[aJ]at hb;obtain⟨kt,et,ti,ht,C0,hi,uC⟩:=Z8 hb.2;have hn:=cz hb.1;subst hn;obtain⟨b,aM,rfl⟩:=hu;have hz:z = .int .i64 key:=by
     have h2:=hz.2;cases h2;rfl
    subst hz;have cQ:=hR.root rr _ hm;generalize he:aW.mp l=y at cQ;cases cQ with
    |ax=>cases he
    |sl=>cases he
    |gh=>cases he
    | mp b' c es l' gE hl hh M6=>
     injection he with he;subst he;rw[aM]at gE;injection gE with e1 _;subst e1;refine⟨.bool (mO l key),?_,rfl,.bool _ _⟩;rw[R7];unfold Instr.lookup;simp only[fz,jr ht,kA,MapKept.run_getObj_map hh,Sem.run_pure];rw[MapKept.run_checkKey (k:=.int .i64 key) C0 rfl];simp only[kA];rcases TF es.toList l key 0 M6 with ⟨a1,a2,_⟩|⟨i,v,a1,a2,_⟩
     ·rw[M5 C0 a1];have Cr:(zeroValue et).run P w = .ok (.bool false) w:=by simp[zeroValue,typeInfo,hi,uC]
      simp only[kA,a2,fz,Sem.run_pure,Cr];rfl
     ·rw[M5 C0 a1];simp only[kA,a2,fz,Sem.run_pure];rfl
   ·cases h
 ·cases h
theorem aaa{t:TypeId}{x i v:A}{k:S->aj X}(h:IQ P σ t x i v k=some r):∃ az,k az=some r/\cD (λX k=>IQ (X:=X) P σ t x i v k) az/\∀ ah ρ a w,Rl w0 N ah ρ σ a w->∀ u z y,RA w w0.heap.size ah ρ x u->RA w w0.heap.size ah ρ i z->RA w w0.heap.size ah ρ v y->
  ∃w',(Instr.mapUpdate t u z y).run P w = .ok () w'/\Rl w0 N ah ρ az a w':=by
 unfold IQ at h;split at h
 ·rename_i rr n key bv;cases hb:(Nat.beq n rR&&E5 P t)with
  |false=>rw[hb]at h;cases h
  | true=>
   rw[hb,aq]at h;split at h
   ·rename_i l hm
    refine⟨_,h,λX k=>by simp only[IQ,hb,aq,hm],λah ρ a w hR u z y hu hz hy=>?_⟩
    rw[aJ]at hb;obtain⟨kt,et,ti,ht,C0,hi,uC⟩:=Z8 hb.2;have hn:=cz hb.1;subst hn;obtain⟨b,aM,rfl⟩:=hu;have hz:z = .int .i64 key:=by
     have h2:=hz.2;cases h2;rfl
    subst hz;have hy:y = .bool bv:=by
     have h2:=hy.2;cases h2;rfl
    subst hy;have cQ:=hR.root rr _ hm;generalize he:aW.mp l=y at cQ;cases cQ with
    |ax=>cases he
    |sl=>cases he
    |gh=>cases he
    | mp b' c es l' gE hl hh M6=>
     injection he with he;subst he;rw[aM]at gE;injection gE with e1 _;subst e1;have MW:b<w.heap.size:=(gS.1 hh).1;have CO:∀ (E6:Array MapEntry) (c':Nat),E6.toList.map (λe=>(e.key,e.val))=CZ (nh l key bv)->Rl w0 N ah ρ ⟨σ.t,bP σ.m rr (some (.mp (nh l key bv)))⟩ a { w with heap:=w.heap.setIfInBounds b (.map E6 c') }:=by
      intro E6 c' ajk;have hW:wH w { w with heap:=w.heap.setIfInBounds b (.map E6 c') } b:=by
       refine⟨by simp,rfl,rfl,rfl,λk hk=>?_⟩
       show (w.heap.setIfInBounds b _)[k]?=_;rw[Array.getElem?_setIfInBounds_ne (Ne.symm hk)]
      have hC:sO w { w with heap:=w.heap.setIfInBounds b (.map E6 c') } ah ρ:=by
       intro k ad v ha hv gM;obtain⟨j',i',s',q,rfl,hq,_,_,Sc⟩:=ye k ad ha;have bg:ad.block≠b:=by
        intro e;rw[e,hl]at hq;injection hq with hq;obtain⟨v',dY⟩:=Sc rr hq.symm;rw[aM]at dY;cases dY
       exact(mH (hW.block _ bg)).trans hv
      refine hR.wrote hW hl hC λr' y hy=>?_
      by_cases kY:r'=rr
      ·subst kY;rw[bY]at hy;injection hy with hy;subst hy;refine .mp b c' E6 _ aM hl ?_ ajk;show (w.heap.setIfInBounds b _)[b]?=_;rw[Array.getElem?_setIfInBounds_self];simp[MW]
      ·rw[cL _ _ _ kY]at hy;exact(hR.root r' y hy).wrote hW hl hC (Sb kY)
     rw[R7];unfold Instr.mapUpdate;simp only[fz,jr ht,kA,MapKept.run_getObj_map hh,Sem.run_pure];rw[MapKept.run_checkKey (k:=.int .i64 key) C0 rfl];simp only[kA];rcases TF es.toList l key 0 M6 with ⟨a1,a2,a3⟩|⟨i,v,a1,a2,vF,a3,a4⟩
     ·rw[M5 C0 a1];simp only[kA];rw[MapKept.run_setObj_map _ hh];refine⟨_,rfl,CO _ _ ?_⟩;rw[a3];simp only[Array.toList_push,List.map_append,M6,CZ];rfl
     ·rw[M5 C0 a1];simp only[kA,fQ];have yw:(es[i]?.map (·.key)).getD (.int .i64 key) = .int .i64 key:=by
       have h1:i<es.size:=by simpa using vF
       rw[Array.getElem?_eq_getElem h1]
       simpa using a3
      rw[yw];have jl:(Instr.keyThatStays (.int .i64 key) (.int .i64 key)).run P w = .ok (.int .i64 key) w:=by
       unfold Instr.keyThatStays;simp[Instr.sameBits]
      simp only[fz];rw[jl];simp only[kA];rw[MapKept.run_setObj_map _ hh];refine⟨_,rfl,CO _ _ ?_⟩;rw[a4];simp
   ·cases h
 ·cases h
end
end Go.Proofs.YtcioagfjiccleaaGreat
namespace Go.Proofs.YtcioagfjiccleaaGreat
open Go.RowKit
set_option linter.unusedVariables false
def IS(t:TypeId)(d:Nat)(x:Operand):Bool:=[(59,26,22)].any λ(p:Nat×Nat×Nat)=>Nat.beq p.1 t&&Nat.beq p.2.1 d&&(match x with
 |.tmp n=>Nat.beq n p.2.2 ||Nat.beq p.2.2 1000000
 |_=>false)
def C1(dst:aj Tmp)(t:TypeId)(x:Operand):Bool:=match dst with
 |some d=>IS t d x
 |none=>false
def C2{X:Type}(P:Program)(N:Nat)(σ:S)(d:Nat)(t:TypeId)(x y:A)(k:S->aj X):aj X:=
 match wM P t with
 | some (e,tc)=>bif Nat.beq (full tc) 0&&(zeroOf P e).any (λz=>Nat.beq z.cells.size (aB tc))then rS σ y λyv=>(match yv.Mp tc with
  |none=>none
  | some l2=>match x with
   | .lf (.own [r])=>(match σ.m r with
    |some (.sl (.sl t' (o+2) true l))=>if h:t'=tc then (bif !kT l2&&bZ (l.length+l2.length)then jO N σ d (.sl (.sl tc (o+2) false ((h ▸ l)++l2))) (.lf (.own [d])) k else none)else none
    |_=>none)
   |_=>none)else none
 |none=>none
section
variable {P:Program} {w w':World} {w0:Wd} {B N:Nat} {ah aC:bE} {ρ ρ':Nat->Loc} {σ:S} {a:Act} {X:Type} {d:Nat} {r:X}
theorem Rl.ajl{t e ty:TypeId}{tc:TC}{i:TypeInfo}{z:Value}{rr o g:Nat}{qn:Bool}{l l2:af (T tc)}{u v:Value}{q':af Nat}{Bx:Nat}{Sx:bE}(h:Rl w0 N ah ρ σ a w)(hF:w0.F d=none)(gi:P.underlying t=some (.slice e))(ht:tid tc=e)(hi:P.info? e=some i)(hz:i.zero=some z)
  (dx:i.size=aB tc) (lU:i.bytes<=65536) (gQ:z.cells.size=aB tc) (hf:full tc=0) (hd:RV w w0.heap.size ah [rr] (.sl tc (o+2) true l) u) (hs:RV w Bx Sx q' (.sl tc g qn l2) v) (bg:l2≠[]) (hlen:l.length+l2.length<1073741824):
  ∃v' w' aC,(Builtin.append_ #[t,t] ty #[u,v]).run P w = .ok v' w'/\Rl w0 N aC (bP ρ d (.dP v')) ((σ.drop d).root d (.sl (.sl tc (o+2) false (l++l2)))) a w'/\oe v'=true:=by
 subst ht;obtain⟨xs,nt,yA,H7,kf⟩:=hd.YW hf (B':=0) (λb _=>Nat.zero_le b);obtain⟨A,c,news,rfl,rX,kR,H8⟩:=hs.reads hf;have fT:(l.length+l2.length)*i.bytes<=140737488355328:=by
  have h1:(l.length+l2.length)*i.bytes<=1073741824*65536:=Nat.mul_le_mul (by omega) lU;omega
 have vo:0<l2.length:=List.length_pos_iff.2 bg;obtain⟨v',w',bq,rY,pg,fk⟩:=QX (P:=P) w 0 t ty (tid tc) i z (aB tc) i.bytes gi hi hz dx rfl gQ (qB tc) u l.length xs nt _ A l2.length c news rX kR (by unfold maxLen;omega) fT (Nat.zero_le _);have Ct:(l++l2).length=l.length+l2.length:=List.length_append;have hex:∃ b,u = .slice (some ⟨b,0,none⟩) l.length l.length:=by
  cases hd with
  |aA _ _ _ _ _ _ _ _ _ ho=>omega
  |dz _ _ _ _ _ ho=>omega
  |own _ _ _ _ _ b cap cs us hl hh hs hn hm hc hr=>exact⟨b,by rw[hm.2 rfl]⟩
 obtain⟨b,rfl⟩:=hex;obtain⟨b',pQ,rfl,_,dL⟩:=rX.2 vo;have ajm:∀ j x,news[j]?=some x->w.cell? ((⟨b',pQ,none⟩:Addr).add j)=some x:=by
  intro j x hx;have Ac:(⟨b',pQ,none⟩:Addr).add j=⟨b',pQ+j,none⟩:=by unfold Addr.add;split<;>simp_all
  rw[Ac];exact dL j x hx
 have aab:=run_append_grow (P:=P) w t ty (tid tc) i z gi hi hz ⟨b,0,none⟩ l.length l.length xs (by rw[dx];exact nt.1) (nt.cells (g:=b) rfl) ⟨b',pQ,none⟩ l2.length c news (by rw[dx];exact rX.1) ajm (by omega) (by omega) (growslice_fits (by omega) fT);rw[bq]at aab;injection aab with e1 e2;have hold:∀ k,k<w.heap.size->w'.heap[k]?=w.heap[k]?:=by
  intro k hk;rw[e2];exact heap_alloc_old w.drew _ hk
 have hvb:v'.ownBlock=some w.heap.size:=by rw[e1];rfl
 have bC:w.heap.size<w'.heap.size:=by rw[e2];simp
 rw[<-Ct]at rY;have Cu:=kf.append H8 nt.1;have gM:oe v'=true:=by rw[e1];rfl
 have rZ:Below 0 w w':=(Below.refl 0 w).grown pg (Nat.zero_le _) (λ_ _=>Nat.zero_le _);have iE:kQ w0 w w':=⟨rZ.os,rZ.tape,rZ.output,rZ.size,λk hk hL=>hold k (mG hk h.below.size)⟩
 refine⟨v',w',bP ah w.heap.size (some [d]),bq,h.AA hF iE ⟨pg.size,λb hb _=>hold b hb,λb hb=>cL _ _ _ (by omega),λb hb=>(h.dn b [] hb).2.2 rfl⟩ (λb k hb hk=>?_) (λr hr=>cL _ _ _ hr) (.sl v' _ (bY _ _ _) (Sw rY Cu (λb hb=>?_))),gM⟩
 ·by_cases e:b=w.heap.size
  ·subst e;rw[bY]at hk;injection hk with hk;subst hk;exact⟨bC,by simp⟩
  ·rw[cL _ _ _ e]at hk;have:=(h.dn b k hk).2.1;omega
 ·rw[hvb]at hb;injection hb with hb;subst hb;exact bY _ _ _
theorem ajn{t ty:TypeId}{x y:A}{k:S->aj X}(h:C2 P N σ d t x y k=some r):∃ az,k az=some r/\∀ ah ρ a w,Rl w0 N ah ρ σ a w->∀ u v,RA w w0.heap.size ah ρ x u->RA w w0.heap.size ah ρ y v->
  ∃w' aC ρ' z,(Builtin.append_ #[t,t] ty #[u,v]).run P w = .ok z w'/\Rl w0 N aC ρ' az (a.put (some d) z) w':=by
 unfold C2 at h;split at h
 ·rename_i e tc gN;obtain⟨gi,ht,i,hi,dx,lU⟩:=AB gN;cases hc:(Nat.beq (full tc) 0&&(zeroOf P e).any (λz=>Nat.beq z.cells.size (aB tc)))with
  |false=>rw[hc]at h;cases h
  | true=>
   rw[hc,aq]at h;rw[aJ]at hc;have hf:=cz hc.1;obtain⟨z,hz,gQ⟩:=(Option.any_eq_true _ _).1 hc.2;have gQ:=cz gQ;have qI:i.zero=some z:=by unfold zeroOf at hz;simpa [hi]using hz
   obtain⟨yv,Ms,h2⟩:=YX (w0:=w0) (N:=N) h;clear h;split at h2
   ·cases h2
   ·rename_i l2 gF;split at h2
    ·rename_i rr;split at h2
     ·rename_i t' o l hm;split at h2
      ·rename_i gG;subst gG;cases hL:(!kT l2&&bZ (l.length+l2.length))with
       |false=>rw[hL]at h2;cases h2
       | true=>
        rw[hL,aq]at h2;rw[aJ]at hL;have bg:l2≠[]:=by rintro rfl;cases hL.1
        have H9:l.length+l2.length<1073741824:=by simpa [bZ]using hL.2
        obtain⟨hd,h3⟩:=qH h2
        refine⟨_,h3,λah ρ a w hR u v hu hv=>?_⟩
        obtain⟨q',_,_,dY⟩:=Ms ah ρ a w hR v hv;obtain⟨g,qn,dY⟩:=SA gF dY;have cQ:=hR.root rr _ hm;generalize he:aW.sl (.sl t' (o+2) true l)=x at cQ;cases cQ with
        |ax=>cases he
        |mp=>cases he
        |gh=>cases he
        | sl uu y aM hr=>
         injection he with he;subst he;have HZ:uu=u:=by
          have h4:=hu.2;simp only[cE,aM]at h4;injection h4
         subst HZ;obtain⟨v',w',aC,bq,aO,gM⟩:=hR.ajl (ty:=ty) (d:=d) (hR.dQ d (.inl hd)) gi ht hi qI dx lU gQ hf hr dY bg H9;exact⟨w',aC,_,v',bq,aO.set ⟨gM,by simp[cE,bY]⟩ hd⟩
      ·cases h2
     ·cases h2
    ·cases h2
 ·cases h
theorem ajo{t:TypeId}{x y:A}{k:S->aj X}(h:C2 P N σ d t x y k=some r):∃ τ,k τ=some r/\cD (λX k=>C2 (X:=X) P N σ d t x y k) τ:=by
 unfold C2 at h;split at h
 ·rename_i e tc gN;cases hc:(Nat.beq (full tc) 0&&(zeroOf P e).any (λz=>Nat.beq z.cells.size (aB tc)))with
  |false=>rw[hc]at h;cases h
  | true=>
   rw[hc,aq]at h;obtain⟨yv,h2,hd⟩:=Tr h;clear h;split at h2
   ·cases h2
   ·rename_i l2 gF;split at h2
    ·rename_i rr;split at h2
     ·rename_i t' o l hm;split at h2
      ·rename_i gG;subst gG;cases hL:(!kT l2&&bZ (l.length+l2.length))with
       |false=>rw[hL]at h2;cases h2
       | true=>
        rw[hL,aq]at h2;obtain⟨h3,h4⟩:=yO h2;exact⟨_,h3,λX k=>by
         simp only[C2,gN,hc,aq];exact(hd.at_ _).trans (by simp only[gF,hm,aK,hL,aq];exact h4 X k)⟩
      ·cases h2
     ·cases h2
    ·cases h2
 ·cases h
def A4{X:Type}(P:Program)(N:Nat)(σ:S)(d:Nat)(t:TypeId)(x y:A)(k:S->aj X):aj X:=
 match x with
 |.view q s i j=>Cv P N σ d t (.view q s i j) y k
 |x=>C2 P N σ d t x y k
theorem ajp{t ty:TypeId}{x y:A}{k:S->aj X}(h:A4 P N σ d t x y k=some r):∃ az,k az=some r/\∀ ah ρ a w,Rl w0 N ah ρ σ a w->∀ u v,RA w w0.heap.size ah ρ x u->RA w w0.heap.size ah ρ y v->
  ∃w' aC ρ' z,(Builtin.append_ #[t,t] ty #[u,v]).run P w = .ok z w'/\Rl w0 N aC ρ' az (a.put (some d) z) w':=by
 unfold A4 at h;split at h
 ·exact ahx h
 ·exact ajn h
theorem ajq{t:TypeId}{x y:A}{k:S->aj X}(h:A4 P N σ d t x y k=some r):∃ τ,k τ=some r/\cD (λX k=>A4 (X:=X) P N σ d t x y k) τ:=by
 unfold A4 at h;split at h
 ·obtain⟨τ,h1,h2⟩:=ahy h;exact⟨τ,h1,λX k=>by simp only[A4];exact h2 X k⟩
 ·obtain⟨τ,h1,h2⟩:=ajo h;exact⟨τ,h1,λX k=>by simp only[A4];exact h2.at_ k⟩
end
end Go.Proofs.YtcioagfjiccleaaGreat
