/-
  Running the program over pure contents, and that it follows (part 3). Nothing here is a claim.
-/
import Derived.Lib.AppendStr
import Derived.MapKept
import Derived.Test.YtglnbhiaknohlaaGreatV2
set_option linter.unusedSimpArgs false
namespace Go.Proofs.YtglnbhiaknohlaaGreat
open Go.RowKit
set_option linter.unusedVariables false
section
variable {P:Program} {w w':World} {w0:Wd} {B N:Nat} {ah cW aD:bA} {ρ dZ ρ':Nat->Loc} {σ:S} {a:Act} {X:Type} {d:Nat} {r:X} {ns cn:aa Nat} {o:Oper} {rs:aa Nat} {dS:aa (Nat×Nat)} {nm KN:Nat->Nat} {c0:Nat}
theorem aiN{C:aj Tmp}{res:fS}{k:S->aj X}(h:mh N σ C res k=some r):∃ Q,k Q=some r/\∀ ah ρ a w v,Rl w0 N ah ρ σ a w->qj w w0.heap.size ah (λn=>gA C+n) res v->∃ ρ',Rl w0 N ah ρ' Q (a.put C v) w/\∀ r,r<gA C->ρ' r=ρ r:=by
 unfold mh at h;cases C with
 |none=>exact⟨σ,h,λah ρ a w v hR _=>⟨ρ,hR,λ_ _=>rfl⟩⟩
 | some d=>
  have h:(bif Nat.blt d N then (match res with
   | .one p=>(match qg (p.1,jO (1000000000100000+1000*d) p.2)with
    |some y=>k ((fO (1000000000100000+1000*d) σ p.2).set d y)
    |none=>none)
   |.ct ps=>k ((iK (1000000000100000+1000*d) σ ps).set d (.ct (kN (1000000000100000+1000*d) ps))))else none)=some r:=h
  cases E:Nat.blt d N with
  |false=>rw[E]at h;cases h
  | true=>
   rw[E,ak]at h;have T:d<N:=cB E;cases res with
   | one p=>
    simp only at h;split at h
    ·rename_i y Z
     refine⟨_,h,λah ρ a w v hR I=>?_⟩
     obtain⟨ρ',J,L,_,O⟩:=Fg [p] (1000000000100000+1000*d) 0 σ ρ [v] (by omega) hR I;have Q3:=O 0 _ v rfl rfl;exact⟨ρ',J.set (Qu Z Q3) T,L⟩
    ·cases h
   | ct Fy=>
    refine⟨_,h,λah ρ a w v hR I=>?_⟩
    obtain⟨D,rfl,hv⟩:=I;obtain⟨ρ',J,L,hlen,O⟩:=Fg Fy (1000000000100000+1000*d) 0 σ ρ D.toList (by omega) hR hv
    refine⟨ρ',J.set ⟨D,rfl,by simpa using hlen,λj p U=>?_⟩ T,L⟩
    have Y:j<D.size:=by
     have:=(c7.1 U).1;rw[Nat.add_zero]at hlen;rw[<-hlen]at this
     simpa using this
    exact⟨D[j],Array.getElem?_eq_getElem Y,O j p _ U (by rw[kX,Array.getElem?_eq_getElem Y])⟩
theorem Rz{f:Nat}{args:Array Operand}{gW:Array TypeId}{c:mZ}{k:S->aj X}(ho:o.op = .call { callee:=.value (.func f),args,argTypes:=gW })(he:enters P f)(hc:tD P f c)(h:lH N σ o.dst c args.toList k=some r):∃ dG C cn,k dG=some r/\jd σ c.ps args.toList=some C/\(∀ n,bV n cn=true->n<N\/60000<=n)/\(∀ J∈C,bV J.root cn=false)/\
  ∀a w K Q ah ρ,Rl w0 N ah ρ σ a w->(∀v w' cW dZ tK,Rl w0 N cW tK dG (a.put o.dst v) w'->qt w w' ah cW ρ dZ ((kr 0 C).map (·.1)) cn->iF w0 w w'->(∀r,r<gA o.dst->tK r=dZ r)->K (a.put o.dst v) w')->o.wp P a w K Q:=by
 unfold lH at h;split at h
 ·rename_i C so;generalize Yb:kr 0 C=dS at h;cases lI:(once dS&&Nat.ble C.length 40)with
  |false=>rw[lI]at h;cases h
  | true=>
   rw[lI,ak]at h;rw[aK]at lI;have aw8:=cB lI.2;have xw:∀ p∈kr 0 C,dS.lookup p.1=some p.2:=by
    intro p hp;rw[Yb]at hp;have:=cv.1 lI.1 p hp;obtain⟨n,E,he⟩:=(Option.any_eq_true _ _).1 this;rw[E,bQ he]
   obtain⟨x,T,hrel,aw9,kO⟩:=KI (w0:=w0) (N:=N) _ _ C _ so h;clear h;split at T
   ·rename_i y hy;unfold xz at T;generalize oz:mg (gA o.dst) (eI c.ro y.1).len C (gX (eE c.ps) y.2)=cn at T;generalize zm:dS.map (·.1)=ns at T kO;cases iA:zL N C (gX (eE c.ps) y.2) cn with
    |false=>rw[iA]at T;cases T
    | true=>
     rw[iA,ak]at T;simp only[zL,aK]at iA;obtain⟨⟨⟨ok1,Yc⟩,Yd⟩,ok4⟩:=iA;obtain⟨dG,h3,KO⟩:=aiN (w0:=w0) T
     refine⟨dG,C,cn,h3,so,λn E=>?_,λJ m0=>by simpa using cv.1 Yc J m0,λa w K Q ah ρ hR hK=>?_⟩
     ·have:=cv.1 Yd n (sk.1 E);rw[dy]at this;rcases this with h | h
      ·exact .inl (by have:=cB h;omega)
      ·exact .inr (cB h)
     have Y:zK ns ah (eA ah dS id):=by rw[<-zm];exact aiJ (λb k hb=>(hR.cH b k hb).2.2)
     have Ye:=KH _ _ _ so;let rs:=C.map Mu.root
     have mX:∀ j J,C[j]?=some J->rs[0+j]?=some J.root:=by
      intro j J hj;rw[eN,cO,hj];rfl
     have hE:=Rq (rs:=rs) hR Y C (oC c.ps x) 0 xw mX Ye hrel (by omega);have hA:=kO ah ρ a w (eA ah dS id) (uY w ρ rs) hR Y (oC c.ps x) 0 (λj z O=>by rw[eN];exact O) (λj J hj=>by
      have h1:=mX j J hj;rw[eN]at h1 ⊢;exact Fq h1 (by have:=(c7.1 hj).1;omega))
     obtain⟨hA1,QJ⟩:=Cy.get _ _ hA;let nm:Nat->Nat:=λn=>if n<(eI c.ro y.1).len then gA o.dst+n else (xy (gA o.dst) (eI c.ro y.1).len C).getD (n-(eI c.ro y.1).len) 0
     have pq:∀ (ps:aa PK) (i:Nat) (x:lF ps),(kP ps i x).length=ps.length:=by
      intro ps
      induction ps with
      |nil=>intro i x;rfl
      | cons p ps ih=>
       intro i x;cases p with
       |v=>exact bD (· + 1) (ih _ _)
       |p=>exact bD (· + 1) (ih _ _)
       |s=>exact bD (· + 1) (ih _ _)
     unfold Oper.wp;rw[Ky w o a f args gW ho he,Oper.upon_enter];have uV:(args.map a.eval)=(args.toList.map a.eval).toArray:=by apply Array.ext';rw[Array.toList_map]
     rw[uV];have KP:∀ b k,eA ah dS id b=some k->(∃ I,ah b=some I/\cy I ns=true)/\k≠[]:=by
      intro b k hb;cases hl:ah b with
      |none=>rw[Y.none b hl]at hb;cases hb
      | some I=>
       refine⟨⟨I,rfl,?_⟩,?_⟩
       ·cases hq:cy I ns with
        |true=>rfl
        |false=>rw[(Y.rest b I hl).2 hq]at hb;cases hb
       ·simp only[eA,hl]at hb;split at hb
        ·cases hb
        ·cases Yf:dS.lookup _ with
         |none=>rw[Yf]at hb;cases hb
         |some n=>rw[Yf]at hb;injection hb with hb;subst hb;simp
     have hQ:Hd w (eA ah dS id):=w0.on hR.below (λb k hb=>by obtain⟨⟨I,hl,_⟩,_⟩:=KP b k hb;exact(hR.cH b I hl).1)
     refine(hc x y hy nm w (eA ah dS id) (uY w ρ rs) _ hE (λb k hb=>⟨?_,(KP b k hb).2⟩) ?_ QJ hQ).mono λe w' qm=>?_
     ·obtain⟨⟨I,hl,_⟩,_⟩:=KP b k hb;exact(hR.cH b I hl).2.1
     ·rw[List.size_toArray,hA1,pq]
     ·obtain⟨v,D,rfl,U,CB,lG,RB⟩:=qm;have hB:=hR.below.size;let cW:bA:=λb=>match eA ah dS id b with
       |none=>if b<w.heap.size then ah b else D b
       |some _=>D b
      have e1:∀ b k,D b=some k->cW b=some k:=by
       intro b k hb;show (match eA ah dS id b with|none=>if b<w.heap.size then ah b else D b|some _=>D b)=some k;split
       next Z=>have:=(CB b k hb).1;have mQ:w.heap.size<=b:=this.resolve_right (λh=>h Z);rw[bB (by omega)];exact hb
       ·exact hb
      have e2:∀ b,w.heap.size<=b->cW b=D b:=by
       intro b hb;show (match eA ah dS id b with|none=>if b<w.heap.size then ah b else D b|some _=>D b)=D b;split
       ·rw[bB (by omega)]
       ·rfl
      have Yg:∀ p∈qY w' ρ (gA o.dst) (eI c.ro y.1).len C (gX (eE c.ps) y.2),(qY w' ρ (gA o.dst) (eI c.ro y.1).len C (gX (eE c.ps) y.2)).lookup p.1=some p.2:=
       X6 (by rw[KM,oz];exact ok1)
      generalize zP:qY w' ρ (gA o.dst) (eI c.ro y.1).len C (gX (eE c.ps) y.2)=hd at Yg;have aiO:hd.map (·.1)=cn:=by rw[<-zP,KM,oz]
      have hv:qt w w' ah cW ρ (X4 hd ρ) ns cn:=by
       refine⟨U.size,λb hb hk=>?_,λn E=>?_,λb k hb=>(hR.cH b k hb).2⟩
       ·have Z:eA ah dS id b=none:=by
         cases hl:ah b with
         |none=>exact Y.none b hl
         |some k=>exact(Y.rest b k hl).2 (hk k hl)
        refine⟨U.block b hb Z,?_⟩;show (match eA ah dS id b with|none=>if b<w.heap.size then ah b else D b|some _=>D b)=ah b;rw[Z];exact bk hb
       ·show (match hd.lookup n with|some v=>Loc.de v|none=>ρ n)=ρ n;rw[X5 (by rw[aiO];exact E)]
      have xB:∀J∈C,bV J.root cn=false:=λJ m0=>by simpa using cv.1 Yc J m0
      have Fz:=Ru (c0:=gA o.dst) (nm:=nm) hR hv e1 e2 hB C (oC c.ps x) (gX (eE c.ps) y.2) 0 (eI c.ro y.1).len mX Ye hrel (by omega) RB (λk n E=>?_) (λp hp=>?_) xB ok4
      ·have Yh:iF w0 w w':=by
        refine⟨U.os,U.tape,U.output,U.size,λk hk hL=>U.block k (jD hk hB) ?_⟩
        cases hl:ah k with
        |none=>exact Y.none k hl
        |some I=>exact absurd hL ((hR.cH k I hl).1.resolve_left (by omega))
       have jP:Rl w0 N cW (X4 hd ρ) (σ.bz ns cn (kQ ns cn (gA o.dst) (eI c.ro y.1).len C (gX (eE c.ps) y.2))) a w':=by
        refine hR.iS hv Yh (λb k hb=>?_) (λn E=>?_) (λn z O=>?_)
        ·have hb:(match eA ah dS id b with | none=>if b<w.heap.size then ah b else D b | some _=>D b)=some k:=hb;have Yi:D b=some k->(w0.heap.size<=b\/w0.L b≠none)/\b<w'.heap.size/\k≠[]:=by
          intro h1;obtain⟨g1,g2,g3⟩:=CB b k h1;refine⟨?_,g2,g3⟩;rcases g1 with g1|g1
          ·exact .inl (Nat.le_trans hB g1)
          ·cases Z:eA ah dS id b with
           |none=>exact absurd Z g1
           | some k2=>
            obtain⟨⟨I,hl,_⟩,_⟩:=KP b k2 Z;exact(hR.cH b I hl).1
         split at hb
         ·split at hb
          ·have:=hR.cH b k hb;exact⟨this.1,jD this.2.1 U.size,this.2.2⟩
          ·exact Yi hb
         ·exact Yi hb
        ·have:=cv.1 Yd n (sk.1 E);rw[dy]at this;refine hR.dm n ?_;rcases this with h | h
         ·exact .inl (by have:=cB h;omega)
         ·exact .inr (cB h)
        ·have xm:(n,z)∈kQ ns cn (gA o.dst) (eI c.ro y.1).len C (gX (eE c.ps) y.2):=by
          clear Fz;generalize kQ ns cn (gA o.dst) (eI c.ro y.1).len C (gX (eE c.ps) y.2)=l at O
          induction l with
          |nil=>cases O
          | cons p l ih=>
           rw[List.lookup_cons]at O;cases hb:n==p.1 with
           | true=>
            rw[hb]at O;have e:n=p.1:=by simpa using hb
            injection O with O;rw[e,<-O];exact .head _
           | false=>
            rw[hb]at O;exact .tail _ (ih O)
         exact Fz (n,z) xm
       have aiP:qj w' w0.heap.size cW (λn=>gA o.dst+n) (eI c.ro y.1) v:=?_
       ·obtain⟨tK,FA,uZ⟩:=KO cW _ a w' v jP aiP;exact hK v w' cW _ tK FA (by rw[Yb,zm];exact hv) Yh uZ
       have RC:∀(L:Nat),L=(eI c.ro y.1).len->∀n,n<L->nm n=gA o.dst+n:=λL hL n E=>bk (by omega)
       generalize axa:eI c.ro y.1=res at lG RC;cases res with
       | one p=>
        have lG:jb w' w.heap.size D nm 0 [p] [v]:=lG;exact jb.zO [p] 0 [v] lG hB e2 e1 (λn _ E=>RC _ rfl n (by simpa [fS.len]using E))
       | ct Fy=>
        obtain⟨vs,e,kJ⟩:=lG;exact⟨vs,e,jb.zO Fy 0 vs.toList kJ hB e2 e1 (λn _ E=>RC _ rfl n (by simpa [fS.len]using E))⟩
      ·show (if (eI c.ro y.1).len+k<(eI c.ro y.1).len then gA o.dst+((eI c.ro y.1).len+k)else (xy (gA o.dst) (eI c.ro y.1).len C).getD ((eI c.ro y.1).len+k-(eI c.ro y.1).len) 0)=n;rw[bB (by omega),show (eI c.ro y.1).len+k-(eI c.ro y.1).len=k by omega,eX,E];rfl
      ·rw[zP]at hp;show (match hd.lookup p.1 with|some v=>Loc.de v|none=>ρ p.1) = .de p.2;rw[Yg p hp]
   ·cases T
 ·cases h
theorem aiQ{f:Nat}{args:Array Operand}{D:Array TypeId}{c:mZ}{k:S->aj X}(E:o.op = .call { callee:=.value (.func f),args,argTypes:=D })(I:enters P f)(J:tD P f c)(h:lH N σ o.dst c args.toList k=some r):∃ C,k C=some r/\lA P w0 N o σ C:=by
 obtain⟨C,Z,cn,L,_,_,_,O⟩:=Rz (w0:=w0) E I J h
 refine⟨C,L,λa w K Q hR T=>?_⟩
 obtain⟨ah,ρ,hR⟩:=hR;exact O a w K Q ah ρ hR λv w' cW dZ U Y _ _ _=>T _ _ ⟨cW,U,Y⟩
end
def dT:Nat:=89999
def pz(ah:bA)(k:aa Nat):bA:=λb=>match ah b with
 |some q=>bif k.isSuffixOf q then some (q.take (q.length-k.length)++[dT])else bif aY dT q then none else some q
 |none=>none
def KQ(σ:S)(c:mZ)(args:aa Operand)(q:Nat):Bool:=match jd σ c.ps args with
 |some C=>!bV q ((kr 0 C).map (·.1))&&C.any λD=>Nat.beq D.root dT
 |none=>false
def zR{X:Type}(N:Nat)(σ:S)(E:aj Tmp)(c:mZ)(args:aa Operand)(k:S->aj X):aj X:=
 match args with
 | .tmp t :: _=>(match σ.t t with
  | .lf (.own [j,i,s,q])=>(match σ.m q with
   | some (.sl (.sl C (o+2) I l))=>if s=aC C then (if hi:i<l.length then (match (enc C o l[i])[j]? with
    | some y=>bif Nat.ble N 20000&&Nat.ble 20000 q&&Nat.blt q 60000&&KQ ((σ.bz [q,dT] [dT] [(dT,.sl y)]).set t (.lf (.own [dT]))) c args q then lH N ((σ.bz [q,dT] [dT] [(dT,.sl y)]).set t (.lf (.own [dT]))) E c args λD=>(match D.m dT with
      | some (.sl J)=>(match dec C o (splice (enc C o l[i]) j [J])with
       |some e=>k ((D.drop dT).root q (.sl (.sl C (o+2) I (l.set i e))))
       |none=>none)
      |_=>none)else none
    |none=>none)else none)else none
   |_=>none)
  |_=>none)
 |_=>none
section
variable {P:Program} {w w':World} {w0:Wd} {B N:Nat} {ah cW aD:bA} {ρ dZ ρ':Nat->Loc} {σ:S} {a:Act} {X:Type} {d:Nat} {r:X} {o:Oper} {K:aa Nat}
theorem KR{b:Nat}(h:ah b=none):pz ah K b=none:=by simp[pz,h]
theorem aiR{b:Nat}{p:aa Nat}(h:ah b=some (p++K)):pz ah K b=some (p++[dT]):=by
 have C:K.isSuffixOf (p++K)=true:=List.isSuffixOf_iff_suffix.2 ⟨p,rfl⟩;simp[pz,h,C]
theorem RD{b:Nat}{k:aa Nat}(h:ah b=some k)(C:¬ K <:+ k)(D:aY dT k=false):pz ah K b=some k:=by
 have C:K.isSuffixOf k=false:=by
  cases E:K.isSuffixOf k with
  |false=>rfl
  |true=>exact absurd (List.isSuffixOf_iff_suffix.1 E) C
 simp[pz,h,C,D]
theorem RV.cut{k:aa Nat}{x:V}{v:Value}(h:RV w B ah k x v):∀ p,k=p++K\/x.aA=true->RV w B (pz ah K) (p++[dT]) x v:=by
 induction h with
 |int=>exact λ_ _=>.int _ _ _
 |bool=>exact λ_ _=>.bool _ _
 |str=>exact λ_ _=>.str _ _
 |nil=>exact λ_ _=>.nil _
 |cG=>exact λ_ _=>.cG _ _ _
 |cL=>exact λ_ _=>.cL _ _ _ _ _ (by first|assumption|omega)
 |cV=>exact λ_ _=>.cV _ _ _ _ _ (by first|assumption|omega)
 | aA k t o J l b off cap u D hl hb L O E Q I=>
  exact λp _=>.aA _ _ _ _ _ _ _ _ u D (KR hl) hb L O E (λi h j x C=>(I i h j x C [] (.inr (jr t o l[i] D j x C))).key (jr t o l[i] D j x C))
 | own k t o J l b cap cs u hl T U Y Z E Q I=>
  intro p hp;have hp:k=p++K:=by
   rcases hp with hp|hp
   ·exact hp
   ·simp[V.aA]at hp;omega
  subst hp;exact .own _ _ _ _ _ _ _ cs u (aiR hl) T U Y Z E (λi h j x C=>I i h j x C (j::i::aC t::p) (.inl rfl))
theorem RV.aiS{k:aa Nat}{x:V}{v:Value}(h:RV w B ah k x v)(J:∀ b,ah b≠some [])(hk:((∀ p,¬ K <:+ p++k)/\aY dT k=false)\/x.aA=true):RV w B (pz ah K) k x v:=by
 induction h with
 |int=>exact .int _ _ _
 |bool=>exact .bool _ _
 |str=>exact .str _ _
 |nil=>exact .nil _
 |cG=>exact .cG _ _ _
 |cL=>exact .cL _ _ _ _ _ (by first|assumption|omega)
 |cV=>exact .cV _ _ _ _ _ (by first|assumption|omega)
 | aA k t o L l b off cap u I hl hb O Q D T E=>
  exact .aA _ _ _ _ _ _ _ _ u I (KR hl) hb O Q D (λi h j x C=>E i h j x C (.inr (jr t o l[i] I j x C)))
 | own k t o L l b cap cs u hl U Y Z hm D T E=>
  have hk:(∀ p,¬ K <:+ p++k)/\aY dT k=false:=by
   rcases hk with hk|hk
   ·exact hk
   ·simp[V.aA]at hk;omega
  refine .own _ _ _ _ _ _ _ cs u (RD hl (hk.1 []) hk.2) U Y Z hm D (λi h j x C=>E i h j x C (.inl ⟨λp=>?_,?_⟩))
  ·have:=hk.1 (p++[j,i,aC t])
   rwa [List.append_assoc]at this
  ·have CC:k≠[]:=by rintro rfl;exact J b hl
   rw[Kf CC];exact hk.2
theorem Rl.aiT{t:Nat}{x:A}(h:Rl w0 N ah ρ σ a w)(D:RA w w0.heap.size ah ρ x (a.tmps.getD t undef)):Rl w0 N ah ρ (σ.set t x) a w:=by
 refine⟨h.below,h.cH,h.root,λk=>?_,h.size,h.defers,h.fix,h.dm⟩
 show RA w w0.heap.size ah ρ (bL σ.t t x k) (a.tmps.getD k undef);by_cases C:k=t
 ·subst C;rw[bO];exact D
 ·rw[cu _ _ _ C];exact h.tmp k
theorem Rl.aiU{q:Nat}{x:aP}(h:Rl w0 N ah ρ σ a w)(E:dH w w0.heap.size ah ρ q x):Rl w0 N ah ρ (σ.root q x) a w:=by
 refine⟨h.below,h.cH,λr y C=>?_,h.tmp,h.size,h.defers,h.fix,h.dm⟩
 have C:bL σ.m q (some x) r=some y:=C;by_cases D:r=q
 ·subst D;rw[bO]at C;injection C with C;subst C;exact E
 ·rw[cu _ _ _ D]at C;exact h.root r y C
theorem iF.aiV(h:Rl w0 N ah ρ σ a w):iF w0 w w:=⟨rfl,rfl,rfl,dV _,λ_ _ _=>rfl⟩
theorem aiW{f:Nat}{args:Array Operand}{gW:Array TypeId}{c:mZ}{k:S->aj X}(ho:o.op = .call { callee:=.value (.func f),args,argTypes:=gW })(he:enters P f)(hc:tD P f c)(h:zR N σ o.dst c args.toList k=some r):∃ dG,k dG=some r/\lA P w0 N o σ dG:=by
 unfold zR at h;split at h
 ·rename_i t rest kO;split at h
  ·rename_i j i s q ht;split at h
   ·rename_i E oo qn l hm;split at h
    ·rename_i hs;subst hs;split at h
     ·rename_i hi;split at h
      ·rename_i y hy;generalize aiX:((σ.bz [q,dT] [dT] [(dT,.sl y)]).set t (.lf (.own [dT])))=qx at h;cases hb:(Nat.ble N 20000&&Nat.ble 20000 q&&Nat.blt q 60000&&KQ qx c args.toList q)with
       |false=>rw[hb]at h;cases h
       | true=>
        rw[hb,ak]at h;simp only[aK]at hb;obtain⟨⟨⟨hN,tq⟩,qh⟩,KS⟩:=hb;have hN:=cB hN;have tq:=cB tq;have qh:q<60000:=cB qh;obtain⟨τ,Yj,cn,T,so,oz,xB,Fh⟩:=Rz (w0:=w0) ho he hc h;clear h;unfold KQ at KS;rw[so]at KS;simp only[aK,fM]at KS;obtain⟨Cm,hdT⟩:=KS;obtain⟨mu,m0,RE⟩:=List.any_eq_true.1 hdT;have RE:=bQ RE;have aiY:bV dT cn=false:=by rw[<-RE];exact xB mu m0
        have aiZ:bV q cn=false:=by
         cases D:bV q cn with
         |false=>rfl
         |true=>have:=oz q D;omega
        have RG:q≠dT:=by unfold dT;omega
        split at T
        ·rename_i y' zG;split at T
         ·rename_i e ai0
          refine⟨_,T,λa w KK Q hR hK=>?_⟩
          obtain⟨ah,ρ,hR⟩:=hR;have dY:=hR.td;have ai1:w0.F dT=none:=hR.dm dT (.inr (by decide));have Z:=hR.root q _ hm;generalize D:aP.sl (.sl E (oo+2) qn l)=x at Z;cases Z with
          |ax=>cases D
          |mp=>cases D
          |gh=>cases D
          | sl v yq di hr=>
           injection D with D;subst D;cases hr with
           |cG=>simp at hi
           |cL=>simp at hi
           |cV=>simp at hi
           |aA _ _ _ _ _ _ _ _ _ ho=>omega
           | own _ _ _ _ _ b cap cs u hl hh hs U qQ RH mS=>
            have hKv:s7 σ.m [j,i,aC E,q] y:=.elem j i [q] E oo qn l y (.root q _ hm) hi hy;obtain⟨u0,Kp,ai2⟩:=hKv.ok hR.root;have zH:=hR.tmp t;rw[ht]at zH;have jM:a.tmps.getD t undef=u0:=by
             have Y:=zH.2;rw[Kp]at Y;injection Y with Y;exact Y.symm
            have ai3:u0=u i j:=by
             have h3:cm w ah ρ [j,i,aC E,q]=some (u i j):=by
              rw[J7,zj j i (aC E) (q:=[q]) (show cm w ah ρ [q]=some (.slice (some ⟨b,0,none⟩) l.length cap) by simp only[cm,di]) hl];show w.cell? _=_;rw[cell_of_row w b _ cs _ _ hh];exact RH i hi j y hy
             rw[Kp]at h3;injection h3
            have fA:kG u0=true:=by rw[<-jM];exact zH.1
            -- the state that the callee's caller sees
            have Rb:∀ k:aa Nat,cy k [q,dT]=false->aY q k=false/\aY dT k=false:=by
             intro k T;unfold cy at T;unfold aY;split at T
             next z L=>rw[L];have:=XU T;simp only[fF,List.not_mem_nil,or_false,not_or]at this;exact⟨by simpa using this.1,by simpa using this.2⟩
             next L=>rw[L];exact⟨rfl,rfl⟩
            have hKq:∀ k:aa Nat,[j,i,aC E,q] <:+ k->aY q k=true:=by
             rintro k ⟨p,rfl⟩;simp[aY]
            have E9:qt w w ah (pz ah [j,i,aC E,q]) ρ (bL ρ dT (.de u0)) [q,dT] [dT]:=by
             refine⟨dV _,λI FB C=>⟨rfl,?_⟩,λn U=>?_,λI k C=>(hR.cH I k C).2⟩
             ·cases J:ah I with
              |none=>exact KR J
              | some k=>
               obtain⟨g1,g2⟩:=Rb k (C k J);exact RD J (λmT=>by rw[hKq k mT]at g1;cases g1) g2
             ·refine cu _ _ _ ?_;rintro rfl;simp[bV]at U
            have qW:∀ I k,pz ah [j,i,aC E,q] I=some k->(∃ O,ah I=some O)/\k≠[]:=by
             intro I k C;cases J:ah I with
             |none=>rw[KR J]at C;cases C
             | some O=>
              refine⟨⟨O,rfl⟩,?_⟩;unfold pz at C;rw[J]at C;simp only at C;cases h1:List.isSuffixOf [j,i,aC E,q] O with
              | true=>
               rw[h1,ak]at C;injection C with C;rw[<-C];simp
              | false=>
               rw[h1,aq]at C;cases Y:aY dT O with
               |true=>rw[Y,ak]at C;cases C
               | false=>
                rw[Y,aq]at C;injection C with C;rw[<-C];exact(hR.cH I O J).2.2
            have va:Rl w0 N (pz ah [j,i,aC E,q]) (bL ρ dT (.de u0)) (σ.bz [q,dT] [dT] [(dT,.sl y)]) a w:=by
             refine hR.iS E9 (iF.aiV hR) (λI k C=>?_) (λn U=>?_) (λn z L=>?_)
             ·obtain⟨⟨O,J⟩,CC⟩:=qW I k C;have:=hR.cH I O J;exact⟨this.1,this.2.1,CC⟩
             ·have:n=dT:=by simpa [bV]using U
              rw[this];exact ai1
             ·have U:n=dT/\z = .sl y:=by
               rw[List.lookup_cons]at L;cases RI:(n==dT)with
               |false=>rw[RI]at L;cases L
               | true=>
                rw[RI]at L;injection L with L;exact⟨by simpa using RI,L.symm⟩
              obtain⟨rfl,rfl⟩:=U;exact .sl u0 y (bO _ _ _) (ai2.cut [] (.inl rfl))
            have jP:Rl w0 N (pz ah [j,i,aC E,q]) (bL ρ dT (.de u0)) qx a w:=by
             rw[<-aiX];refine va.aiT ?_;rw[jM];exact⟨fA,by simp only[cm,bO]⟩
            refine Fh a w KK Q _ _ jP λvv w' cW dZ tK FA uS ox uZ=>?_
            -- behind the call
            have sj:90000<=gA o.dst:=by unfold gA;split<;>omega
            have ai4:tK dT = .de u0:=by
             rw[uZ dT (by unfold dT;omega),uS.dQ dT aiY,bO]
            have ai5:tK q = .de (.slice (some ⟨b,0,none⟩) l.length cap):=by
             rw[uZ q (by omega),uS.dQ q aiZ,cu _ _ _ RG,di]
            have Z:=FA.root dT _ zG;generalize D:aP.sl y'=x at Z;cases Z with
            |ax=>cases D
            |mp=>cases D
            |gh=>cases D
            | sl v' y'' js gH=>
             injection D with D;subst D;rw[ai4]at js;injection js with js;subst js;have RJ:=FA.td;have hrel:Rel dT cW (cW.gK dT [j,i,aC E,q]):=EZ RJ;have Yk:aY dT [q]=false:=by simpa [aY]using λe=>RG e
             have CB:pz ah [j,i,aC E,q] b=some [q]:=RD hl (λmT=>by have:=mT.length_le;simp at this) Yk;have ai6:cy [q] ((kr 0 Yj).map (·.1))=false:=Cm;obtain⟨g1,g2⟩:=uS.same b (uS.ah b _ CB).1 (λk C=>by rw[CB]at C;injection C with C;subst C;exact ai6);have ai7:cW b=some [q]:=g2.trans CB;have ai8:cW.gK dT [j,i,aC E,q] b=some [q]:=hrel.fN b _ ai7 Yk;have hR4:=FA.rel hrel (λI k C=>by
              unfold bA.gK at C;cases J:cW I with
              |none=>rw[J]at C;cases C
              | some O=>
               rw[J]at C;injection C with C;subst C;exact⟨⟨O,rfl⟩,Xi (by simp) (λe=>RJ I (by rw[J,e]))⟩)
             refine hK _ _ ⟨_,tK,hR4.aiU (.sl _ _ ai5 ?_)⟩;have hj:j<aC E:=by
              have:=(c7.1 hy).1
              rwa [jn]at this
             refine RV.J9 (w':=w') (cs:=cs) (xs:=[y']) (u:=u) (us:=u) ai8 (g1.trans hh) hs U qQ hi (show j+1<=aC E from hj) ai0 (λi' CD j' x D hij=>⟨RH i' CD j' x D,?_⟩) (λn x D=>?_)
             ·have RK:=mS i' CD j' x D;have ai9:¬ (i'=i/\j'=j):=λe=>hij ⟨e.1,by simp;omega⟩
              have Yl:aY dT [j',i',aC E,q]=false:=by simpa [aY]using λe=>RG e
              have a1:=RK.aiS (K:=[j,i,aC E,q]) dY (.inl ⟨λp mT=>?_,Yl⟩)
              ·have a2:=a1.iS uS (.inl (by simpa [cy]using Cm));exact a2.rel hrel (.inl Yl)
              ·have e1:[j,i,aC E,q]=[j',i',aC E,q]:=Qm mT ⟨p,rfl⟩ rfl;injection e1 with e1 e2;injection e2 with e2 e3;exact ai9 ⟨e2.symm,e1.symm⟩
             ·cases n with
              | zero=>
               simp only[List.getElem?_cons_zero,fh]at D;subst D;refine⟨RH i hi j y hy,?_⟩;have:=gH.gK (q:=dT) (nk:=[j,i,aC E,q]) RJ;rw[Xh,ai3]at this;exact this
              |succ n=>simp at D
         ·cases T
        ·cases T
      ·cases h
     ·cases h
    ·cases h
   ·cases h
  ·cases h
 ·cases h
theorem aja{E:aj Tmp}{c:mZ}{args:aa Operand}{k:S->aj X}(J:∀ {X:Type} {σ:S} {k:S->aj X} {r:X},lH N σ E c args k=some r->∃ C,k C=some r/\∀ (X:Type) (k:S->aj X),lH N σ E c args k=k C)(h:zR N σ E c args k=some r):
  ∃C,k C=some r/\∀(X:Type) (k:S->aj X),zR N σ E c args k=k C:=by
 unfold zR at h;split at h
 ·rename_i t rest;split at h
  ·rename_i j i s q L;split at h
   ·rename_i Z oo qn l O;split at h
    ·rename_i I;split at h
     ·rename_i hi;split at h
      ·rename_i y Q;generalize hb:(Nat.ble N 20000&&Nat.ble 20000 q&&Nat.blt q 60000&&KQ ((σ.bz [q,dT] [dT] [(dT,.sl y)]).set t (.lf (.own [dT]))) c (.tmp t :: rest) q)=b at h;cases b with
       |false=>cases h
       | true=>
        rw[ak]at h;obtain⟨C,D,T⟩:=J h;split at D
        ·rename_i y' U;split at D
         ·rename_i e Y;exact⟨_,D,λX k=>by
           simp only[zR,L,O,I,if_true,hi,aG,Q];subst I;rw[hb,ak,T];simp only[U,Y]⟩
         ·cases D
        ·cases D
      ·cases h
     ·cases h
    ·cases h
   ·cases h
  ·cases h
 ·cases h
end
def cx{α:Type}(f:(X:Type)->(α->aj X)->aj X)(y:α):Prop:=∀(X:Type) (k:α->aj X),f X k=k y
section
variable {P:Program} {N:Nat} {σ:S} {X:Type} {r:X} {d:Nat} {m:Nat->aj aP} {o:Oper}
theorem qy:∀ (q:aa Nat) (k:V->aj X),fK m q k=some r->∃ y,k y=some r/\s7 m q y/\cx (λX k=>fK (X:=X) m q k) y
 |[],_,h=>by simp[fK]at h
 | [x],k,h=>by
  simp only[fK]at h;split at h
  next y D=>exact⟨y,h,.root x y D,λX k=>by simp only[fK,D]⟩
  ·cases h
 |[_,_],_,h=>by simp[fK]at h
 | j :: i :: s :: q,k,h=>by
  simp only[fK]at h;obtain⟨y,C,I,J⟩:=qy q _ h;clear h;split at C
  ·split at C
   ·rename_i L;subst L;split at C
    ·rename_i hi;split at C
     ·rename_i z E;exact⟨z,C,.elem j i q _ _ _ _ z I hi E,λX k=>by
       simp only[fK];exact(J X _).trans (by simp only[if_true,aG hi,E])⟩
     ·cases C
    ·cases C
   ·cases C
  ·cases C
theorem xD{x:Lf}{k:V->aj X}(h:gJ σ x k=some r):∃ y,k y=some r/\cx (λX k=>gJ (X:=X) σ x k) y:=by
 cases x with
 |v z=>exact⟨z,h,λX k=>rfl⟩
 |own q=>obtain⟨y,C,_,D⟩:=qy q k h;exact⟨y,C,D⟩
 |dead=>cases h
theorem Ym{q:aa Nat}{s i j:Nat}{k:V->aj X}(h:qT σ q s i j k=some r):∃ y,k y=some r/\cx (λX k=>qT (X:=X) σ q s i j k) y:=by
 obtain⟨y,C,_,D⟩:=qy q _ h;split at C
 ·rename_i z E;exact⟨z,C,λX k=>by
   simp only[qT];exact(D X _).trans (by simp only[E])⟩
 ·cases C
theorem RL{x:A}{k:V->aj X}(h:o6 σ x k=some r):∃ y,k y=some r/\cx (λX k=>o6 (X:=X) σ x k) y:=by
 unfold o6 at h;split at h
 ·exact xD h
 ·exact Ym h
 ·cases h
theorem CE{x:A}{k:V->aj X}(h:vK x k=some r):∃ y,k y=some r/\cx (λX k=>vK (X:=X) x k) y:=by
 obtain⟨y,rfl,h⟩:=Ka h;exact⟨y,h,λX k=>rfl⟩
theorem Yn{ty:TypeId}{op:BinOp}{x y:V}{k:V->aj X}(h:l8 P ty op x y k=some r):∃ z,k z=some r/\cx (λX k=>l8 (X:=X) P ty op x y k) z:=by
 unfold l8 at h;split at h
 ·rename_i L a O b;split at h
  ·split at h
   ·cases h
   next hb=>exact⟨_,h,λX k=>by simp only[l8,bB hb]⟩
  ·split at h
   ·cases h
   next hb=>exact⟨_,h,λX k=>by simp only[l8,bB hb]⟩
  ·rename_i E I;split at h
   ·rename_i J;subst J;cases op
    case shl=>exact absurd rfl E
    case shr=>exact absurd rfl I
    case quo=>
     by_cases hb:b=0
     ·simp only[hb,if_true]at h;cases h
     ·simp only[hb,if_false]at h;exact⟨_,h,λX k=>by simp only[l8,if_true,bB hb]⟩
    case rem=>
     by_cases hb:b=0
     ·simp only[hb,if_true]at h;cases h
     ·simp only[hb,if_false]at h;exact⟨_,h,λX k=>by simp only[l8,if_true,bB hb]⟩
    all_goals first
     |(refine⟨_,h,λX k=>?_⟩;simp only[l8,if_true];done)
     |cases h
   ·cases h
 ·split at h
  ·rename_i D;split at h
   ·exact⟨_,h,λX k=>by simp only[l8,D]⟩
   ·exact⟨_,h,λX k=>by simp only[l8,D]⟩
   ·cases h
  ·cases h
 ·rename_i a b;split at h
  ·cases C:aT (a.size+b.size)with
   |false=>rw[C]at h;cases h
   |true=>rw[C]at h;exact⟨_,h,λX k=>by simp only[l8,C,ak]⟩
  ·exact⟨_,h,λX k=>by simp only[l8]⟩
  ·exact⟨_,h,λX k=>by simp only[l8]⟩
  ·cases h
 ·cases h
theorem ajb{op:BinOp}{t:TypeId}{x y:A}{k:A->aj X}(h:kM P σ op t x y k=some r):∃ z,k z=some r/\cx (λX k=>kM (X:=X) P σ op t x y k) z:=by
 unfold kM at h;split at h
 ·rename_i E cs L C;split at h
  ·rename_i xs ys T U;generalize Y:(P.eqGuardType P.depth t || !isStr P t)=g at h;cases g with
   |true=>cases h
   | false=>
    rw[aq]at h;split at h
    next b hb=>exact⟨_,h,λX k=>by simp only[kM,C,T,U,Y,aq,hb]⟩
    ·cases h
  ·cases h
 ·rename_i E l C;split at h
  ·rename_i e I;obtain⟨z,D,J⟩:=xD h;clear h;split at D
   ·exact⟨_,D,λX k=>by
     simp only[kM,C,I];exact J X _⟩
   ·exact⟨_,D,λX k=>by
     simp only[kM,C,I];exact J X _⟩
   ·rename_i t' o' Z;cases hl:iR Z with
    |true=>rw[hl]at D;cases D
    | false=>
     rw[hl,aq]at D;exact⟨_,D,λX k=>by
      simp only[kM,C,I];exact(J X _).trans (by simp only[hl,aq])⟩
   ·cases D
  ·cases h
 ·rename_i O Q _ _ _ h1 h2';obtain⟨u0,k1,KT⟩:=CE h;obtain⟨v0,k2,hd2⟩:=CE k1;obtain⟨z,k3,FC⟩:=Yn k2
  refine⟨_,k3,λX k=>?_⟩
  have e1:kM P σ op t O Q k=vK O λa=>vK Q λb=>l8 P t op a b λz=>k (.lf (.v z)):=by
   unfold kM;split
   next E cs L C=>exact(h1 E cs L C rfl rfl).elim
   next E l C=>exact(h2' E l C rfl rfl).elim
   ·rfl
  exact e1.trans ((KT _ _).trans ((hd2 _ _).trans (FC _ _)))
theorem Yo{op:UnOp}{x:V}{k:V->aj X}(h:Cf op x k=some r):∃ z,k z=some r/\cx (λX k=>Cf (X:=X) op x k) z:=by
 unfold Cf at h;split at h
 ·exact⟨_,h,λX k=>rfl⟩
 ·exact⟨_,h,λX k=>rfl⟩
 ·cases h
theorem vb{t:TypeId}{cs:aa Lf}{k:A->aj X}(h:jL P t cs k=some r):∃ y,k y=some r/\cx (λX k=>jL (X:=X) P t cs k) y:=by
 unfold jL at h;split at h
 ·rename_i n D;split at h
  ·rename_i hl;split at h
   next C=>exact⟨_,h,λX k=>by simp only[jL,D,bk hl,C]⟩
   ·rename_i C;split at h
    ·exact⟨_,h,λX k=>by simp only[jL,D,bk hl,C]⟩
    ·cases h
   ·cases h
  ·cases h
 ·cases h
theorem FD{t:TypeId}{x:A}{k:A->aj X}(h:iG P σ t x k=some r):∃ y,k y=some r/\cx (λX k=>iG (X:=X) P σ t x k) y:=by
 unfold iG at h;split at h
 ·cases h
 ·rename_i n D;split at h
  ·split at h
   next cs I=>obtain⟨y,E,C⟩:=vb h;exact⟨y,E,λX k=>by simp only[iG,D,I];exact C X k⟩
   ·cases h
  ·obtain⟨y,E,C⟩:=vb h;exact⟨y,E,λX k=>by simp only[iG,D];exact C X k⟩
  ·rename_i j i s q;obtain⟨z,C,_,J⟩:=qy _ _ h;clear h;split at C
   ·split at C
    ·rename_i L;split at C
     ·rename_i hi;obtain⟨y,O,Q⟩:=vb C;exact⟨y,O,λX k=>by
       simp only[iG,D];exact(J X _).trans (by simp only[bk L,aG hi];exact Q X k)⟩
     ·cases C
    ·cases C
   ·cases C
  ·cases h
theorem ajc{s:TypeId}{x:A}{f:Nat}{k:A->aj X}(h:rZ P s x f k=some r):∃ y,k y=some r/\cx (λX k=>rZ (X:=X) P s x f k) y:=by
 unfold rZ at h;split at h
 ·cases h
 ·rename_i E C;split at h
  ·rename_i n D;split at h
   ·exact⟨_,h,λX k=>by simp only[rZ,C,D]⟩
   ·exact⟨_,h,λX k=>by simp only[rZ,C,D]⟩
   ·exact⟨_,h,λX k=>by simp only[rZ,C,D]⟩
   ·cases h
  ·cases h
theorem ajd{t:TypeId}{x i:A}{k:A->aj X}(h:om P σ t x i k=some r):∃ y,k y=some r/\cx (λX k=>om (X:=X) P σ t x i k) y:=by
 unfold om at h;split at h
 ·cases h
 ·rename_i e I;split at h
  ·rename_i n U Y J;split at h
   ·rename_i Q g T l;split at h
    ·rename_i D;cases L:Nat.blt g 2 with
     |false=>rw[L]at h;cases h
     | true=>
      rw[L,ak]at h;split at h
      next hb=>exact⟨_,h,λX k=>by simp only[om,I,J,bk D,L,ak,aG hb]⟩
      ·cases h
    ·cases h
   ·rename_i q;obtain⟨z,C,_,O⟩:=qy _ _ h;clear h;split at C
    ·split at C
     ·rename_i D;split at C
      ·rename_i hb;rename_i Q g T l _;cases E:Nat.blt g 2 with
       | true=>
        rw[E,ak]at C;exact⟨_,C,λX k=>by
         simp only[om,I,J];exact(O X _).trans (by simp only[bk D,aG hb,E,ak])⟩
       | false=>
        rw[E,aq]at C;exact⟨_,C,λX k=>by
         simp only[om,I,J];exact(O X _).trans (by simp only[bk D,aG hb,E,aq])⟩
      ·cases C
     ·cases C
    ·cases C
   ·cases h
  ·cases h
theorem aje{t:TypeId}{x:A}{k:A->aj X}(h:l9 P σ t x k=some r):∃ y,k y=some r/\cx (λX k=>l9 (X:=X) P σ t x k) y:=by
 unfold l9 at h;split at h
 ·obtain⟨z,C,E⟩:=xD h;clear h;split at C
  ·split at C
   next D=>exact⟨_,C,λX k=>by simp only[l9];exact(E X _).trans (by simp only[D])⟩
   ·cases C
  ·split at C
   next D=>exact⟨_,C,λX k=>by simp only[l9];exact(E X _).trans (by simp only[D])⟩
   ·cases C
  ·split at C
   next D=>exact⟨_,C,λX k=>by simp only[l9];exact(E X _).trans (by simp only[D])⟩
   ·cases C
  ·cases C
 ·split at h
  next D=>exact⟨_,h,λX k=>by simp only[l9,D]⟩
  ·cases h
 ·cases h
theorem ajf{x:A}{i:Nat}{k:A->aj X}(h:uL x i k=some r):∃ y,k y=some r/\cx (λX k=>uL (X:=X) x i k) y:=by
 unfold uL at h;split at h
 ·split at h
  next y C=>exact⟨y,h,λX k=>by simp only[uL,C]⟩
  ·cases h
 ·cases h
theorem ajg{t:TypeId}{parts:aa (Nat×Operand)}{k:A->aj X}(h:tu P σ t parts k=some r):∃ y,k y=some r/\cx (λX k=>tu (X:=X) P σ t parts k) y:=by
 unfold tu at h;split at h
 ·rename_i z pl C D;split at h
  next cs E=>exact⟨_,h,λX k=>by simp only[tu,C,D,E]⟩
  ·cases h
 ·cases h
theorem ajh{s:TypeId}{x:A}{f:Nat}{k:A->aj X}(h:uP P s x f k=some r):∃ y,k y=some r/\cx (λX k=>uP (X:=X) P s x f k) y:=by
 unfold uP at h;split at h
 ·rename_i L cs E;split at h
  ·rename_i n C D;split at h
   next I=>exact⟨_,h,λX k=>by simp only[uP,E,C,D,bk I]⟩
   ·cases h
  ·rename_i n C D;split at h
   next y J=>exact⟨_,h,λX k=>by simp only[uP,E,C,D,J]⟩
   ·cases h
  ·cases h
 ·cases h
theorem Yp{C:Bool}{x y:A}{k:A->aj X}(h:zE C x y k=some r):∃ z,k z=some r/\cx (λX k=>zE (X:=X) C x y k) z:=by
 unfold zE at h;split at h
 ·exact⟨_,h,λX k=>rfl⟩
 ·cases h
theorem aji{t:TypeId}{x i:A}{k:A->aj X}(h:xd P t x i k=some r):∃ z,k z=some r/\cx (λX k=>xd (X:=X) P t x i k) z:=by
 unfold xd at h;split at h
 ·split at h
  ·rename_i C;split at h
   next hb=>exact⟨_,h,λX k=>by simp only[xd,C,aG hb]⟩
   ·cases h
  ·cases h
 ·cases h
theorem ajj{D E:TypeId}{z:V}{k:A->aj X}(h:uR P D E z k=some r):∃ y,k y=some r/\cx (λX k=>uR (X:=X) P D E z k) y:=by
 unfold uR at h;split at h
 ·cases C:xg P D E with
  |false=>rw[C]at h;cases h
  |true=>rw[C,ak]at h;exact⟨_,h,λX k=>by simp only[uR,C,ak]⟩
 ·cases C:xg P D E with
  |false=>rw[C]at h;cases h
  |true=>rw[C,ak]at h;exact⟨_,h,λX k=>by simp only[uR,C,ak]⟩
 ·cases h
theorem ajk{C D:TypeId}{x:A}{k:A->aj X}(h:nJ P σ C D x k=some r):∃ z,k z=some r/\cx (λX k=>nJ (X:=X) P σ C D x k) z:=by
 unfold nJ at h;split at h
 ·split at h
  next Y Z I E=>exact⟨_,h,λX k=>by simp only[nJ,I,E]⟩
  ·cases h
 ·rename_i y J;obtain⟨z,E,L⟩:=xD h;obtain⟨O,Q,T⟩:=ajj E
  refine⟨_,Q,λX k=>?_⟩
  have:nJ P σ C D (.lf y) k=gJ σ y λz=>uR P C D z k:=by
   unfold nJ;split
   next n e=>injection e with e;exact(J _ _ e).elim
   next e=>injection e with e;subst e;rfl
   next U =>exact absurd rfl (U _)
  show nJ P σ C D (.lf y) k=k O;rw[this];exact(L X _).trans (T X k)
 ·cases h
theorem cx.at_{α:Type}{f:(X:Type)->(α->aj X)->aj X}{y:α}(h:cx f y){X:Type}(k:α->aj X):f X k=k y:=h X k
theorem vc{x:aP}{y:A}{k:S->aj X}(h:gV N σ d x y k=some r):k (((σ.drop d).root d x).set d y)=some r/\cx (λX k=>gV (X:=X) N σ d x y k) (((σ.drop d).root d x).set d y):=by
 unfold gV at h;cases C:Nat.blt d N with
 |false=>rw[C]at h;cases h
 |true=>rw[C]at h;exact⟨h,λX k=>by simp only[gV,C,ak]⟩
theorem Yq{e:TypeId}{k:S->aj X}(h:qV P N σ d e k=some r):∃ x y,k (((σ.drop d).root d x).set d y)=some r/\y = .aH d 0/\(∀ (C:S),cx (λX k=>qV (X:=X) P N C d e k) (((C.drop d).root d x).set d y)):=by
 unfold qV at h;split at h
 ·rename_i z D;obtain⟨E,_⟩:=vc h
  refine⟨_,_,E,rfl,λC X k=>?_⟩
  obtain⟨I,_⟩:=oq h;have hb:Nat.blt d N=true:=iE I;simp only[qV,D,gV,hb,ak]
 ·cases h
theorem RM{t:TypeId}{l c:A}{k:S->aj X}(h:zq P N σ d t l c k=some r):∃ y,k (((σ.drop d).root d (.sl y)).set d (.lf (.own [d])))=some r/\(∀ (C:S),cx (λX k=>zq (X:=X) P N C d t l c k) (((C.drop d).root d (.sl y)).set d (.lf (.own [d])))):=by
 unfold zq at h;split at h
 ·rename_i e O Q n T c D;split at h
  ·cases h
  ·rename_i z E;split at h
   ·rename_i hb;obtain⟨I,_⟩:=vc h
    refine⟨_,I,λC X k=>?_⟩
    obtain⟨J,_⟩:=oq h;have L:Nat.blt d N=true:=iE J;simp only[zq,D,E,bk hb,gV,L,ak]
   ·cases h
 ·cases h
theorem RN{t:TypeId}{len:Nat}{parts:aa (Nat×Operand)}{k:S->aj X}(h:zC P N σ d t len parts k=some r):∃ y,k (((σ.drop d).root d (.sl y)).set d (.lf (.own [d])))=some r/\
  (∀(C:S),(∀p∈parts,aE C p.2=aE σ p.2)->cx (λX k=>zC (X:=X) P N C d t len parts k) (((C.drop d).root d (.sl y)).set d (.lf (.own [d])))):=by
 unfold zC at h;split at h
 ·rename_i e D I;split at h
  ·rename_i z J;cases E:(Nat.beq (full D) 0&&Nat.beq z.cells.size (aC D)&&Nat.blt (len*aC D) 16777217)with
   |false=>rw[E]at h;cases h
   | true=>
    rw[E,ak]at h;split at h
    ·rename_i cs L;split at h
     ·rename_i vs O;split at h
      ·rename_i l hl;obtain⟨Q,_⟩:=vc h
       refine⟨_,Q,λC T X k=>?_⟩
       obtain⟨U,_⟩:=oq h;have Y:Nat.blt d N=true:=iE U;have e:(parts.map λp=>(p.1,aE C p.2))=parts.map λp=>(p.1,aE σ p.2):=ic λp Z=>by rw[T p Z]
       simp only[zC,I,J,E,ak,e,L,O,hl,gV,Y]
      ·cases h
     ·cases h
    ·cases h
  ·cases h
 ·cases h
theorem Yr{t:TypeId}{q:aa Nat}{C:aj Nat}{lo hi:aj A}{k:A->aj X}(h:nK P σ t q C lo hi k=some r):∃ y,k y=some r/\cx (λX k=>nK (X:=X) P σ t q C lo hi k) y:=by
 unfold nK at h;split at h
 ·rename_i e D;split at h
  ·rename_i n E;obtain⟨y,I,_,J⟩:=qy q _ h;obtain⟨Q,g,T,xs,l,m,rfl,U,Y,Z,b1,b2,b3,L,O⟩:=XH I
   refine⟨_,L,λX k=>?_⟩
   simp only[nK,D,E];exact(J X _).trans (O X k)
  ·cases h
 ·cases h
theorem ajl{t:TypeId}{x:A}{lo hi:aj A}{k:A->aj X}(h:qi P σ t x lo hi k=some r):∃ y,k y=some r/\cx (λX k=>qi (X:=X) P σ t x lo hi k) y:=by
 unfold qi at h;split at h
 ·exact Yr h
 ·exact Yr h
 ·rename_i E;obtain⟨y,C,D,_⟩:=XG h
  refine⟨y,C,λX k=>?_⟩
  simp only[qi];exact D X k
theorem ajm{t:TypeId}{x y:A}{k:S->aj X}(h:pn P N σ d t x y k=some r):∃ I,k I=some r/\cx (λX k=>pn (X:=X) P N σ d t x y k) I:=by
 unfold pn at h;split at h
 ·rename_i e J L;cases E:(Nat.beq (full J) 0&&(zeroOf P e).any (λz=>Nat.beq z.cells.size (aC J)))with
  |false=>rw[E]at h;cases h
  | true=>
   rw[E,ak]at h;obtain⟨yv,C,O⟩:=RL h;clear h;split at C
   ·cases C
   ·rename_i l2 Q;split at C
    ·cases D:aT l2.length with
     |false=>rw[D]at C;cases C
     | true=>
      rw[D,ak]at C;obtain⟨T,U⟩:=vc C;exact⟨_,T,λX k=>by
       simp only[pn,L,E,ak];exact(O.at_ _).trans (by simp only[Q,D,ak];exact U X k)⟩
    ·rename_i rr;split at C
     ·rename_i t' o q l Y;split at C
      ·rename_i Z;cases D:(Nat.blt d N&&(Nat.blt rr N || Nat.ble 60000 rr)&&aT (l.length+l2.length))with
       |false=>rw[D]at C;cases C
       | true=>
        rw[D,ak]at C;exact⟨_,C,λX k=>by
         simp only[pn,L,E,ak];exact(O.at_ _).trans (by simp only[Q,Y,aG Z,D,ak])⟩
      ·cases C
     ·cases C
    ·cases C
 ·cases h
theorem Ys:∀ (q:aa Nat) (y:V) (k:(Nat->aj aP)->aj X),oh m q y k=some r->∃ m',k m'=some r/\cx (λX k=>oh (X:=X) m q y k) m'
 |[],_,_,h=>by simp[oh]at h
 | [x],y,k,h=>by
  simp only[oh]at h;split at h
  next T D=>exact⟨_,h,λX k=>by simp only[oh,D]⟩
  ·cases h
 |[_,_],_,_,h=>by simp[oh]at h
 | j :: i :: s :: q,y,k,h=>by
  simp only[oh]at h;obtain⟨z,C,_,E⟩:=qy q _ h;clear h;split at C
  ·split at C
   ·rename_i I;split at C
    ·rename_i hi;split at C
     ·rename_i J;split at C
      ·rename_i e L;obtain⟨m',O,Q⟩:=Ys q _ k C;exact⟨m',O,λX k=>by
        simp only[oh];exact(E.at_ _).trans (by simp only[bk I,aG hi,bk J,L];exact Q X k)⟩
      ·cases C
     ·cases C
    ·cases C
   ·cases C
  ·cases C
theorem Yt{t:TypeId}{x y:A}{k:S->aj X}(h:mU P σ t x y k=some r):∃ E,k E=some r/\cx (λX k=>mU (X:=X) P σ t x y k) E:=by
 unfold mU at h;split at h
 ·rename_i n xs I J;split at h
  ·rename_i hlen;split at h
   ·rename_i r' j;split at h
    ·rename_i cs L;split at h
     ·rename_i D;cases hl:xs.all Lf.live with
      |false=>rw[hl]at h;cases h
      |true=>rw[hl]at h;exact⟨_,h,λX k=>by simp only[mU,I,J,bk hlen,L,bk D,hl,ak]⟩
     ·cases h
    ·cases h
   ·rename_i j i s q;split at h
    ·cases h
    ·rename_i O Q;obtain⟨y0,C,hg0,T⟩:=qy _ _ h;clear h;split at C
     ·rename_i U Y qn l;split at C
      ·rename_i Z;split at C
       ·rename_i hi;split at C
        ·rename_i D;cases hold:(((enc U Y l[i]).drop j).take O.length).all V.plain with
         |false=>rw[hold]at C;cases C
         | true=>
          rw[hold,ak]at C;split at C
          ·rename_i e he;obtain⟨m',h3,h4⟩:=Ys q _ _ C;exact⟨_,h3,λX k=>by
            simp only[mU,I,J,bk hlen,Q];exact(T.at_ _).trans (by simp only[bk Z,aG hi,bk D,hold,ak,he];exact h4.at_ _)⟩
          ·cases C
        ·cases C
       ·cases C
      ·cases C
     ·cases C
   ·cases h
  ·cases h
 ·cases h
theorem FE:∀ (xs:aa Lf) (k:aa V->aj X),mV σ xs k=some r->∃ C,k C=some r/\cx (λX k=>mV (X:=X) σ xs k) C
 |[],k,h=>⟨[],h,λX k=>rfl⟩
 | x :: xs,k,h=>by
  unfold mV at h;obtain⟨y,D,E⟩:=xD h;obtain⟨ys,I,J⟩:=FE xs _ D;exact⟨_,I,λX k=>by
   simp only[mV];exact(E.at_ _).trans (J.at_ _)⟩
theorem Yu{x:A}{k:Pt->aj X}(h:mb σ x k=some r):∃ p,k p=some r/\cx (λX k=>mb (X:=X) σ x k) p:=by
 unfold mb at h;split at h
 ·obtain⟨E,C,D⟩:=FE _ _ h;exact⟨_,C,λX k=>by simp only[mb];exact D.at_ _⟩
 ·obtain⟨E,C,D⟩:=FE _ _ h;exact⟨_,C,λX k=>by simp only[mb];exact D.at_ _⟩
 ·obtain⟨y,C,D⟩:=Ym h;exact⟨_,C,λX k=>by simp only[mb];exact D.at_ _⟩
 ·exact⟨_,h,λX k=>rfl⟩
 ·cases h
theorem RO:∀ (xs:aa Operand) (k:aa Pt->aj X),jt σ xs k=some r->∃ ps,k ps=some r/\cx (λX k=>jt (X:=X) σ xs k) ps
 |[],k,h=>⟨[],h,λX k=>rfl⟩
 | x :: xs,k,h=>by
  unfold jt at h;obtain⟨p,C,D⟩:=Yu h;obtain⟨ps,E,I⟩:=RO xs _ C;exact⟨_,E,λX k=>by
   simp only[jt];exact(D.at_ _).trans (I.at_ _)⟩
theorem ajn{x:A}{k:Pt->aj X}(h:qX σ x k=some r):∃ p,k p=some r/\cx (λX k=>qX (X:=X) σ x k) p:=by
 unfold qX at h;split at h
 ·exact⟨_,h,λX k=>rfl⟩
 ·exact⟨_,h,λX k=>rfl⟩
 ·split at h
  ·rename_i cs E;obtain⟨I,C,D⟩:=FE _ _ h;split at C
   ·exact⟨_,C,λX k=>by simp only[qX,E];exact D.at_ _⟩
   ·cases C
  ·cases h
 ·split at h
  ·rename_i cs E;obtain⟨I,C,D⟩:=FE _ _ h;split at C
   ·exact⟨_,C,λX k=>by simp only[qX,E];exact D.at_ _⟩
   ·cases C
  ·cases h
 ·rename_i y J C L O;obtain⟨p,Q,D⟩:=Yu h;exact⟨p,Q,λX k=>by
   unfold qX;split
   ·exact absurd rfl (J _ _)
   ·exact absurd rfl (C _ _ _)
   ·exact absurd rfl (L _ _)
   ·exact absurd rfl (O _ _ _)
   ·exact D.at_ _⟩
theorem RQ:∀ (xs:aa Operand) (k:aa Pt->aj X),mW σ xs k=some r->∃ ps,k ps=some r/\cx (λX k=>mW (X:=X) σ xs k) ps
 |[],k,h=>⟨[],h,λX k=>rfl⟩
 | x :: xs,k,h=>by
  unfold mW at h;obtain⟨p,C,D⟩:=ajn h;obtain⟨ps,E,I⟩:=RQ xs _ C;exact⟨_,E,λX k=>by
   simp only[mW];exact(D.at_ _).trans (I.at_ _)⟩
theorem ajo{f:Nat}{c:jc}{args:aa Operand}{k:S->aj X}(L:iJ P f c)(h:qk N σ d c args k=some r):∃ E,k E=some r/\cx (λX k=>qk (X:=X) N σ d c args k) E:=by
 unfold qk at h;cases D:Nat.blt d N with
 |false=>rw[D]at h;cases h
 | true=>
  rw[D,ak]at h;obtain⟨ps,O,I⟩:=RQ _ _ h;obtain⟨res,C,J,_⟩:=L X ps _ r O;cases res with
  | one p=>
   simp only at C;split at C
   ·rename_i y Q
    refine⟨_,C,λX k=>?_⟩
    simp only[qk,D,ak];refine(I.at_ _).trans ((J X _).trans ?_);simp only[Q]
   ·cases C
  | ct T=>
   refine⟨_,C,λX k=>?_⟩
   simp only[qk,D,ak];exact(I.at_ _).trans (J X _)
def nO(d:Nat)(res:fS)(σ:S):aj S:=match res with
 | .one p=>match qg (p.1,jO (1000000000100000+1000*d) p.2)with
  |some y=>some ((fO (1000000000100000+1000*d) σ p.2).set d y)
  |none=>none
 |.ct ps=>some ((iK (1000000000100000+1000*d) σ ps).set d (.ct (kN (1000000000100000+1000*d) ps)))
theorem CF{f:Nat}{c:jc}{args:aa Operand}{k:S->aj X}(T:iJ P f c)(h:uT N σ d c args k=some r):∃ res O,nO d res σ=some O/\k O=some r/\
  (∀D E,(∀(X:Type) (k:aa Pt->aj X),jt D args k=jt σ args k)->nO d res D=some E->cx (λX k=>uT (X:=X) N D d c args k) E):=by
 unfold uT at h;cases J:Nat.blt d N with
 |false=>rw[J]at h;cases h
 | true=>
  rw[J,ak]at h;obtain⟨ps,U,Y⟩:=RO _ _ h;obtain⟨res,I,Z,_⟩:=T X ps _ r U;have step:∀ D E,(∀ (X:Type) (k:aa Pt->aj X),jt D args k=jt σ args k)->nO d res D=some E->cx (λX k=>uT (X:=X) N D d c args k) E:=by
   intro D E ha C X k;simp only[uT,J,ak];rw[ha];refine(Y.at_ _).trans ((Z X _).trans ?_);unfold nO at C;cases res with
   | one p=>
    simp only at C ⊢;split at C
    next y L=>injection C with C;subst C;simp only[L]
    ·cases C
   | ct Q=>
    injection C with C;subst C;rfl
  cases res with
  | one p=>
   simp only at I;split at I
   next y L=>exact⟨.one p,_,by simp only[nO,L],I,step⟩
   ·cases I
  |ct Q=>exact⟨.ct Q,_,rfl,I,step⟩
theorem ajp{f:Nat}{c:jc}{args:aa Operand}{k:S->aj X}(T:iJ P f c)(h:qk N σ d c args k=some r):∃ res O,nO d res σ=some O/\k O=some r/\
  (∀D E,(∀(X:Type) (k:aa Pt->aj X),mW D args k=mW σ args k)->nO d res D=some E->cx (λX k=>qk (X:=X) N D d c args k) E):=by
 unfold qk at h;cases J:Nat.blt d N with
 |false=>rw[J]at h;cases h
 | true=>
  rw[J,ak]at h;obtain⟨ps,U,Y⟩:=RQ _ _ h;obtain⟨res,I,Z,_⟩:=T X ps _ r U;have step:∀ D E,(∀ (X:Type) (k:aa Pt->aj X),mW D args k=mW σ args k)->nO d res D=some E->cx (λX k=>qk (X:=X) N D d c args k) E:=by
   intro D E ha C X k;simp only[qk,J,ak];rw[ha];refine(Y.at_ _).trans ((Z X _).trans ?_);unfold nO at C;cases res with
   | one p=>
    simp only at C ⊢;split at C
    next y L=>injection C with C;subst C;simp only[L]
    ·cases C
   | ct Q=>
    injection C with C;subst C;rfl
  cases res with
  | one p=>
   simp only at I;split at I
   next y L=>exact⟨.one p,_,by simp only[nO,L],I,step⟩
   ·cases I
  |ct Q=>exact⟨.ct Q,_,rfl,I,step⟩
/-! Keys that do not end in certain names. -/
def dI(p:Nat->Bool)(k:aa Nat):Bool:=match k.getLast? with
 |some r=>!p r
 |none=>true
def Lf.nr(p:Nat->Bool):Lf->Bool
 |.own k=>dI p k
 |_=>true
def A.nr(p:Nat->Bool):A->Bool
 |.lf x=>x.nr p
 |.agg cs=>cs.all (Lf.nr p)
 |.ct xs=>xs.all λq=>q.2.all (Lf.nr p)
 |.ptr k=>dI p k
 |.aH r _=>!p r
 |.pk r _=>!p r
 |.view k _ _ _=>dI p k
 |.fn _ cap=>cap.all λq=>!p q.1
 |_=>true
theorem qZ{p:Nat->Bool}{k:aa Nat}{n:Nat}(h:dI p k=true)(D:p n=true):aY n k=false:=by
 unfold dI at h;unfold aY;split at h
 ·rename_i r C;rw[C];have:r≠n:=by rintro rfl;simp[D]at h
  simpa using this
 next C=>rw[C];rfl
theorem Lf.lJ{p:Nat->Bool}{x:Lf}{n:Nat}(h:x.nr p=true)(C:p n=true):x.drop n=x:=by
 cases x with
 | own k=>
  have e:Lf.drop n (.own k)=(bif aY n k then .dead else .own k):=rfl;rw[e,qZ h C];rfl
 |v x=>rfl
 |dead=>rfl
theorem gB.lJ{p:Nat->Bool}{xs:aa Lf}{n:Nat}(h:xs.all (Lf.nr p)=true)(C:p n=true):xs.map (Lf.drop n)=xs:=by
 conv=>rhs;rw[<-List.map_id xs]
 exact ic λx D=>Lf.lJ (cv.1 h x D) C
theorem A.lJ{p:Nat->Bool}{x:A}{n:Nat}(h:x.nr p=true)(C:p n=true):x.drop n=x:=by
 cases x with
 |lf x=>exact bD A.lf (Lf.lJ h C)
 |agg cs=>exact bD A.agg (gB.lJ h C)
 | ct xs=>
  refine bD A.ct ?_
  conv=>rhs;rw[<-List.map_id xs]
  refine ic λq D=>?_
  have:=gB.lJ (cv.1 h q D) C;simp only[id];rw[this]
 | ptr k=>
  have e:A.drop n (.ptr k)=(bif aY n k then .undef else .ptr k):=rfl;rw[e,qZ h C];rfl
 | view k s i j=>
  have e:A.drop n (.view k s i j)=(bif aY n k then .undef else .view k s i j):=rfl;rw[e,qZ h C];rfl
 | pk r j=>
  have e:A.drop n (.pk r j)=(bif Nat.beq r n then .undef else .pk r j):=rfl;have:Nat.beq r n=false:=by
   cases hb:Nat.beq r n with
   |false=>rfl
   | true=>
    obtain rfl:=bQ hb;have h:(!p r)=true:=h;rw[C]at h;cases h
  rw[e,this];rfl
 | aH r j=>
  have e:A.drop n (.aH r j)=(bif Nat.beq r n then .undef else .aH r j):=rfl;have:Nat.beq r n=false:=by
   cases hb:Nat.beq r n with
   |false=>rfl
   | true=>
    obtain rfl:=bQ hb;have h:(!p r)=true:=h;rw[C]at h;cases h
  rw[e,this];rfl
 | fn f cap=>
  have e:A.drop n (.fn f cap)=(bif cap.any (λp=>Nat.beq p.1 n)then .undef else .fn f cap):=rfl;have:cap.any (λp=>Nat.beq p.1 n)=false:=by
   rw[iW];intro q D hb;obtain hb:=bQ hb;have:=cv.1 h q D;rw[hb,C]at this;cases this
  rw[e,this];rfl
 |_=>rfl
theorem S.ext'{σ C:S}(D:∀ k,σ.t k=C.t k)(E:∀ r,σ.m r=C.m r):σ=C:=by
 cases σ;cases C;simp only[S.mk.injEq];exact⟨funext D,funext E⟩
theorem S.set_set{e d:Nat}(h:e≠d)(v u:A):(σ.set d v).set e u=(σ.set e u).set d v:=by
 refine S.ext' (λk=>?_) λ_=>rfl
 show bL (bL σ.t d v) e u k=bL (bL σ.t e u) d v k;by_cases C:k=e
 ·subst C;rw[bO,cu _ _ _ h,bO]
 ·by_cases D:k=d
  ·subst D;rw[cu _ _ _ C,bO,bO]
  ·rw[cu _ _ _ C,cu _ _ _ D,cu _ _ _ D,cu _ _ _ C]
theorem S.drop_set(n:Nat){v:A}(C:v.drop n=v):(σ.set d v).drop n=(σ.drop n).set d v:=by
 refine S.ext' (λk=>?_) λ_=>rfl
 show (bL σ.t d v k).drop n=bL (λk=>(σ.t k).drop n) d v k;by_cases h:k=d
 ·subst h;rw[bO,bO,C]
 ·rw[cu _ _ _ h,cu _ _ _ h]
theorem CG(v:A):∀ (xs:aa V) (c:Nat) (σ:S),(∀ n,c<=n->v.drop n=v)->fO c (σ.set d v) xs=(fO c σ xs).set d v
 |[],c,σ,h=>rfl
 | x :: xs,c,σ,h=>by
  simp only[fO];cases D:x.aA with
  | true=>
   simp only[ak];exact CG v xs (c+1) σ (λn C=>h n (by omega))
  | false=>
   simp only[aq];rw[S.drop_set c (h c (dV _))];exact CG v xs (c+1) ((σ.drop c).root c (.sl x)) (λn C=>h n (by omega))
theorem KU(v:A):∀ (ps:aa Pt) (c:Nat) (σ:S),(∀ n,c<=n->v.drop n=v)->iK c (σ.set d v) ps=(iK c σ ps).set d v
 |[],c,σ,h=>rfl
 | p :: ps,c,σ,h=>by
  simp only[iK];rw[CG v p.2 c σ h];exact KU v ps _ _ (λn C=>h n (by omega))
end
def zS{X:Type}(N:Nat)(σ:S)(d:Nat)(x:A)(k:S->aj X):aj X:=
 match x.w6 with
 |some xs=>bif xs.all Lf.live then gV N σ d (.ax (xs.map (Lf.drop d))) (.aH d 0) k else none
 |none=>none
def KV{X:Type}(x:A)(k:A->aj X):aj X:=
 match x with
 |.aH r j=>k (.aH r j)
 |.ptr q=>k (.ptr q)
 |.gG cs=>k (.gG cs)
 |_=>none
section
variable {P:Program} {w w':World} {w0:Wd} {B N:Nat} {ah aD:bA} {ρ ρ':Nat->Loc} {σ:S} {a:Act} {X:Type} {d:Nat} {r:X} {o:Oper}
theorem ajq{e:TypeId}{x:A}{k:S->aj X}(h:zS N σ d x k=some r):∃ E,k E=some r/\∀ ah ρ a w,Rl w0 N ah ρ σ a w->∀ u,RA w w0.heap.size ah ρ x u->
  ∃w' aD ρ' v,(Instr.box e u).run P w = .ok v w'/\Rl w0 N aD ρ' E (a.put (some d) v) w':=by
 unfold zS at h;split at h
 ·rename_i xs O;cases D:xs.all Lf.live with
  |false=>rw[D]at h;cases h
  | true=>
   rw[D,ak]at h;obtain⟨I,h⟩:=oq h
   refine⟨_,h,λah ρ a w hR u Q=>?_⟩
   obtain⟨hl,_⟩:=EX O D Q;have T:(Instr.box e u).run P w = .ok (.pointer (some ⟨w.heap.size,0,none⟩)) (w.alloc (.cells u.cells e)):=by
    simp[Instr.box,newVar,newRow]
   refine⟨_,bL ah w.heap.size (some [d]),bL ρ d (.ax w.heap.size 0),_,T,(hR.Cj (hR.dm d (.inl I)) (λr C=>cu _ _ _ C) ?_).set ⟨w.heap.size,0,bO _ _ _,rfl⟩ I⟩
   have U:dg (w.alloc (.cells u.cells e)) w0.heap.size (bL ah w.heap.size (some [d])) ρ xs u.cells:=
    hl.fN (by simp) (λb hb=>⟨Below.heap_alloc w _ b hb,cu _ _ _ (by omega)⟩) (λb k hb=>(hR.cH b k hb).2.1)
   have J:=U.dQ (ρ':=bL ρ d (.ax w.heap.size 0)) (d:=d) (λr C=>cu _ _ _ C)
   refine .ax w.heap.size 0 u.cells e _ (λj=>u.cells.getD j undef) (bO _ _ _) (bO _ _ _) (heap_alloc_new w _) (by rw[J.1];omega) λj y Y=>?_
   obtain⟨v,L,C⟩:=J.2 j y Y;have Z:u.cells.getD j undef=v:=by rw[gE,L];rfl
   rw[Z,eN];exact⟨L,C⟩
 ·cases h
theorem Yv{x:A}{k:S->aj X}(h:zS N σ d x k=some r):∃ y u,k (((σ.drop d).root d y).set d u)=some r/\(∀ (C:S),cx (λX k=>zS (X:=X) N C d x k) (((C.drop d).root d y).set d u)):=by
 unfold zS at h;split at h
 ·rename_i xs E;cases D:xs.all Lf.live with
  |false=>rw[D]at h;cases h
  | true=>
   rw[D,ak]at h;obtain⟨I,_⟩:=vc h
   refine⟨_,_,I,λC X k=>?_⟩
   obtain⟨J,_⟩:=oq h;have hb:Nat.blt d N=true:=iE J;simp only[zS,E,D,gV,hb,ak]
 ·cases h
theorem Yw{x:A}{k:A->aj X}(h:KV x k=some r):k x=some r/\cx (λX k=>KV (X:=X) x k) x/\∀ u,RA w B ah ρ x u->∃ ad,u = .pointer (some ad):=by
 unfold KV at h;split at h
 ·exact⟨h,λX k=>rfl,λu C=>by obtain⟨b,off,_,rfl⟩:=C;exact⟨_,rfl⟩⟩
 ·exact⟨h,λX k=>rfl,λu C=>by obtain⟨ad,rfl,_⟩:=C;exact⟨_,rfl⟩⟩
 ·exact⟨h,λX k=>rfl,λu C=>by obtain⟨b,off,rfl,_⟩:=C;exact⟨_,rfl⟩⟩
 ·cases h
end
def nP(t:TypeId):Bool:=[999999,999999,999999,46,999999,53,999999,999999,999999,999999,999999,999999,999999,999999,999999,999999,999999,999999,166,999999,999999,999999,999999,999999].any (Nat.beq t)
def xE{X:Type}(P:Program)(N:Nat)(σ:S)(d:Nat)(t:TypeId)(len:Nat)(parts:aa (Nat×Operand))(k:S->aj X):aj X:=
 match tf P t with
 | some (e,C)=>match zeroOf P e with
  | some z=>bif Nat.beq z.cells.size (aC C)&&Nat.blt (len*aC C) 16777217 then (match xb (λi=>some (i*aC C,aC C)) (List.replicate len (z.cells.toList.map iy)).flatten (parts.map λp=>(p.1,aE σ p.2))with
   |some cs=>bif Nat.beq len 0 then gV N σ d (.sl (.sl C (full C+2) true [])) (.lf (.own [d])) k else gV N σ d (.ax (cs.map (Lf.drop d))) (.pk d len) k
   |none=>none)else none
  |none=>none
 |none=>none
def ve{X:Type}(N:Nat)(σ:S)(d r D:Nat)(C:TC)(n:Nat)(k:S->aj X):aj X:=
 match σ.m D,σ.m r with
 | some (.ax cs),some (.sl (.sl E (o+2) q l))=>if h:E=C then (match gL r (λj=>(j % aC C) :: (l.length+j / aC C) :: aC C :: [r]) cs.length 0 cs σ with
  | some (I,J)=>(match E7 C o n I with
   |some l2=>bif Nat.blt d N&&aT (l.length+l2.length)then k (((J.drop r).root r (.sl (.sl C (o+2) false ((h ▸ l)++l2)))).set d (.lf (.own [r])))else none
   |none=>none)
  |none=>none)else none
 |_,_=>none
def xF{X:Type}(P:Program)(N:Nat)(σ:S)(d:Nat)(t:TypeId)(x y:A)(k:S->aj X):aj X:=
 match tf P t,y with
 | some (e,C),.pk D n=>bif (zeroOf P e).any (λz=>Nat.beq z.cells.size (aC C))&&(Nat.blt d N&&Nat.blt n oZ)then (match x with
  |.lf (.v .nil)=>ve N ((σ.drop d).root d (.sl (.sl C (full C+2) false []))) d d D C n k
  |.lf (.own [r])=>bif Nat.blt r N ||Nat.ble 60000 r then ve N σ d r D C n k else none
  |_=>none)else none
 |_,_=>none
def qz{X:Type}(P:Program)(σ:S)(t:TypeId)(x y:A)(k:S->aj X):aj X:=
 match ja P t,y.w6,x with
 | some n,some xs,.ptr [j,i,s,r]=>if xs.length=n then (bif xs.all Lf.live then (match gL r (λm=>(j+m) :: i :: s :: [r]) xs.length 0 xs σ with
  | some (E,D)=>(match D.m r with
   | some (.sl (.sl C (o+2) I l))=>if s=aC C then (if h:i<l.length then (if j+n<=aC C then (match dec C o (splice (enc C o l[i]) j E)with
    |some e=>k (D.bz [r] [] [(r,.sl (.sl C (o+2) I (l.set i e)))])
    |none=>none)else none)else none)else none
   |_=>none)
  |none=>none)else none)else none
 |_,_,_=>none
def tL(x y:A):Bool:=match x,y.w6 with
 |.ptr _,some xs=>(qe xs).isNone
 |_,_=>false
section
variable {P:Program} {w w':World} {w0:Wd} {B N:Nat} {ah aD:bA} {ρ ρ':Nat->Loc} {σ:S} {a:Act} {X:Type} {d:Nat} {r:X} {o:Oper}
theorem Yx{place:Nat->aj (Nat×Nat)}:∀ (parts:aa (Nat×A)) (cells out:aa Lf),xb place cells parts=some out->out.length=cells.length
 |[],cells,out,h=>by injection h with h;rw[h]
 | (i,x) :: rest,cells,out,h=>by
  unfold xb at h;split at h
  ·rename_i off n xs C D;split at h
   ·rename_i E;cases hl:xs.all Lf.live with
    | true=>
     rw[hl,ak]at h;rw[Yx rest _ _ h,uF _ _ _ (by omega)]
    |false=>rw[hl]at h;cases h
   ·cases h
  ·cases h
theorem ajr{t:TypeId}{len:Nat}{parts:Array (Nat×Operand)}{k:S->aj X}(h:xE P N σ d t len parts.toList k=some r):∃ dG,k dG=some r/\∀ ah ρ a w,Rl w0 N ah ρ σ a w->
  ∃w' aD ρ' v,(Instr.buildSlice t len (parts.map λ(i,x)=>(i,a.eval x))).run P w = .ok v w'/\Rl w0 N aD ρ' dG (a.put (some d) v) w':=by
 unfold xE at h;split at h
 ·rename_i e D ot;obtain⟨gq,ht,i,hi,O,jN⟩:=w8 ot;split at h
  ·rename_i z hz;cases Q:(Nat.beq z.cells.size (aC D)&&Nat.blt (len*aC D) 16777217)with
   |false=>rw[Q]at h;cases h
   | true=>
    rw[Q,ak]at h;rw[aK]at Q;have ov:=bQ Q.1;have hsm:len*aC D<16777217:=by have:=cB Q.2;omega
    have ou:i.zero=some z:=by unfold zeroOf at hz;simpa [hi]using hz
    split at h
    ·rename_i cs iQ;have key:∀ ah ρ (a:Act) w,Rl w0 N ah ρ σ a w->∃ C,(Instr.buildSlice t len (parts.map λ(i,x)=>(i,a.eval x))).run P w = .ok (.slice (some ⟨w.heap.size,0,none⟩) len len) (w.alloc (.cells C e))/\dg w w0.heap.size ah ρ cs C/\C.size=cs.length:=λah ρ a w hR=>by
      have QL:dg w w0.heap.size ah ρ (List.replicate len (z.cells.toList.map iy)).flatten (madeCells z.cells (len*aC D)):=by
       have e1:(List.replicate len (z.cells.toList.map iy)).flatten=((List.replicate len z.cells.toList).flatten).map iy:=by
        rw[List.map_flatten,List.map_replicate]
       rw[e1,<-Xy z.cells (aC D) len ov (od D)]
       refine⟨by simp,λj x E=>?_⟩
       rw[cO]at E;cases L:(madeCells z.cells (len*aC D)).toList[j]? with
       |none=>rw[L]at E;cases E
       | some v=>
        rw[L]at E;injection E with E;subst E;exact⟨v,by simpa using L,Kk v⟩
      obtain⟨C,Z,hl⟩:=Kq (w:=w) (B:=w0.heap.size) (ah:=ah) (ρ:=ρ) _ _ _ (parts.toList.map λp=>(p.1,a.eval p.2)) cs iQ QL (by simp) (λj p q I T=>by
       rw[cO]at I T;cases E:parts.toList[j]? with
       |none=>rw[E]at I;cases I
       | some x=>
        rw[E]at I T;injection I with I;injection T with T;subst I T;exact⟨rfl,hR.aE x.2⟩)
      have U:(Instr.buildSlice t len (parts.map λ(i,x)=>(i,a.eval x))).run P w = .ok (.slice (some ⟨w.heap.size,0,none⟩) len len) (w.alloc (.cells C e)):=by
       have QM:(parts.map λ(i,x)=>(i,a.eval x)).toList=parts.toList.map λp=>(p.1,a.eval p.2):=by simp
       by_cases h0:len*aC D=0
       ·have hm:madeCells z.cells (len*aC D) = #[]:=by rw[h0];simp[madeCells]
        rw[hm]at Z;have QN:len*i.size=0:=by rw[O];exact h0
        rw[<-O]at Z;have e0:∀f:Nat->Value,Array.map f (Array.range 0) = #[]:=λf=>by simp
        simp only[Instr.buildSlice,eC,gy gq,iD,sizeOf,typeInfo];simp[hi,QN];rw[e0,Z];simp[newRow]
       ·exact run_buildSlice (P:=P) w t e len _ C i z gq hi ou (by rw[O];omega) (by rw[O];exact h0) (by rw[O,QM];exact Z)
      exact⟨C,U,hl,hl.1⟩
     cases nH:Nat.beq len 0 with
     | true=>
      rw[nH,ak]at h;have hln:=bQ nH;subst hln;obtain⟨Y,h⟩:=oq h
      refine⟨_,h,λah ρ a w hR=>?_⟩
      obtain⟨C,U,hl,hcz⟩:=key ah ρ a w hR;have sj:cs.length=0:=by
       have h1:=Yx _ _ _ iQ;rw[h1];simp
      refine⟨_,bL ah w.heap.size (some [d]),bL ρ d (.de (.slice (some ⟨w.heap.size,0,none⟩) 0 0)),_,U,(hR.Cj (hR.dm d (.inl Y)) (λr J=>cu _ _ _ J) (.sl _ _ (bO _ _ _) ?_)).set ⟨rfl,by simp[cm,bO]⟩ Y⟩
      exact RV.own (w:=w.alloc (.cells C e)) (B:=w0.heap.size) (ah:=bL ah w.heap.size (some [d])) [d] D (full D) true [] w.heap.size 0 C (λ_ _=>undef)
       (bO _ _ _) (by rw[ht];exact heap_alloc_new w _) (by omega) (dV _) ⟨by unfold maxLen;omega,λ_=>rfl⟩ (λi' h'=>absurd h' (by simp)) (λi' h'=>absurd h' (by simp))
     |false=>
     rw[nH,aq]at h;obtain⟨Y,h⟩:=oq h
     refine⟨_,h,λah ρ a w hR=>?_⟩
     obtain⟨C,U,hl,_⟩:=key ah ρ a w hR
     refine⟨_,bL ah w.heap.size (some [d]),bL ρ d (.ax w.heap.size 0),_,U,(hR.Cj (hR.dm d (.inl Y)) (λr J=>cu _ _ _ J) ?_).set ⟨w.heap.size,bO _ _ _,(Qe (by have:=Nat.le_mul_of_pos_right len (od D);unfold oZ;omega)).symm⟩ Y⟩
     have h1:dg (w.alloc (.cells C e)) w0.heap.size (bL ah w.heap.size (some [d])) ρ cs C:=
      hl.fN (by simp) (λb hb=>⟨Below.heap_alloc w _ b hb,cu _ _ _ (by omega)⟩) (λb k hb=>(hR.cH b k hb).2.1)
     have h2:=h1.dQ (ρ':=bL ρ d (.ax w.heap.size 0)) (d:=d) (λr J=>cu _ _ _ J)
     refine .ax w.heap.size 0 C e _ (λj=>C.getD j undef) (bO _ _ _) (bO _ _ _) (heap_alloc_new w _) (by rw[h2.1];omega) λj y hy=>?_
     obtain⟨v,L,J⟩:=h2.2 j y hy;have hg:C.getD j undef=v:=by rw[gE,L];rfl
     rw[hg,eN];exact⟨L,J⟩
    ·cases h
  ·cases h
 ·cases h
theorem Yy{t:TypeId}{len:Nat}{parts:aa (Nat×Operand)}{k:S->aj X}(h:xE P N σ d t len parts k=some r):∃ y u,k (((σ.drop d).root d y).set d u)=some r/\
  (∀(C:S),(∀p∈parts,aE C p.2=aE σ p.2)->cx (λX k=>xE (X:=X) P N C d t len parts k) (((C.drop d).root d y).set d u)):=by
 unfold xE at h;split at h
 ·rename_i e T U;split at h
  ·rename_i z Y;cases D:(Nat.beq z.cells.size (aC T)&&Nat.blt (len*aC T) 16777217)with
   |false=>rw[D]at h;cases h
   | true=>
    rw[D,ak]at h;split at h
    ·rename_i cs Z;cases E:Nat.beq len 0 with
     | true=>
      rw[E,ak]at h;obtain⟨I,_⟩:=vc h
      refine⟨_,_,I,λC J X k=>?_⟩
      obtain⟨L,_⟩:=oq h;have O:Nat.blt d N=true:=iE L;have e:(parts.map λp=>(p.1,aE C p.2))=parts.map λp=>(p.1,aE σ p.2):=ic λp Q=>by rw[J p Q]
      simp only[xE,U,Y,D,ak,e,Z,gV,O,E]
     | false=>
      rw[E,aq]at h;obtain⟨I,_⟩:=vc h
      refine⟨_,_,I,λC J X k=>?_⟩
      obtain⟨L,_⟩:=oq h;have O:Nat.blt d N=true:=iE L;have e:(parts.map λp=>(p.1,aE C p.2))=parts.map λp=>(p.1,aE σ p.2):=ic λp Q=>by rw[J p Q]
      simp only[xE,U,Y,D,ak,e,Z,gV,O,E,aq]
    ·cases h
  ·cases h
 ·cases h
theorem Yz{t e ty:TypeId}{Q:TC}{i:TypeInfo}{z:Value}{rr Z n:Nat}{k:S->aj X}(gq:P.underlying t=some (.slice e))(ht:tid Q=e)(hi:P.info? e=some i)(hz:i.zero=some z)
  (fE:i.size=aC Q) (jN:i.bytes<=65536) (ov:z.cells.size=aC Q) (h:ve N σ d rr Z Q n k=some r):∃dG,k dG=some r/\∀ah ρ a w,Rl w0 N ah ρ σ a w->w0.F rr=none->∀u v b,ρ rr = .de u->ρ Z = .ax b 0->v = .slice (some ⟨b,0,none⟩) n n->
  ∃w' aD ρ' z,(Builtin.append_ #[t,t] ty #[u,v]).run P w = .ok z w'/\Rl w0 N aD ρ' dG (a.put (some d) z) w':=by
 unfold ve at h;split at h
 ·rename_i cs E o q l RR hr;split at h
  ·rename_i kK;subst kK;split at h
   ·rename_i vs τ RS;split at h
    ·rename_i l2 lD;cases O:(Nat.blt d N&&aT (l.length+l2.length))with
     |false=>rw[O]at h;cases h
     | true=>
      rw[O,ak]at h;rw[aK]at O;have E5:l.length+l2.length<1073741824:=by simpa [aT]using O.2
      have hd:d<N:=by have:=cB O.1;omega
      refine⟨_,h,λah ρ a w hR hF u v b ajs ajt J=>?_⟩
      subst J;have T:=hR.root Z _ RR;generalize C:aP.ax cs=x at T;cases T with
      |sl=>cases C
      |mp=>cases C
      |gh=>cases C
      | ax b' off cells e' eM us di o9 hh hs hc=>
       injection C with C;subst C;rw[ajt]at di;injection di with e1 e2;subst e1 e2;have kH:dg w w0.heap.size ah ρ cs ((List.range cs.length).map us).toArray:=by
        refine⟨by simp,λj x I=>?_⟩
        have D:j<cs.length:=(c7.1 I).1;exact⟨us j,by simp[D],(hc j x I).2⟩
       obtain⟨aD,gf,zp,KW,_,mS,jM,_,_⟩:=Kg (w0:=w0) (N:=N) (λj=>by simp[aY]) _ _ _ _ _ _ RS ah ρ a w hR _ kH;obtain⟨Kt,aju,iH⟩:=QK E o n vs l2 lD;have qW:cs.length=n*aC E:=by rw[<-zp,aju]
       have ow:∀ j,j<cs.length->(us j).oneCell'=true:=by
        intro j D;have I:=bK (l:=vs) (i:=j) (by rw[zp];exact D);obtain⟨u',pg,L⟩:=KW j _ I;have:u'=us j:=by simpa [D]using pg.symm
        rw[<-this];exact L.one
       have KZ:b<w.heap.size:=(fl.1 hh).1;have E3:Reads w w.heap.size (aC E) (some ⟨b,0,none⟩) n ((List.range cs.length).map us):=by
        refine⟨by simp[qW],λhn=>⟨b,0,rfl,KZ,λj v J=>?_⟩⟩
        have D:j<cs.length:=by have:=(c7.1 J).1;simpa using this
        have:v=us j:=by simpa [D]using J.symm
        subst this;rw[cell_of_row w b _ cells _ _ hh];exact(hc j _ (bK D)).1
       have iw:r7 w w0.heap.size aD rr l.length E o l2 ((List.range cs.length).map us):=by
        intro U CD j x I;have D:j<aC E:=by have:=(c7.1 I).1;rwa [jn]at this
        obtain⟨y,T,hw⟩:=iH U CD j x I;obtain⟨u',pg,L⟩:=KW _ _ T;refine⟨u',pg,?_⟩;have e1:(0+(U*aC E+j)) % aC E=j:=by rw[eN,Nat.add_comm,Nat.add_mul_mod_self_right,Nat.mod_eq_of_lt D]
        have e2:(0+(U*aC E+j)) / aC E=U:=by rw[eN,Nat.add_comm,Nat.add_mul_div_right _ _ (od E),Nat.div_eq_of_lt D,eN]
        simp only[e1,e2]at L;exact L.wk hw
       have zU:=gf.root rr _ (mS _ hr);generalize C:aP.sl (.sl E (o+2) q l)=x at zU;cases zU with
       |ax=>cases C
       |mp=>cases C
       |gh=>cases C
       | sl uu y Y L=>
        injection C with C;subst C;rw[ajs]at Y;injection Y with Y;subst Y;obtain⟨v',w',cW,dB,jP,fA⟩:=gf.aic (ty:=ty) (c:=n) hF gq ht hi hz fE jN ov L E3 (λv J=>by
         obtain⟨j,D⟩:=List.mem_iff_getElem?.1 J;have E6:j<cs.length:=by have:=(c7.1 D).1;simpa using this
         have:v=us j:=by simpa [E6]using D.symm
         rw[this];exact ow j E6) Kt.symm iw E5
        exact⟨w',cW,_,v',dB,jP.set ⟨fA,by simp[cm,bO]⟩ hd⟩
    ·cases h
   ·cases h
  ·cases h
 ·cases h
theorem YA{rr E n:Nat}{I:TC}{k:S->aj X}(h:ve N σ d rr E I n k=some r):∃ C,k C=some r/\cx (λX k=>ve (X:=X) N σ d rr E I n k) C:=by
 unfold ve at h;split at h
 ·rename_i cs U o q l J L;split at h
  ·rename_i O;split at h
   ·rename_i Y C Q;split at h
    ·rename_i l2 T;cases D:(Nat.blt d N&&aT (l.length+l2.length))with
     |false=>rw[D]at h;cases h
     | true=>
      rw[D,ak]at h;exact⟨_,h,λX k=>by simp only[ve,J,L,aG O,Q,T,D,ak]⟩
    ·cases h
   ·cases h
  ·cases h
 ·cases h
theorem ajv{t ty:TypeId}{x y:A}{k:S->aj X}(h:xF P N σ d t x y k=some r):∃ D,k D=some r/\∀ ah ρ a w,Rl w0 N ah ρ σ a w->∀ u v,RA w w0.heap.size ah ρ x u->RA w w0.heap.size ah ρ y v->
  ∃w' aD ρ' z,(Builtin.append_ #[t,t] ty #[u,v]).run P w = .ok z w'/\Rl w0 N aD ρ' D (a.put (some d) z) w':=by
 unfold xF at h;split at h
 ·rename_i e E L n ot;obtain⟨gq,ht,i,hi,fE,jN⟩:=w8 ot;cases I:((zeroOf P e).any (λz=>Nat.beq z.cells.size (aC E))&&(Nat.blt d N&&Nat.blt n oZ))with
  |false=>rw[I]at h;cases h
  | true=>
   rw[I,ak]at h;rw[aK]at I;obtain⟨z,hz,O⟩:=(Option.any_eq_true _ _).1 I.1;have O:=bQ O;have ou:i.zero=some z:=by unfold zeroOf at hz;simpa [hi]using hz
   have U:=I.2;rw[aK]at U;have hd:d<N:=by have:=cB U.1;omega
   have oF:n<oZ:=by have:=cB U.2;omega
   split at h
   ·obtain⟨D,Q,Y⟩:=Yz (w0:=w0) (ty:=ty) gq ht hi ou fE jN O h
    refine⟨D,Q,λah ρ a w hR u v J Z=>?_⟩
    have J:u = .slice none 0 0:=by cases J.2;rfl
    subst J;obtain⟨b,hb,rfl⟩:=Z;have RR:L≠d:=by
     rintro rfl;unfold ve at h;split at h
     next h1 Q=>have:(bL (σ.drop L).m L (some (aP.sl (.sl E (full E+2) false [])))) L=_:=h1;rw[bO]at this;cases this
     ·cases h
    have hR0:=hR.new (d:=d) (x:=.sl (.sl E (full E+2) false [])) (.de (.slice none 0 0)) (.sl _ _ (bO _ _ _) (.cG _ _ _)) (hR.dm d (.inl hd));exact Y _ _ a w hR0 (hR.dm d (.inl hd)) _ _ b (bO _ _ _) ((cu _ _ _ RR).trans hb) (Qe oF)
   ·rename_i rr;cases T:(Nat.blt rr N || Nat.ble 60000 rr)with
    |false=>rw[T]at h;cases h
    | true=>
     rw[T,ak]at h;rw[dy]at T;have mS:rr<N\/60000<=rr:=T.imp (λh=>by have:=cB h;omega) (λh=>cB h);obtain⟨D,Q,Y⟩:=Yz (w0:=w0) (ty:=ty) gq ht hi ou fE jN O h
     refine⟨D,Q,λah ρ a w hR u v J Z=>?_⟩
     obtain⟨b,hb,rfl⟩:=Z;have di:ρ rr = .de u:=by
      have C:=J.2;simp only[cm]at C;cases hl:ρ rr with
      |ax b o=>rw[hl]at C;cases C
      |bM us=>rw[hl]at C;cases C
      |de v=>rw[hl]at C;injection C with C;rw[C]
     exact Y ah ρ a w hR (hR.dm rr mS) _ _ b di hb (Qe oF)
   ·cases h
 ·cases h
theorem ajw{t:TypeId}{x y:A}{k:S->aj X}(h:xF P N σ d t x y k=some r):∃ C,k C=some r/\cx (λX k=>xF (X:=X) P N σ d t x y k) C:=by
 unfold xF at h;split at h
 ·rename_i e O Q n L;cases D:((zeroOf P e).any (λz=>Nat.beq z.cells.size (aC O))&&(Nat.blt d N&&Nat.blt n oZ))with
  |false=>rw[D]at h;cases h
  | true=>
   rw[D,ak]at h;split at h
   ·obtain⟨C,E,I⟩:=YA h;exact⟨C,E,λX k=>by simp only[xF,L,D,ak];exact I X k⟩
   ·rename_i rr;cases J:(Nat.blt rr N || Nat.ble 60000 rr)with
    |false=>rw[J]at h;cases h
    | true=>
     rw[J,ak]at h;obtain⟨C,E,I⟩:=YA h;exact⟨C,E,λX k=>by simp only[xF,L,D,J,ak];exact I X k⟩
   ·cases h
 ·cases h
theorem ajx{t:TypeId}{x y:A}{k:S->aj X}(h:qz P σ t x y k=some r):∃ dG,k dG=some r/\∀ ah ρ a w,Rl w0 N ah ρ σ a w->∀ u v,RA w w0.heap.size ah ρ x u->RA w w0.heap.size ah ρ y v->
  ∃w' aD,(Instr.storeAt t u v).run P w = .ok () w'/\Rl w0 N aD ρ dG a w':=by
 unfold qz at h;split at h
 ·rename_i n xs j i s rr hn qf;split at h
  ·rename_i hlen;cases RT:xs.all Lf.live with
   |false=>rw[RT]at h;cases h
   | true=>
    rw[RT,ak]at h;split at h
    ·rename_i vs τ RS;split at h
     ·rename_i C o' qn l ju;split at h
      ·rename_i mT;split at h
       ·rename_i hi;split at h
        ·rename_i hj;split at h
         ·rename_i e he
          refine⟨_,h,λah ρ a w hR u v hu hv=>?_⟩
          obtain⟨ad,rfl,I⟩:=hu;obtain⟨hl,ow⟩:=EX qf RT hv;have kH:dg w w0.heap.size ah ρ xs v.cells.toList.toArray:=by simpa using hl
          obtain⟨aD,Y,zp,KW,_,mS,jM,axb,_⟩:=Kg (w0:=w0) (N:=N) (λm=>by simp[aY]) _ _ _ _ _ _ RS ah ρ a w hR _ kH;simp only[addrAt]at I;split at I
          ·rename_i b n0 c0 di;split at I
           ·rename_i o9;injection I with I;subst I;have zU:=Y.root rr _ ju;generalize D:aP.sl (.sl C (o'+2) qn l)=x at zU;cases zU with
            |ax=>cases D
            |mp=>cases D
            |gh=>cases D
            | sl uu y js gH=>
             injection D with D;subst D;rw[di]at js;injection js with js;subst js;cases gH with
             |aA _ _ _ _ _ _ _ _ _ ho=>omega
             |cL=>simp at hi
             |cV=>simp at hi
             | own _ _ _ _ _ _ cap cs us K0 hh hs uJ hm hc hr=>
              subst mT;have RU:v.cells.size=n:=by rw[hl.1,hlen]
              have zl:i*aC C+aC C<=c0*aC C:=by
               have:(i+1)*aC C<=c0*aC C:=gS _ (by omega);rw[fQ]at this;exact this
              have lz:i*aC C+j+v.cells.toList.length<=cs.size:=by rw[ke,RU,hs];omega
              have L:=J8 w b (i*aC C+j) v.cells.toList;obtain⟨T,iw,mR⟩:=Eh b (tid C) v.cells.toList (i*aC C+j) w cs hh lz;have rY:∀ m,T[m]?=if m<i*aC C+j then cs[m]? else if m<i*aC C+j+n then v.cells[m-(i*aC C+j)]? else cs[m]?:=by
               intro m;have e2:T[m]?=(splice cs.toList (i*aC C+j) v.cells.toList)[m]?:=by
                rw[show T[m]?=T.toList[m]? by simp,mR];rfl
               rw[e2,uG _ _ _ (by simpa using lz),ke,RU];simp
              have EU:T.size=cs.size:=by
               rw[<-ke,mR];have:=uF cs.toList (i*aC C+j) v.cells.toList (by simpa using lz);simp only[splice]at this;rw[this];simp
              have KZ:b<w.heap.size:=(fl.1 hh).1;have Z:w.heap.size<=(w.setCells b (i*aC C+j) v.cells.toList).heap.size:=Nat.le_of_eq L.size.symm;have K1:∀E,E<w.heap.size->aD E≠some [rr]->(w.setCells b (i*aC C+j) v.cells.toList).heap[E]?=w.heap[E]?:=λE _ dY=>L.block E (by rintro rfl;exact dY K0)
              have hth:w.there b (i*aC C+j) v.cells.size:=by
               intro m qU;refine⟨?_,frozen_of_row w b _ cs _ hh⟩;rw[cell_of_row w b _ cs _ _ hh];rw[ke]at lz;simp;omega
              have kJ:vs.length=n:=by rw[zp,hlen]
              refine⟨_,aD,Qq w b _ t v hth (by rw[RU];exact hn) ow,Y.iS (ns:=[rr]) (cn:=[]) (dZ:=ρ) (cW:=aD) ⟨Z,λE FB O=>⟨L.block E ?_,rfl⟩,λ_ _=>rfl,λE k O=>(Y.cH E k O).2⟩
               ⟨L.os,L.tape,L.output,Z,λk O hL=>L.block k ?_⟩ (λE k O=>?_) (λr hr=>by cases hr) (λr0 x D=>?_)⟩
              ·rintro rfl;have:=O _ K0;simp[cy,bV]at this
              ·rintro rfl;rcases(Y.cH k _ K0).1 with h1 | h1
               ·exact absurd O (Nat.not_lt.2 h1)
               ·exact h1 hL
              ·have:=Y.cH E k O;exact⟨this.1,jD this.2.1 Z,this.2.2⟩
              ·have lE:r0=rr/\x = .sl (.sl C (o'+2) qn (l.set i e)):=by
                simp only[List.lookup]at D;split at D
                next FB=>injection D with D;exact⟨by simpa using FB,D.symm⟩
                ·cases D
               obtain⟨rfl,rfl⟩:=lE;refine .sl _ _ di ?_
               refine RV.J9 (u:=us) (us:=λ_ m=>v.cells.getD (m-j) undef) (cs:=cs) (xs:=vs) K0 iw (EU.trans hs) uJ hm hi (by rw[kJ];exact hj) he (λJ h' U x Q ET=>?_) (λm x Q=>?_)
               ·have qP:U<aC C:=by have:=(c7.1 Q).1;rwa [jn]at this
                refine⟨?_,(hr J h' U x Q).under (n:=r0) (.inl (by simp)) Z K1 (λ_ _=>rfl)⟩
                rw[rY];have zm:¬ (¬ J*aC C+U<i*aC C+j/\J*aC C+U<i*aC C+j+n):=by
                 rintro⟨h1,h2⟩;rcases Nat.lt_trichotomy J i with dn|heq|Cc
                 ·have:(J+1)*aC C<=i*aC C:=gS _ dn;rw[fQ]at this;omega
                 ·subst heq;exact ET ⟨rfl,by omega,by omega⟩
                 ·have:(i+1)*aC C<=J*aC C:=gS _ Cc;rw[fQ]at this;omega
                split
                ·exact hc J h' U x Q
                ·rw[bB (by omega)];exact hc J h' U x Q
               ·obtain⟨v0,FF,zn⟩:=KW m x Q;have qU:m<n:=by rw[<-kJ];exact(c7.1 Q).1
                have Kn:v.cells[m]?=some v0:=by simpa using FF
                have Cd:v.cells.getD (j+m-j) undef=v0:=by rw[show j+m-j=m by omega,gE,Kn];rfl
                show T[_]?=some (v.cells.getD (j+m-j) undef)/\RV _ _ _ _ _ (v.cells.getD (j+m-j) undef);rw[Cd,rY,bB (by omega),bk (by omega)];rw[eN]at zn
                refine⟨?_,zn.under (n:=r0) (.inl (by simp)) Z K1 (λ_ _=>rfl)⟩
                rw[show i*aC C+(j+m)-(i*aC C+j)=m by omega];exact Kn
           ·cases I
          ·cases I
         ·cases h
        ·cases h
       ·cases h
      ·cases h
     ·cases h
    ·cases h
  ·cases h
 ·cases h
theorem ajy{t:TypeId}{x y:A}{k:S->aj X}(h:qz P σ t x y k=some r):∃ C,k C=some r/\cx (λX k=>qz (X:=X) P σ t x y k) C:=by
 unfold qz at h;split at h
 ·rename_i n xs j i s rr E I;split at h
  ·rename_i hlen;cases D:xs.all Lf.live with
   |false=>rw[D]at h;cases h
   | true=>
    rw[D,ak]at h;split at h
    ·rename_i U C J;split at h
     ·rename_i Y Z qn l L;split at h
      ·rename_i O;split at h
       ·rename_i hi;split at h
        ·rename_i Q;split at h
         next e T=>exact⟨_,h,λX k=>by simp only[qz,E,I,bk hlen,D,ak,J,L,bk O,aG hi,bk Q,T]⟩
         ·cases h
        ·cases h
       ·cases h
      ·cases h
     ·cases h
    ·cases h
  ·cases h
 ·cases h
end
def K2(P:Program)(f:Nat)(F:aa Int->aj Int):Prop:=
 ∀ (w:World) (l:aa (T .u8)) (h:Int) (v:Value),F l=some h->RV w w.heap.size (λ_=>none) [] (.sl .u8 0 false l) v->Hd w (λ_=>none)->Calls P f #[v] w λe w'=>
  ∃b off cells t,e = .returned (.pointer (some ⟨b,off,none⟩))/\Below w.heap.size w w'/\w.heap.size<=b/\w'.heap[b]?=some (.cells cells t (0,0))/\cells[off]?=some v/\cells[off+1]?=some (.int .i64 0)/\cells[off+2]?=some (.int .i64 h)
def zV{X:Type}(N:Nat)(σ:S)(d:Nat)(F:aa Int->aj Int)(x:A)(k:S->aj X):aj X:=
 match x with
 | .lf (.v (.sl .u8 0 q l))=>bif Nat.blt d N then (match F l with
  |some h=>k (((σ.drop (1000000000100000+1000*d)).root (1000000000100000+1000*d) (.ax [.v (.sl .u8 0 q l),.v (.int .i64 0),.v (.int .i64 h)])).set d (.aH (1000000000100000+1000*d) 0))
  |none=>none)else none
 |_=>none
structure zW where
 a:Nat
 j:Nat
 t:TC
 run:List Pt->Option (Nat×Nat)
def sq(bM:Array Value)(a j:Nat):aj Value:=match bM[a]? with
 |some (.agg us)=>us[j]?
 |some u=>bif Nat.beq j 0 then some u else none
 |none=>none
def K3(P:Program)(f:Nat)(c:zW):Prop:=
 ∀ (args:aa Pt) (p:Nat×Nat),c.run args=some p->∀ (w:World) (bM:Array Value),tA w args bM->Hd w (λ_=>none)->Calls P f bM w λe w'=>
  ∃A n cap,sq bM c.a c.j=some (.slice A n cap)/\p.1<=p.2/\p.2<=n/\e = .returned (sliced A p.1 p.2 cap (aC c.t))/\Below w.heap.size w w'
def YB(σ:S)(args:aa Operand)(a j:Nat):aj Lf:=match args[a]? with
 | some x=>(match aE σ x with
  |.agg cs=>cs[j]?
  |.lf l=>bif Nat.beq j 0 then some l else none
  |_=>none)
 |none=>none
def zX{X:Type}(N:Nat)(σ:S)(d:Nat)(c:zW)(args:aa Operand)(k:S->aj X):aj X:=
 bif Nat.blt d N then jt σ args λps=>(match c.run ps with
  | some p=>(match YB σ args c.a c.j with
   |some (.v (.sl t g _ l))=>if t=c.t then (bif Nat.blt g 2&&Nat.ble p.1 p.2&&Nat.ble p.2 l.length then k (σ.set d (.lf (.v (.sl t g false ((l.take p.2).drop p.1)))))else none)else none
   |_=>none)
  |none=>none)else none
structure sr where
 run:(X:Type)->Nat->S->List A->(S->A->Option X)->Option X
def su(P:Program)(f:Nat)(c:sr):Prop:=
 ∀ [Inhabited Wd] (X:Type) (N:Nat) (σ:S) (xs:aa A) (k:S->A->aj X) (r:X),c.run X N σ xs k=some r->∃ C y,k C y=some r/\(∀ (D:Type) (E:S->A->aj D),c.run D N σ xs E=E C y)/\
  ∀ (w0:Wd) (ah:bA) (ρ:Nat->Loc) (a:Act) (w:World) (bM:Array Value),Rl w0 N ah ρ σ a w->bM.size=xs.length->(∀ i,RA w w0.heap.size ah ρ ((xs[i]?).getD .undef) (bM.getD i undef))->
   Calls P f bM w λe w'=>∃v aD ρ',e = .returned v/\Rl w0 N aD ρ' C a w'/\RA w' w0.heap.size aD ρ' y v
inductive pE where
 |p (c:jc)
 |m (c:mZ)
 |n (F:List Int->Option Int)
 |v (c:zW)
 |i (c:sr)
 |d (c:mZ)
 |q (c:jc)
 |c (c:mZ)
def RX(P:Program)(f:Nat):pE->Prop
 |.p c=>iJ P f c
 |.m c=>tD P f c
 |.n F=>K2 P f F
 |.v c=>K3 P f c
 |.i c=>su P f c
 |.d c=>tD P f c
 |.q c=>iJ P f c
 |.c c=>tD P f c
section
variable {P:Program} {w w':World} {w0:Wd} {B N:Nat} {ah cW aD:bA} {ρ dZ ρ':Nat->Loc} {σ:S} {a:Act} {X:Type} {d:Nat} {r:X} {ns cn:aa Nat} {o:Oper}
theorem RY:∀ (xs:aa Lf) (k:aa V->aj X),oD σ ns xs k=some r->∃ D,k D=some r/\cx (λX k=>oD (X:=X) σ ns xs k) D
 |[],k,h=>⟨[],h,λX k=>rfl⟩
 | x :: xs,k,h=>by
  unfold oD at h;cases C:KF ns x with
  |false=>rw[C]at h;cases h
  | true=>
   rw[C,ak]at h;obtain⟨y,E,I⟩:=xD h;obtain⟨ys,J,L⟩:=RY xs _ E;exact⟨_,J,λX k=>by
    simp only[oD,C,ak];exact(I.at_ _).trans (L.at_ _)⟩
theorem YC{x:A}{k:Pt->aj X}(h:nM σ ns x k=some r):∃ p,k p=some r/\cx (λX k=>nM (X:=X) σ ns x k) p:=by
 unfold nM at h;split at h
 next y=>obtain⟨C,D,E⟩:=RY _ _ h;exact⟨_,D,λX k=>E X (λC=>k (false,C))⟩
 next ys=>obtain⟨C,D,E⟩:=RY _ _ h;exact⟨_,D,λX k=>E X (λC=>k (true,C))⟩
 ·exact⟨_,h,λX k=>rfl⟩
 ·rename_i f J j;cases I:bV J ns with
  |true=>rw[I]at h;cases h
  | false=>
   rw[I,aq]at h;split at h
   ·rename_i cs L;split at h
    next c C O=>exact⟨_,h,λX k=>by simp only[nM,I,aq,L,O]⟩
    ·cases h
   ·cases h
 ·cases h
theorem zY:∀ (ps:aa PK) (xs:aa Operand) (C:aa Mu) (k:lF ps->aj X),gY σ ns ps xs C k=some r->∃ x,k x=some r/\cx (λX k=>gY (X:=X) σ ns ps xs C k) x
 |[],[],[],k,h=>⟨(),h,λX k=>rfl⟩
 | .v b t :: ps,x :: xs,C,k,h=>by
  unfold gY at h;obtain⟨p,D,L⟩:=YC h;cases hb:p.1==b with
  |false=>rw[hb]at D;cases D
  | true=>
   rw[hb,ak]at D;split at D
   ·rename_i y E;obtain⟨ys,I,J⟩:=zY ps xs C _ D;exact⟨_,I,λX k=>by
     show nM σ ns (aE σ x) _=_;refine(L.at_ _).trans ?_;rw[hb,ak,E];exact J.at_ _⟩
   ·cases D
 | .p t g off :: ps,x :: xs,.ax O cs Q :: C,k,h=>by
  unfold gY at h;split at h
  ·rename_i y E;obtain⟨ys,I,J⟩:=zY ps xs C _ h;exact⟨_,I,λX k=>by
    simp only[gY,E];exact J.at_ _⟩
  ·cases h
 | .s t g :: ps,x :: xs,.sl q T :: C,k,h=>by
  unfold gY at h;split at h
  ·rename_i y E;obtain⟨ys,I,J⟩:=zY ps xs C _ h;exact⟨_,I,λX k=>by
    simp only[gY,E];exact J.at_ _⟩
  ·cases h
 |[],[],_::_,k,h=>by cases h
 |[],_::_,_,k,h=>by cases h
 |.v _ _::_,[],_,k,h=>by cases h
 |.p _ _ _::_,[],_,k,h=>by cases h
 |.s _ _::_,[],_,k,h=>by cases h
 |.p _ _ _::_,_::_,[],k,h=>by cases h
 |.s _ _::_,_::_,[],k,h=>by cases h
 |.p _ _ _::_,_::_,.sl _ _::_,k,h=>by cases h
 |.s _ _::_,_::_,.ax _ _ _::_,k,h=>by cases h
theorem YD{D:aj Tmp}{res:fS}{k:S->aj X}(h:mh N σ D res k=some r):∃ E,k E=some r/\cx (λX k=>mh (X:=X) N σ D res k) E:=by
 unfold mh at h;cases D with
 |none=>exact⟨σ,h,λX k=>rfl⟩
 | some d=>
  have h:(bif Nat.blt d N then (match res with
   | .one p=>(match qg (p.1,jO (1000000000100000+1000*d) p.2)with
    |some y=>k ((fO (1000000000100000+1000*d) σ p.2).set d y)
    |none=>none)
   |.ct ps=>k ((iK (1000000000100000+1000*d) σ ps).set d (.ct (kN (1000000000100000+1000*d) ps))))else none)=some r:=h
  cases C:Nat.blt d N with
  |false=>rw[C]at h;cases h
  | true=>
   rw[C,ak]at h;cases res with
   | one p=>
    simp only at h;split at h
    next y I=>exact⟨_,h,λX k=>by simp only[mh,C,ak,I]⟩
    ·cases h
   |ct ps=>exact⟨_,h,λX k=>by simp only[mh,C,ak]⟩
theorem RZ{I:aj Tmp}{c:mZ}{args:aa Operand}{k:S->aj X}(h:lH N σ I c args k=some r):∃ D,k D=some r/\cx (λX k=>lH (X:=X) N σ I c args k) D:=by
 unfold lH at h;split at h
 ·rename_i E L;cases J:(once (kr 0 E)&&Nat.ble E.length 40)with
  |false=>rw[J]at h;cases h
  | true=>
   rw[J,ak]at h;obtain⟨x,C,O⟩:=zY _ _ _ _ h;split at C
   ·rename_i y Q;unfold xz at C;generalize T:zL N E (gX (eE c.ps) y.2) (mg (gA I) (eI c.ro y.1).len E (gX (eE c.ps) y.2))=ok at C;cases ok with
    |false=>cases C
    | true=>
     rw[ak]at C;obtain⟨D,U,Y⟩:=YD C;exact⟨D,U,λX k=>by
      simp only[lH,L,J,ak];refine(O X _).trans ?_;simp only[Q,xz,T,ak];exact Y.at_ _⟩
   ·cases C
 ·cases h
theorem ajz{F:aa Int->aj Int}{x:A}{k:S->aj X}(h:zV N σ d F x k=some r):∃ D,k D=some r/\cx (λX k=>zV (X:=X) N σ d F x k) D:=by
 unfold zV at h;split at h
 ·cases C:Nat.blt d N with
  |false=>rw[C]at h;cases h
  | true=>
   rw[C,ak]at h;split at h
   next z E=>exact⟨_,h,λX k=>by simp only[zV,C,ak,E]⟩
   ·cases h
 ·cases h
theorem ajA{f:Nat}{x:Operand}{args:Array Operand}{O:Array TypeId}{F:aa Int->aj Int}{k:S->aj X}(ho:o.op = .call { callee:=.value (.func f),args,argTypes:=O })(hx:args.toList=[x])(hd:o.dst=some d)(he:enters P f)(hc:K2 P f F)(h:zV N σ d F (aE σ x) k=some r):
  ∃T,k T=some r/\lA P w0 N o σ T:=by
 unfold zV at h;split at h
 ·rename_i q l hq;cases E:Nat.blt d N with
  |false=>rw[E]at h;cases h
  | true=>
   rw[E,ak]at h;have Cu:d<N:=cB E;split at h
   ·rename_i U hhz
    refine⟨_,h,λa w K Q hR hK=>?_⟩
    obtain⟨ah,ρ,hR⟩:=hR;have I:=hR.aE x;rw[hq]at I;have FF:RV w w.heap.size (λ_=>none) [] (.sl .u8 0 false l) (a.eval x):=by
     have Y:RV w w.heap.size (λ_=>none) [] (.sl .u8 0 q l) (a.eval x):=I.2.gd;cases q with
     |false=>exact Y
     |true=>exact Y.wk (.q _ _ _)
    unfold Oper.wp;rw[Ky w o a f args O ho he,Oper.upon_enter];have uV:(args.map a.eval) = #[a.eval x]:=by apply Array.ext';rw[Array.toList_map,hx];rfl
    rw[uV]
    refine(hc w l _ _ hhz FF (w0.on hR.below (λ_ _ h=>by cases h))).mono λe w' qm=>?_
    obtain⟨b,off,cells,t,rfl,J,hb,Z,sj,R0,mR⟩:=qm;have hB:=hR.below.size;have iI:b<w'.heap.size:=(fl.1 Z).1;have va:Rl w0 N (bL ah b (some [1000000000100000+1000*d])) ρ σ a w':=by
     refine hR.grow J (λc L=>cu _ _ _ (by omega)) (λc k L D=>?_)
     by_cases e:c=b
     ·subst e;rw[bO]at D;injection D with D;subst D;exact⟨iI,by simp⟩
     ·rw[cu _ _ _ e]at D;have:=(hR.cH c k D).2.1;omega
    have jP:=va.new (d:=1000000000100000+1000*d) (x:=.ax [.v (.sl .u8 0 q l),.v (.int .i64 0),.v (.int .i64 U)]) (.ax b off) (by
     refine .ax b off cells t _ (λj=>(#[a.eval x,.int .i64 0,.int .i64 U]:Array Value).getD j undef) (bO _ _ _) (bO _ _ _) Z (by
      have:=(fl.1 mR).1;simp;omega) (λj y C=>?_)
     have E9:cQ w' w0.heap.size (bL ah b (some [1000000000100000+1000*d])) (bL ρ (1000000000100000+1000*d) (.ax b off)) (.v (.sl .u8 0 q l)) (a.eval x):=by
      refine⟨rfl,I.2.fN J.size (λc L=>⟨J.block c L,cu _ _ _ (by omega)⟩)⟩
     match j,C with
     |0,C=>simp at C;subst C;exact⟨sj,E9⟩
     |1,C=>simp at C;subst C;exact⟨R0,rfl,.int _ _ _⟩
     |2,C=>simp at C;subst C;exact⟨mR,rfl,.int _ _ _⟩
     |j+3,C=>simp at C) (hR.dm _ (.inr (by omega)))
    rw[hd];exact hK _ _ ⟨_,_,jP.set ⟨b,off,bO _ _ _,rfl⟩ Cu⟩
   ·cases h
 ·cases h
theorem ajB{f:Nat}{args:Array Operand}{O:Array TypeId}{c:zW}{k:S->aj X}(ho:o.op = .call { callee:=.value (.func f),args,argTypes:=O })(hd:o.dst=some d)(he:enters P f)(hc:K3 P f c)(h:zX N σ d c args.toList k=some r):∃ T,k T=some r/\lA P w0 N o σ T:=by
 unfold zX at h;cases J:Nat.blt d N with
 |false=>rw[J]at h;cases h
 | true=>
  rw[J,ak]at h;have Cu:d<N:=by have:=cB J;omega
  obtain⟨ps,D,kO⟩:=QZ (w0:=w0) (N:=N) _ _ h;split at D
  ·rename_i p hp;split at D
   ·rename_i t g q l hl;split at D
    ·rename_i kK;cases hb:(Nat.blt g 2&&Nat.ble p.1 p.2&&Nat.ble p.2 l.length)with
     |false=>rw[hb]at D;cases D
     | true=>
      rw[hb,ak]at D;rw[aK,aK]at hb;have U:g<2:=by have:=cB hb.1.1;omega
      have jJ:=cB hb.1.2;have h2l:=cB hb.2
      refine⟨_,D,λa w K Q hR hK=>?_⟩
      obtain⟨ah,ρ,hR⟩:=hR;unfold Oper.wp;rw[Ky w o a f args O ho he,Oper.upon_enter];have uV:(args.map a.eval)=(args.toList.map a.eval).toArray:=by apply Array.ext';rw[Array.toList_map]
      rw[uV]
      refine(hc ps p hp w _ (kO ah ρ a w hR) (w0.on hR.below (λ_ _ h=>by cases h))).mono λe w' qm=>?_
      obtain⟨A,n,cap,C,hle,hn,rfl,L⟩:=qm;have kI:RV w w0.heap.size ah [] (.sl t g q l) (.slice A n cap):=by
       unfold YB at hl;split at hl
       ·rename_i x hx;have hev:((args.toList.map a.eval).toArray)[c.a]?=some (a.eval x):=by
         rw[List.getElem?_toArray,cO,hx];rfl
        unfold sq at C;rw[hev]at C;have E:=hR.aE x;split at hl
        next cs iQ=>rw[iQ]at E;obtain⟨us,kH,hrl⟩:=E;rw[kH]at C;obtain⟨u,I,hr⟩:=hrl.2 _ _ hl;simp only at C;rw[C]at I;injection I with I;subst I;exact hr.2
        ·rename_i lf zH;rw[zH]at E;cases Y:Nat.beq c.j 0 with
         |false=>rw[Y]at hl;cases hl
         | true=>
          rw[Y]at hl C;injection hl with hl;subst hl;have E:cQ w w0.heap.size ah ρ (.v (.sl t g q l)) (a.eval x):=E;have Z:∀ us,a.eval x ≠ .agg us:=by
           intro us e;rw[e]at E;cases E.2
          generalize a.eval x=z at C E Z;cases z<;>first|exact absurd rfl (Z _)|(simp only[ak,fh]at C;cases C;exact E.2)|(simp only[ak,fh]at C;cases C)
        ·cases hl
       ·cases hl
      obtain⟨R1,Cr,QU⟩:=kI.part (a:=p.1) (h:=p.2) U jJ h2l;subst kK;rw[hd];have gf:=hR.grow L (aD:=ah) (λ_ _=>rfl) (λb k hb hk=>absurd (hR.cH b k hk).2.1 (Nat.not_lt.2 hb));refine hK _ _ ⟨ah,ρ,gf.set ⟨by simp[V.aA,U],?_⟩ Cu⟩;exact R1.fN L.size λb hb=>⟨L.block b hb,rfl⟩
    ·cases D
   ·cases D
  ·cases D
theorem ajC{c:zW}{args:aa Operand}{k:S->aj X}(h:zX N σ d c args k=some r):∃ E,k E=some r/\cx (λX k=>zX (X:=X) N σ d c args k) E:=by
 unfold zX at h;cases D:Nat.blt d N with
 |false=>rw[D]at h;cases h
 | true=>
  rw[D,ak]at h;obtain⟨ps,C,I⟩:=RO _ _ h;split at C
  ·rename_i p J;split at C
   ·rename_i t g q l hl;split at C
    ·rename_i L;cases hb:(Nat.blt g 2&&Nat.ble p.1 p.2&&Nat.ble p.2 l.length)with
     |false=>rw[hb]at C;cases C
     | true=>
      rw[hb,ak]at C
      refine⟨_,C,λX k=>?_⟩
      simp only[zX,D,ak];exact(I.at_ _).trans (by simp only[J,hl,bk L,hb,ak])
    ·cases C
   ·cases C
  ·cases C
/-! Calls of functions that are run in the state of their caller. -/
def zZ{X:Type}(N:Nat)(σ:S)(C:aj Tmp)(c:sr)(xs:aa A)(k:S->aj X):aj X:=c.run X N σ xs λD y=>gI N D C y k
def ajD(p:Nat×Nat):A:=.aH p.1 p.2
def FG(σ:S):aa Operand->aj (aa (Nat×Nat))
 |[]=>some []
 | x :: xs=>match aE σ x,FG σ xs with
  |.aH r j,some ps=>some ((r,j)::ps)
  |_,_=>none
theorem ajE(w:World)(o:Oper)(a:Act)(f:Nat)(cl:Operand)(C:Array Value)(args:Array Operand)(E:Array TypeId)(I:o.op = .call { callee:=.value cl,args,argTypes:=E })(J:a.eval cl = .func (.func f) #[] C)(L:enters P f):
  (execOp a.eval o).run P w = .ok (.enter f (args.map a.eval++C)) w:=by
 obtain⟨fn,O,Q,D⟩:=L;have T:¬ fn.name = "runtime.NumGoroutine":=by simpa using Q
 have U:¬ fn.body=none:=by intro e;rw[e]at D;cases D
 simp[execOp,I,resolve,J,Deferred.ofValue,invoke,callFunc,eC,Sem.run,program,O,T,U]
def K4:A->aj (Nat×aa A)
 |.fn f cap=>some (f,cap.map ajD)
 |.ko f cs=>some (f,[.gG cs])
 |_=>none
theorem ajF{x:A}{f:Nat}{ex:aa A}{u:Value}(h:K4 x=some (f,ex))(L:RA w B ah ρ x u):∃ D:Array Value,u = .func (.func f) #[] D/\D.size=ex.length/\∀ (j:Nat) y,ex[j]?=some y->RA w B ah ρ y (D.getD j undef):=by
 unfold K4 at h;split at h
 ·rename_i U cap;injection h with h;injection h with E I;subst E I;obtain⟨D,O,Q,T⟩:=L
  refine⟨D,O,by simp[Q],λj y C=>?_⟩
  rw[cO]at C;cases J:cap[j]? with
  |none=>rw[J]at C;cases C
  | some p=>
   rw[J]at C;injection C with C;subst C;obtain⟨b,off,E,I⟩:=T _ p J;rw[gE,I];exact⟨b,off,E,rfl⟩
 ·injection h with h;injection h with E I;subst E I;obtain⟨pv,e,J⟩:=L
  refine⟨#[pv],e,rfl,λj y C=>?_⟩
  rcases j with _|j
  ·injection C with C;subst C;exact J
  ·cases C
 ·cases h
theorem YE{f:Nat}{cl:Operand}{ex:aa A}{args:Array Operand}{U:Array TypeId}{c:sr}{k:S->aj X}(ho:o.op = .call { callee:=.value cl,args,argTypes:=U })(qW:K4 (aE σ cl)=some (f,ex))(he:enters P f)(hc:su P f c)
  (h:zZ N σ o.dst c (args.toList.map (aE σ)++ex) k=some r):∃Y,k Y=some r/\lA P w0 N o σ Y:=by
 unfold zZ at h
 haveI:Inhabited Wd:=⟨w0⟩
 obtain⟨Z,y,C,_,Fh⟩:=hc _ _ _ _ _ _ h;have step:∀ a w K Q,R w0 N σ a w->(∀ v w' aD ρ',Rl w0 N aD ρ' Z a w'->RA w' w0.heap.size aD ρ' y v->K (a.put o.dst v) w')->o.wp P a w K Q:=by
  intro a w K Q hR D;obtain⟨ah,ρ,hR⟩:=hR;obtain⟨I,hv,hs,kJ⟩:=ajF qW (hR.aE cl);unfold Oper.wp;rw[ajE w o a f cl I args U ho hv he,Oper.upon_enter]
  refine(Fh w0 ah ρ a w _ hR (by simp[hs]) λi=>?_).mono λe w' qm=>?_
  ·by_cases hi:i<args.size
   ·have e1:(args.toList.map (aE σ)++ex)[i]?=some (aE σ args[i]):=by
     rw[List.getElem?_append_left (by simpa using hi),cO,kX,Array.getElem?_eq_getElem hi];rfl
    have J:(args.map a.eval++I).getD i undef=a.eval args[i]:=by
     rw[gE,Array.getElem?_append_left (by simpa using hi)];simp[hi]
    rw[e1,J];exact hR.aE _
   ·have e0:(args.toList.map (aE σ)++ex)[i]?=ex[i-args.size]?:=by
     rw[List.getElem?_append_right (by simp;omega)];simp
    rw[e0];cases hp:ex[i-args.size]? with
    |none=>trivial
    | some p=>
     have J:(args.map a.eval++I).getD i undef=I.getD (i-args.size) undef:=by
      rw[gE,Array.getElem?_append_right (by simp;omega),gE];simp
     rw[J];exact kJ _ p hp
  ·obtain⟨v,aD,ρ',rfl,E,L⟩:=qm;exact D v w' aD ρ' E L
 unfold gI at C;split at C
 ·rename_i O
  refine⟨Z,C,λa w K Q hR D=>step a w K Q hR λv w' aD ρ' E _=>?_⟩
  rw[O];exact D _ _ ⟨aD,ρ',E⟩
 ·rename_i d O;cases T:Nat.blt d N with
  |false=>rw[T]at C;cases C
  | true=>
   rw[T,ak]at C
   refine⟨_,C,λa w K Q hR D=>step a w K Q hR λv w' aD ρ' E L=>?_⟩
   rw[O];exact D _ _ ⟨aD,ρ',E.set L (by have:=cB T;omega)⟩
theorem YF:∀ (xs:aa Operand) (ps:aa (Nat×Nat)),FG σ xs=some ps->ps.length=xs.length/\∀ ah ρ a w,Rl w0 N ah ρ σ a w->∀ (j:Nat) p,ps[j]?=some p->∃ b off,ρ p.1 = .ax b off/\(xs.map a.eval)[j]?=some (.pointer (some ⟨b,off+p.2,none⟩))
 | [],ps,h=>by
  simp only[FG,fh]at h;subst h;exact⟨rfl,λ_ _ _ _ _ j p C=>by simp at C⟩
 | x :: xs,ps,h=>by
  unfold FG at h;split at h
  ·rename_i rr j L O Q;injection h with h;subst h;obtain⟨T,U⟩:=YF xs L Q
   refine⟨by simp[T],λah ρ a w hR D p C=>?_⟩
   cases D with
   | zero=>
    simp only[List.getElem?_cons_zero,fh]at C;subst C;have J:=hR.aE x;rw[O]at J;obtain⟨b,off,E,I⟩:=J;exact⟨b,off,E,by simp[I]⟩
   | succ D=>
    obtain⟨b,off,E,I⟩:=U ah ρ a w hR D p (by simpa using C);exact⟨b,off,E,by simpa using I⟩
  ·cases h
end
def A.xH(q s n:Nat):A->A
 |.lf (.own [C])=>bif Nat.beq C q then .view [q] s 0 n else .lf (.own [C])
 |x=>x
def S.xH(σ:S)(p:Nat×Nat×Nat):S:=⟨λk=>(σ.t k).xH p.1 p.2.1 p.2.2,σ.m⟩
def R2:aa (Nat×Nat×Nat)->S->S
 |[],σ=>σ
 |p::l,σ=>R2 l (σ.xH p)
def R3(c0 g:Nat):Mu->aa (Nat×Nat×Nat)
 |.sl q (.sl t _ _ l)=>bif Nat.ble 1000000 g&&Nat.blt q c0 then [(q,aC t,l.length)]else []
 |_=>[]
def FH(c0:Nat):aa PK->aa Mu->aa (Nat×Nat×Nat)
 |.v _ _::ps,C=>FH c0 ps C
 |.p _ _ _::ps,_::C=>FH c0 ps C
 |.s _ g::ps,D::C=>R3 c0 g D++FH c0 ps C
 |_,_=>[]
def z0{X:Type}(N:Nat)(σ:S)(C:aj Tmp)(c:mZ)(args:aa Operand)(k:S->aj X):aj X:=
 match jd σ c.ps args with
 |some D=>lH N σ C c args λE=>k (R2 (FH (gA C) c.ps D) E)
 |none=>none
section
variable {P:Program} {w w':World} {w0:Wd} {B N:Nat} {ah cW aD:bA} {ρ dZ ρ':Nat->Loc} {σ:S} {a:Act} {X:Type} {d:Nat} {r:X} {o:Oper}
theorem Rl.xH{p:Nat×Nat×Nat}{ad:aj Addr}{c:Nat}(h:Rl w0 N ah ρ σ a w)(E:ρ p.1 = .de (.slice ad p.2.2 c)):Rl w0 N ah ρ (σ.xH p) a w:=by
 refine⟨h.below,h.cH,h.root,λk=>?_,h.size,h.defers,h.fix,h.dm⟩
 have C:=h.tmp k;show RA _ _ _ _ ((σ.t k).xH p.1 p.2.1 p.2.2) _;generalize σ.t k=x at C;unfold A.xH;split
 ·rename_i I;cases hb:Nat.beq I p.1 with
  |false=>exact C
  | true=>
   obtain rfl:=bQ hb;have D:=C.2;simp only[cm,E]at D;injection D with D;refine⟨ad,p.2.2,c,by simp only[cm,E],gn _,dV _,?_⟩;rw[<-D];cases ad<;>simp[sliced,Addr.add]
 ·exact C
theorem YG:∀ (l:aa (Nat×Nat×Nat)) (σ:S),Rl w0 N ah ρ σ a w->(∀ p∈l,∃ A c,ρ p.1 = .de (.slice A p.2.2 c))->Rl w0 N ah ρ (R2 l σ) a w
 |[],σ,h,_=>h
 | p :: l,σ,h,hl=>by
  obtain⟨A,c,C⟩:=hl p (.head _);exact YG l _ (h.xH C) λp C=>hl p (.tail _ C)
theorem ajG{c0 g:Nat}{D:Mu}{p:Nat×Nat×Nat}(h:p∈R3 c0 g D):∃ q t o C l,D = .sl q (.sl t o C l)/\p=(q,aC t,l.length)/\q<c0:=by
 unfold R3 at h;split at h
 ·rename_i q t o C l;cases hb:(Nat.ble 1000000 g&&Nat.blt q c0)with
  |false=>rw[hb]at h;cases h
  | true=>
   rw[hb,ak]at h;rw[aK]at hb;exact⟨q,t,o,C,l,rfl,kY.1 h,cB hb.2⟩
 ·cases h
theorem K5{c0:Nat}{p:Nat×Nat×Nat}:∀ (ps:aa PK) (C:aa Mu),p∈FH c0 ps C->∃ q t o D l,Mu.sl q (.sl t o D l)∈C/\p=(q,aC t,l.length)/\q<c0
 |.v _ _::ps,C,h=>K5 ps C h
 |.p _ _ _::ps,J::C,h=>let ⟨q,t,o,D,l,I,E⟩:=K5 ps C h;⟨q,t,o,D,l,.tail _ I,E⟩
 | .s _ g :: ps,J :: C,h=>by
  rcases List.mem_append.1 h with h|h
  ·obtain⟨q,t,o,D,l,rfl,E⟩:=ajG h;exact⟨q,t,o,D,l,.head _,E⟩
  ·obtain⟨q,t,o,D,l,I,E⟩:=K5 ps C h;exact⟨q,t,o,D,l,.tail _ I,E⟩
 |[],_,h=>by cases h
 |.p _ _ _::_,[],h=>by cases h
 |.s _ _::_,[],h=>by cases h
theorem RV.ajH{q:aa Nat}{t:TC}{g:Nat}{C:Bool}{l:aa (T t)}{v:Value}(h:RV w B ah q (.sl t g C l) v):∃ A c,v = .slice A l.length c:=by
 cases h<;>exact⟨_,_,rfl⟩
theorem ajI{f:Nat}{args:Array Operand}{O:Array TypeId}{c:mZ}{k:S->aj X}(T:o.op = .call { callee:=.value (.func f),args,argTypes:=O })(U:enters P f)(Y:tD P f c)(h:z0 N σ o.dst c args.toList k=some r):∃ E,k E=some r/\lA P w0 N o σ E:=by
 unfold z0 at h;split at h
 ·rename_i Yj I;obtain⟨qx,K6,cn,Z,D,_,h4,h5⟩:=Rz (w0:=w0) T U Y h;rw[I]at D;injection D with D;subst D
  refine⟨_,Z,λa w K Q hR hK=>?_⟩
  obtain⟨ah,ρ,hR⟩:=hR
  refine h5 a w K Q ah ρ hR λv w' cW dZ tK gf hv _ di=>hK _ _ ⟨cW,tK,YG _ _ gf λp hp=>?_⟩
  obtain⟨q,t,oo,qn,l,J,rfl,hq⟩:=K5 _ _ hp;have m0:=(KH _ _ _ I _ J).1;have L:=hR.root q _ m0;generalize C:aP.sl _=z at L;cases L with
  |ax=>cases C
  |mp=>cases C
  |gh=>cases C
  | sl u y Q2 hr=>
   injection C with C;subst C;obtain⟨A,c,rfl⟩:=hr.ajH;exact⟨A,c,(di q hq).trans ((hv.dQ q (h4 _ J)).trans Q2)⟩
 ·cases h
theorem ajJ{D:aj Tmp}{c:mZ}{args:aa Operand}{k:S->aj X}(h:z0 N σ D c args k=some r):∃ C,k C=some r/\∀ (X:Type) (k:S->aj X),z0 N σ D c args k=k C:=by
 unfold z0 at h;split at h
 next L E=>obtain⟨C,I,J⟩:=RZ h;exact⟨_,I,λX k=>by simp only[z0,E];exact J X _⟩
 ·cases h
end
def bA.un(ah:bA)(q:Nat):bA:=λb=>match ah b with
 |some k=>bif aY q k then none else some k
 |none=>none
def xJ{X:Type}(P:Program)(σ:S)(q s i j:Nat)(t:TypeId)(x:A)(k:S->aj X):aj X:=
 match σ.m q with
 |some (.sl (.sl C (o+2) D l))=>bif Nat.beq s (aC C)&&Nat.beq (full C) 0 then mU P (σ.drop q) t (x.drop q) (.lf (.v (.sl C 0 false ((l.take j).drop i)))) k else none
 |_=>none
section
variable {P:Program} {w w':World} {w0:Wd} {B N:Nat} {ah aD:bA} {ρ ρ':Nat->Loc} {σ:S} {a:Act} {X:Type} {d q:Nat} {r:X} {o:Oper}
theorem YH(C:∀ b,ah b≠some []):Rel q ah (ah.un q):=
 ⟨C,λb h=>by simp[bA.un,h],λb k h D=>by simp[bA.un,h,D]⟩
theorem RV.eZ{C:TC}{g:Nat}{O:Bool}{l:aa (T C)}{A:aj Addr}{n c:Nat}(E:RV w B ah [q] (.sl C (g+2) O l) (.slice A n c))(hf:full C=0):RV w B (ah.un q) [] (.sl C 0 false l) (.slice A n c)/\n=l.length:=by
 cases E with
 |cG=>exact⟨.cG _ _ _,rfl⟩
 |cL=>exact⟨.cL _ _ _ _ _ (by omega),rfl⟩
 |cV=>exact⟨.cL _ _ _ _ _ (by omega),rfl⟩
 |aA _ _ _ _ _ _ _ _ _ ho=>omega
 | own=>
  rename_i b cs u hl L Q E hs U hm;have I:∀ (i:Nat) (h:i<l.length) (j:Nat) (x:V),(enc C 0 l[i])[j]?=some x->(enc C g l[i])[j]?=some x/\x.plain=true:=by
   intro i h j x D;obtain⟨y,J,rfl⟩:=uD C g l[i] j x D;have Y:=J4 C g l[i] y (fL J);cases y with
   | sl Z o' q' l'=>
    have:=cB (show Nat.ble (full Z+2) (full C)=true from Y);omega
   | nil=>
    have:=Qd C g l[i] _ (fL J);cases this
   |_=>exact⟨J,rfl⟩
  refine⟨.aA _ _ _ _ _ b 0 c u (by omega) (by simp[bA.un,hl,aY]) (fl.1 L).1 (by omega) U (λi h j x D=>?_) (λi h j x D=>?_),rfl⟩
  ·rw[eN,cell_of_row w b _ cs _ _ L];exact Q i h j x (I i h j x D).1
  ·exact(E i h j x (I i h j x D).1).rX (I i h j x D).2
theorem ajK{s i j:Nat}{t:TypeId}{x:A}{k:S->aj X}(h:xJ P σ q s i j t x k=some r):∃ E,k E=some r/\∀ ah ρ a w,Rl w0 N ah ρ σ a w->∀ u v,RA w w0.heap.size ah ρ x u->RA w w0.heap.size ah ρ (.view [q] s i j) v->
  ∃w' aD,(Instr.storeAt t u v).run P w = .ok () w'/\Rl w0 N aD ρ E a w':=by
 unfold xJ at h;split at h
 ·rename_i I g U l Y;cases hb:(Nat.beq s (aC I)&&Nat.beq (full I) 0)with
  |false=>rw[hb]at h;cases h
  | true=>
   rw[hb,ak]at h;rw[aK]at hb;obtain rfl:=bQ hb.1;have Z:=bQ hb.2;obtain⟨E,h1,hs⟩:=Xe (w0:=w0) (N:=N) h
   refine⟨E,h1,λah ρ a w hR u v hu hv=>?_⟩
   have J:Rel q ah (ah.un q):=YH hR.td;have va:=hR.rel J (λb k C=>by
    unfold bA.un at C;cases hl:ah b with
    |none=>rw[hl]at C;cases C
    | some L=>
     rw[hl]at C;simp only at C;cases O:aY q L with
     |true=>rw[O]at C;cases C
     | false=>
      rw[O,aq]at C;injection C with C;subst C;exact⟨⟨_,rfl⟩,(hR.cH b L hl).2.2⟩)
   obtain⟨A,n,c,Q,h3,h4,rfl⟩:=hv;have T:=hR.root q _ Y;generalize D:aP.sl (.sl I (g+2) U l)=z at T;cases T with
   |ax=>cases D
   |mp=>cases D
   |gh=>cases D
   | sl vq y di hr=>
    injection D with D;subst D;have R4:vq = .slice A n c:=by
     simp only[cm,di]at Q;injection Q
    subst R4;obtain⟨h5,h6⟩:=hr.eZ Z;have h7:=(h5.part (by omega) h3 (by omega)).1;obtain⟨w',dB,jP⟩:=hs _ _ _ _ va u _ (hu.rel J) (show RA _ _ _ _ (.lf (.v _)) _ from ⟨rfl,h7⟩);exact⟨w',_,dB,jP⟩
 ·cases h
theorem ajL{s i j:Nat}{t:TypeId}{x:A}{k:S->aj X}(h:xJ P σ q s i j t x k=some r):∃ C,k C=some r/\cx (λX k=>xJ (X:=X) P σ q s i j t x k) C:=by
 unfold xJ at h;split at h
 ·rename_i D g L l E;cases hb:(Nat.beq s (aC D)&&Nat.beq (full D) 0)with
  |false=>rw[hb]at h;cases h
  | true=>
   rw[hb,ak]at h;obtain⟨C,I,J⟩:=Yt h;exact⟨C,I,λX k=>by simp only[xJ,E,hb,ak];exact J.at_ _⟩
 ·cases h
end
def Lf.eZ(q:Nat)(y:V):Lf->Lf
 |.own [r]=>bif Nat.beq r q then .v y else .own [r]
 |x=>x.drop q
def A.eZ(q:Nat)(y:V):A->A
 |.lf x=>.lf (x.eZ q y)
 |.agg cs=>.agg (cs.map (Lf.eZ q y))
 |.ct xs=>.ct (xs.map λp=>(p.1,p.2.map (Lf.eZ q y)))
 |x=>x.drop q
def aP.eZ(q:Nat)(y:V):aP->aP
 |.ax cs=>.ax (cs.map (Lf.eZ q y))
 |.gh xs=>.gh (xs.map (A.eZ q y))
 |x=>x.drop q
def S.eZ(σ:S)(q:Nat)(y:V):S:=⟨λk=>(σ.t k).eZ q y,λr=>bif Nat.beq r q then none else (σ.m r).map (aP.eZ q y)⟩
section
variable {P:Program} {w w':World} {w0:Wd} {B N:Nat} {ah aD:bA} {ρ ρ':Nat->Loc} {σ:S} {a:Act} {X:Type} {d q:Nat} {r:X} {o:Oper} {y:V}
theorem cQ.eZ(C:Rel q ah (ah.un q))(E:∀ u,cm w ah ρ [q]=some u->RV w B (ah.un q) [] y u)(I:y.aA=true){x:Lf}{u:Value}(h:cQ w B ah ρ x u):cQ w B (ah.un q) ρ (x.eZ q y) u:=by
 unfold Lf.eZ;split
 ·rename_i r;cases hb:Nat.beq r q with
  | true=>
   obtain rfl:=bQ hb;exact⟨I,E u h.2⟩
  | false=>
   have J:r≠q:=by rintro rfl;simp at hb
   have hl:aY q [r]=false:=by simpa [aY]using λe=>J e
   have D:cQ w B (ah.un q) ρ (bif aY q [r]then .dead else .own [r]) u:=cQ.rel C h;rw[hl]at D;exact D
 ·exact cQ.rel C h
theorem dg.eZ(E:Rel q ah (ah.un q))(I:∀ u,cm w ah ρ [q]=some u->RV w B (ah.un q) [] y u)(J:y.aA=true){cs:aa Lf}{us:Array Value}(h:dg w B ah ρ cs us):dg w B (ah.un q) ρ (cs.map (Lf.eZ q y)) us:=by
 refine⟨by rw[cZ];exact h.1,λj x C=>?_⟩
 rw[cO]at C;cases D:cs[j]? with
 |none=>rw[D]at C;cases C
 | some z=>
  rw[D]at C;injection C with C;subst C;obtain⟨u,L,O⟩:=h.2 j z D;exact⟨u,L,O.eZ E I J⟩
theorem RP.eZ(C:Rel q ah (ah.un q))(D:∀ u,cm w ah ρ [q]=some u->RV w B (ah.un q) [] y u)(E:y.aA=true){p:Bool×aa Lf}{u:Value}(h:RP w B ah ρ p u):RP w B (ah.un q) ρ (p.1,p.2.map (Lf.eZ q y)) u:=by
 obtain⟨b,cs⟩:=p;cases b with
 |true=>obtain⟨us,e,h⟩:=h;exact⟨us,e,dg.eZ C D E h⟩
 |false=>exact dg.eZ C D E h
theorem RA.eZ(D:Rel q ah (ah.un q))(E:∀ u,cm w ah ρ [q]=some u->RV w B (ah.un q) [] y u)(I:y.aA=true){x:A}{u:Value}(h:RA w B ah ρ x u):RA w B (ah.un q) ρ (x.eZ q y) u:=by
 unfold A.eZ;split
 ·exact cQ.eZ D E I h
 ·exact RP.eZ D E I (p:=(true,_)) h
 ·rename_i xs;obtain⟨us,rfl,L,O⟩:=h
  refine⟨us,rfl,by rw[cZ];exact L,λj p C=>?_⟩
  rw[cO]at C;cases J:xs[j]? with
  |none=>rw[J]at C;cases C
  | some z=>
   rw[J]at C;injection C with C;subst C;obtain⟨v,Q,T⟩:=O j z J;exact⟨v,Q,T.eZ D E I⟩
 ·exact RA.rel D h
theorem dH.eZ(I:Rel q ah (ah.un q))(L:∀ u,cm w ah ρ [q]=some u->RV w B (ah.un q) [] y u)(O:y.aA=true){r:Nat}(Q:r≠q){x:aP}(h:dH w B ah ρ r x):dH w B (ah.un q) ρ r (x.eZ q y):=by
 have U:aY q [r]=false:=by simpa [aY]using λe=>Q e
 unfold aP.eZ;split
 ·cases h with
  | ax b off cells e cs us J hl Y Z T=>
   refine .ax b off cells e _ us J (I.fN _ _ hl U) Y (by rw[cZ];exact Z) (λj x C=>?_)
   rw[cO]at C;rename_i cs;cases D:cs[j]? with
   |none=>rw[D]at C;cases C
   | some z=>
    rw[D]at C;injection C with C;subst C;exact⟨(T j z D).1,(T j z D).2.eZ I L O⟩
 ·cases h with
  | gh us xs J C=>
   refine .gh us _ J λj x E=>?_
   rw[cO]at E;rename_i xs;cases D:xs[j]? with
   |none=>rw[D]at E;cases E
   | some z=>
    rw[D]at E;injection E with E;subst E;exact RA.eZ I L O (C j z D)
 ·exact dH.rel I Q h
theorem R.eZ{E:TC}{g:Nat}{O:Bool}{l:aa (T E)}(hf:full E=0)(hm:σ.m q=some (.sl (.sl E (g+2) O l)))(h:R w0 N σ a w):R w0 N (σ.eZ q (.sl E 0 false l)) a w:=by
 obtain⟨ah,ρ,hR⟩:=h;have Q:Rel q ah (ah.un q):=YH hR.td;have J:∀ u,cm w ah ρ [q]=some u->RV w w0.heap.size (ah.un q) [] (.sl E 0 false l) u:=by
  intro u U;have Y:=hR.root q _ hm;generalize I:aP.sl (.sl E (g+2) O l)=z at Y;cases Y with
  |ax=>cases I
  |mp=>cases I
  |gh=>cases I
  | sl Z y di hr=>
   injection I with I;subst I;have R4:Z=u:=by
    simp only[cm,di]at U;injection U
   subst R4;have hs:=hr.J5 (by simp[V.aA]);cases Z with
   |slice A n c=>exact(hr.eZ hf).1
   |_=>cases hs
 refine⟨ah.un q,ρ,hR.below,λb k C=>?_,λr x D=>?_,λk=>RA.eZ Q J rfl (hR.tmp k),hR.size,hR.defers,hR.fix,hR.dm⟩
 ·unfold bA.un at C;cases hl:ah b with
  |none=>rw[hl]at C;cases C
  | some k'=>
   rw[hl]at C;simp only at C;cases J:aY q k' with
   |true=>rw[J]at C;cases C
   | false=>
    rw[J,aq]at C;injection C with C;subst C;exact hR.cH b k' hl
 ·have D:(bif Nat.beq r q then none else (σ.m r).map (aP.eZ q (.sl E 0 false l)))=some x:=D;cases hb:Nat.beq r q with
  |true=>rw[hb]at D;cases D
  | false=>
   have hrq:r≠q:=by rintro rfl;simp at hb
   rw[hb,aq]at D;cases L:σ.m r with
   |none=>rw[L]at D;cases D
   | some y=>
    rw[L]at D;injection D with D;subst D;exact dH.eZ Q J rfl hrq (hR.root r y L)
def R5(σ:S)(x:A):S:=match x with
 | .lf (.own [q])=>(match σ.m q with
  |some (.sl (.sl .str (_+2) _ l))=>σ.eZ q (.sl .str 0 false l)
  |_=>σ)
 |_=>σ
theorem R.R5{x:A}(h:R w0 N σ a w):R w0 N (Proofs.YtglnbhiaknohlaaGreat.R5 σ x) a w:=by
 unfold Proofs.YtglnbhiaknohlaaGreat.R5;split
 ·rename_i q;split
  next g D l C=>exact R.eZ rfl C h
  ·exact h
 ·exact h
def xK{X:Type}(P:Program)(σ:S)(t:TypeId)(x lo hi C:A)(k:aj X):aj X:=
 match x,lo,hi,C with
 | .lf (.own q),.lf (.v (.int _ a)),.lf (.v (.int _ b)),.lf (.v (.int _ c))=>(match o7 P t with
  | some e=>(match ja P e with
   | some _=>fK σ.m q λy=>(match y with
    |.sl _ _ _ l=>if 0<=a/\a<=b/\b<=c/\c<=(l.length:Int)then k else none
    |_=>none)
   |none=>none)
  |none=>none)
 |_,_,_,_=>none
theorem ajM{t:TypeId}{x lo hi T:A}{k:aj X}(h:xK P σ t x lo hi T k=some r):k=some r/\
  ∀ah ρ a w,Rl w0 N ah ρ σ a w->∀u J L O,RA w w0.heap.size ah ρ x u->RA w w0.heap.size ah ρ lo J->RA w w0.heap.size ah ρ hi L->RA w w0.heap.size ah ρ T O->∃v,(Instr.sliceAt t u (some J) (some L) (some O)).run P w = .ok v w:=by
 unfold xK at h;split at h
 ·rename_i q kl a kh b km c;split at h
  ·rename_i e C;split at h
   ·rename_i n Q;obtain⟨y0,QV,E⟩:=qS q _ h;split at E
    ·rename_i tc g qn xs;split at E
     ·rename_i hb
      refine⟨E,λah ρ ac w hR u J L O U hl hh hm=>?_⟩
      rw[hl.2.gp,hh.2.gp,hm.2.gp];have Y:P.underlying t=some (.slice e):=by
       unfold o7 at C;split at C
       next e' pg=>injection C with C;rw[<-C];exact pg
       ·cases C
      have Z:P.elem t=e:=by simp[Program.elem,Y]
      have YI:P.underlying t=some (.slice (P.elem t)):=by rw[Z];exact Y
      have hss:(sizeOf (P.elem t)).run P w = .ok n w:=by
       unfold ja at Q;cases hi:P.info? e with
       |none=>simp[hi]at Q
       | some i=>
        have:i.size=n:=by simpa [hi]using Q
        simp[sizeOf,typeInfo,Z,hi,this]
      obtain⟨v0,FF,lE⟩:=QV.ok hR.root;have fA:∃ D n c,u = .slice D n c:=by
       have:=U.1;cases u<;>first|cases this;done|exact⟨_,_,_,rfl⟩
      obtain⟨D,n',c',rfl⟩:=fA;have I:=U.2;rw[FF]at I;injection I with I;subst I;have hf:RV w 0 (λ_=>none) [] (.sl tc 0 qn xs) (.slice D n' c'):=lE.gd;obtain⟨_,Cr,QU⟩:=RV.part (w:=w) hf (a:=0) (h:=xs.length) (by omega) (by omega) (by omega);refine⟨sliced D a.toNat b.toNat c.toNat n,?_⟩;rw[run_sliceAt_slice w t _ _ _ _ YI,run_slice_lhm w t D n' c' YI kl kh km a b c hb.1 hb.2.1 hb.2.2.1 (by omega),hss];rfl
     ·cases E
    ·cases E
   ·cases h
  ·cases h
 ·cases h
end
section
variable {P:Program} (w:World)
theorem ajN(base:Nat)(t u ty e:TypeId)(i:TypeInfo)(E:P.underlying t=some (.slice e))(I:P.underlying u=some .string)(hi:P.info? e=some i)(O:i.zero=some (.int .u8 0))
  (Q:i.size=1) (T:i.bytes=1)
  (v:Value) (n:Nat) (xs:aa Value) (J:w.ownsRow base e 1 v n xs) (s:ByteArray)
  (U:n+s.size<=maxLen) (Z:n+s.size<=140737488355328) (O9:base<=w.heap.size):
  ∃ D w',(Builtin.append_ #[t,u] ty #[v,.string s]).run P w = .ok D w'/\w'.ownsRow base e 1 D (n+s.size) (xs++Lib.strCells s)/\w.grownBy w' v.ownBlock/\
   (D.ownBlock=v.ownBlock\/D.ownBlock=some w.heap.size):=by
 obtain⟨D,w',L,h2,h3,h4⟩:=Lib.run_append_own_string (P:=P) w base t u ty e i E I hi O Q T v n xs J s U Z O9;refine⟨D,w',L,h2,h3,?_⟩;have axc:n+s.size<=9223372036854775807:=by simp only[maxLen]at U;omega
 have hxl:xs.length=n:=by simpa using J.1
 rcases J.2 with ⟨rfl,rfl⟩|⟨g,cap,Y,rfl,hbg,hg,w7,hcm,iQ,axd⟩
 ·by_cases hm:s.size=0
  ·exact .inl (by rw[h4.2 ⟨rfl,hm⟩])
  ·have C:=run_append_nil_string (P:=P) w t u ty e i (.int .u8 0) E I hi O s (by omega) (by omega) (by rw[T];omega);rw[L]at C;injection C with C;subst C;exact .inr rfl
 ·by_cases ajO:n+s.size<=cap
  ·have axe:Y.size=cap:=by simpa using iQ
   have C:=Lib.run_append_room_string (P:=P) w t u ty e i E I hi Q g n cap Y hg s ajO (by omega);rw[L]at C;injection C with C;subst C;exact .inl rfl
  ·have holds:∀j u,xs[j]?=some u->w.cell? ((⟨g,0,none⟩:Addr).add j)=some u:=J.cells (g:=g) rfl;have C:=Lib.run_append_grow_string (P:=P) w t u ty e i (.int .u8 0) E I hi O ⟨g,0,none⟩ n cap xs (by rw[Q];simpa using hxl) holds s (by omega) (by omega) (by rw[T];exact growslice_fits (by omega) (by omega));rw[L]at C;injection C with C;subst C;exact .inr rfl
end
def vf(s:ByteArray):aa Int:=s.data.toList.map λb=>(b.toNat:Int)
theorem ajP(s:ByteArray):(vf s).length=s.size:=by
 rw[vf,cZ,ke];rfl
theorem ajQ(s:ByteArray):r3 .u8 (vf s) (Lib.strCells s):=by
 intro i hi o j x C;have D:i<(vf s).length:=hi;rcases j with _|j
 ·have C:x = .int .u8 (vf s)[i]:=by cases C;rfl
  subst C
  refine⟨.int .u8 (vf s)[i],?_,rfl,λw' B' aD I=>.int _ _ _⟩
  have E:i<s.data.toList.length:=by rw[vf,cZ]at D;exact D
  show (Lib.strCells s)[i*1+0]?=_;rw[Nat.mul_one,Nat.add_zero,Lib.strCells,cO,bK E];simp[vf]
 ·cases C
def K7(s:ByteArray):aa (T .u8):=vf s
theorem ajR(s:ByteArray):(K7 s).length=s.size:=ajP s
theorem ajS(s:ByteArray):r3 .u8 (K7 s) (Lib.strCells s):=ajQ s
section
variable {P:Program} {w w':World} {w0:Wd} {B N:Nat} {ah aD:bA} {ρ ρ':Nat->Loc} {σ:S} {a:Act} {X:Type} {d:Nat} {r:X}
theorem Rl.axf{t U e ty:TypeId}{i:TypeInfo}{rr o:Nat}{q:Bool}{l:aa (T .u8)}{u:Value}{s:ByteArray}(h:Rl w0 N ah ρ σ a w)(hF:w0.F rr=none)(gq:P.underlying t=some (.slice e))(kH:P.underlying U=some .string)(ht:tid .u8=e)(hi:P.info? e=some i)(hz:i.zero=some (.int .u8 0))
  (fE:i.size=1) (jN:i.bytes=1) (hd:RV w w0.heap.size ah [rr] (.sl .u8 (o+2) q l) u) (hlen:l.length+s.size<1073741824):
  ∃C w' aD,(Builtin.append_ #[t,U] ty #[u,.string s]).run P w = .ok C w'/\Rl w0 N aD (bL ρ rr (.de C)) ((σ.drop rr).root rr (.sl (.sl .u8 (o+2) false (l++K7 s)))) a w'/\kG C=true:=by
 subst ht;obtain⟨xs,r4,L,Cm,iH⟩:=hd.QE rfl (B':=0) (λb _=>gn b);have zy:=ajS s;have lD:=ajR s;obtain⟨C,w',dB,I,E,iI⟩:=ajN (P:=P) w 0 t U ty (tid .u8) i gq kH hi hz fE jN u l.length xs r4 s (by unfold maxLen;omega) (by omega) (gn _);have uO:(l++K7 s).length=l.length+s.size:=by rw[mK,lD]
 rw[<-uO]at I;have tj:=iH.append zy r4.1;have fA:kG C=true:=by rcases I.2 with ⟨rfl,_⟩|⟨_,_,_,rfl,_⟩<;>rfl
 have O:Below 0 w w':=(Below.refl 0 w).grown E (gn _) (λ_ _=>gn _);have ox:iF w0 w w':=⟨O.os,O.tape,O.output,O.size,λk D hL=>E.block k (jD D h.below.size) (λJ=>by
  rcases(h.cH k _ (L k J.symm)).1 with h1|h1
  ·exact absurd D (Nat.not_lt.2 h1)
  ·exact h1 hL)⟩
 by_cases Q:C.ownBlock=some w.heap.size
 ·have dn:w.heap.size<w'.heap.size:=by
   rcases I.2 with ⟨rfl,_⟩|⟨b,cap,cs,rfl,_,hh,_⟩
   ·cases Q
   ·have:b=w.heap.size:=by simpa [Value.ownBlock]using Q
    subst this;exact(fl.1 hh).1
  refine⟨C,w',bL ah w.heap.size (some [rr]),dB,h.ta hF ox ⟨E.size,λb hb Y=>E.block b hb (λJ=>Y (L b J.symm)),λb hb=>cu _ _ _ (by omega),λb hb=>(h.cH b [] hb).2.2 rfl⟩ (λb k hb D=>?_) (λr Z=>cu _ _ _ Z) (.sl C _ (bO _ _ _) (E2 I tj (λb hb=>?_))),fA⟩
  ·by_cases e:b=w.heap.size
   ·subst e;rw[bO]at D;injection D with D;subst D;exact⟨dn,by simp⟩
   ·rw[cu _ _ _ e]at D;have:=(h.cH b k D).2.1;omega
  ·rw[Q]at hb;injection hb with hb;subst hb;exact bO _ _ _
 ·have E4:C.ownBlock=u.ownBlock:=by
   rcases iI with iI|iI
   ·exact iI
   ·exact absurd iI Q
  refine⟨C,w',ah,dB,h.ta hF ox ⟨E.size,λb hb Y=>E.block b hb (λJ=>Y (L b J.symm)),λ_ _=>rfl,λb hb=>(h.cH b [] hb).2.2 rfl⟩ (λb k hb D=>?_) (λr Z=>cu _ _ _ Z) (.sl C _ (bO _ _ _) (E2 I tj (λb hb=>L b (by rw[<-E4];exact hb)))),fA⟩
  have:=(h.cH b k D).2.1;omega
end
def vg(l:aa (Int×Bool))(k:Int):Bool:=match l with
 |[]=>false
 |p::ps=>bif k==p.1 then p.2 else vg ps k
def qA(l:aa (Int×Bool))(k:Int)(v:Bool):aa (Int×Bool):=match l with
 |[]=>[(k,v)]
 |p::ps=>bif k==p.1 then (k,v)::ps else p::qA ps k v
def CH(P:Program)(t:TypeId):Bool:=match P.underlying t with
 | some (.map k e)=>(match P.underlying k with
  |some (.int .i64)=>true
  |_=>false)&&(match zeroOf P e with
  |some (.bool false)=>true
  |_=>false)
 |_=>false
def K8{X:Type}(N:Nat)(σ:S)(d:Nat)(k:S->aj X):aj X:=gV N σ d (.mp []) (.pk d oZ) k
def FI{X:Type}(P:Program)(σ:S)(t:TypeId)(x i:A)(k:A->aj X):aj X:=
 match x,i with
 | .pk r n,.lf (.v (.int .i64 key))=>bif Nat.beq n oZ&&CH P t then (match σ.m r with
  |some (.mp l)=>k (.lf (.v (.bool (vg l key))))
  |_=>none)else none
 |_,_=>none
def FJ{X:Type}(P:Program)(σ:S)(t:TypeId)(x i v:A)(k:S->aj X):aj X:=
 match x,i,v with
 | .pk r n,.lf (.v (.int .i64 key)),.lf (.v (.bool b))=>bif Nat.beq n oZ&&CH P t then (match σ.m r with
  |some (.mp l)=>k ⟨σ.t,bL σ.m r (some (.mp (qA l key b)))⟩
  |_=>none)else none
 |_,_,_=>none
section
variable {P:Program} {w w':World} {w0:Wd} {B N:Nat} {ah aD:bA} {ρ ρ':Nat->Loc} {σ:S} {a:Act} {X:Type} {d:Nat} {r:X} {o:Oper}
theorem YJ{t:TypeId}(h:CH P t=true):∃ k e i,P.underlying t=some (.map k e)/\P.underlying k=some (.int .i64)/\P.info? e=some i/\i.zero=some (.bool false):=by
 unfold CH at h;split at h
 ·rename_i k e I;rw[aK]at h;obtain⟨D,E⟩:=h;have J:P.underlying k=some (.int .i64):=by
   split at D
   ·assumption
   ·cases D
  have C:zeroOf P e=some (.bool false):=by
   split at E
   ·assumption
   ·cases E
  unfold zeroOf at C;cases hi:P.info? e with
  |none=>rw[hi]at C;cases C
  | some i=>
   rw[hi]at C;exact⟨k,e,i,I,J,hi,C⟩
 ·cases h
theorem Rl.newObj{D:Obj}{x:aP}{ρ':Nat->Loc}(h:Rl w0 N ah ρ σ a w)(E:w0.F d=none)(I:∀ r,r≠d->ρ' r=ρ r)
  (J:dH (w.alloc D) w0.heap.size (bL ah w.heap.size (some [d])) ρ' d x):Rl w0 N (bL ah w.heap.size (some [d])) ρ' ((σ.drop d).root d x) a (w.alloc D):=by
 refine h.ta E (iF.Xn w0 w _ h.below.size) ⟨by simp,λb hb _=>Below.heap_alloc w _ b hb,λb hb=>cu _ _ _ (by omega),λb hb=>(h.cH b [] hb).2.2 rfl⟩ (λb k hb C=>?_) I J
 by_cases e:b=w.heap.size
 ·subst e;rw[bO]at C;injection C with C;subst C;exact⟨by simp,by simp⟩
 ·rw[cu _ _ _ e]at C;have:=(h.cH b k C).2.1;omega
theorem ajT{t:TypeId}{k:S->aj X}(h:K8 N σ d k=some r):∃ C,k C=some r/\∀ ah ρ a w,Rl w0 N ah ρ σ a w->∃ w' aD ρ' v,(Instr.makeMap t none).run P w = .ok v w'/\Rl w0 N aD ρ' C (a.put (some d) v) w':=by
 obtain⟨D,h⟩:=oq h
 refine⟨_,h,λah ρ a w hR=>?_⟩
 have E:(Instr.makeMap t none).run P w = .ok (.map (some w.heap.size)) (w.alloc (.map #[] 0)):=rfl
 refine⟨_,bL ah w.heap.size (some [d]),bL ρ d (.ax w.heap.size 0),_,E,(hR.newObj (hR.dm d (.inl D)) (λr I=>cu _ _ _ I) ?_).set ⟨w.heap.size,bO _ _ _,(Qf _).symm⟩ D⟩
 exact .mp w.heap.size 0 #[] [] (bO _ _ _) (bO _ _ _) (heap_alloc_new w _) rfl
theorem ajU{k:S->aj X}(h:K8 N σ d k=some r):∃ C,k C=some r/\cx (λX k=>K8 (X:=X) N σ d k) C:=by
 obtain⟨D,E⟩:=vc h;exact⟨_,D,E⟩
def Aa(l:aa (Int×Bool)):aa (Value×Value):=l.map λp=>(.int .i64 p.1,.bool p.2)
theorem R6:∀ (C:aa MapEntry) (l:aa (Int×Bool)) (k:Int) (n:Nat),C.map (λe=>(e.key,e.val))=Aa l->
  (Instr.findNow (.int .i64) (.int .i64 k) C n=some none/\vg l k=false/\∀v,qA l k v=l++[(k,v)])\/
  (∃i b,Instr.findNow (.int .i64) (.int .i64 k) C n=some (some (n+i,.bool b))/\vg l k=b/\∃h:i<C.length,C[i].key = .int .i64 k/\∀v,Aa (qA l k v)=(C.modify i λe=>{ e with key:=.int .i64 k,val:=.bool v }).map (λe=>(e.key,e.val)))
 |[],[],k,n,_=>.inl ⟨rfl,rfl,λv=>rfl⟩
 |[],_::_,k,n,h=>by cases h
 |_::_,[],k,n,h=>by cases h
 | e :: C,p :: l,k,n,h=>by
  have h:(e.key,e.val) :: C.map (λe=>(e.key,e.val))=(.int .i64 p.1,.bool p.2) :: Aa l:=h;injection h with T O;injection T with D Q;have E:Instr.sameNow (.int .i64) (.int .i64 k) e.key=some (k==p.1):=by
   rw[D];simp[Instr.sameNow]
  cases hb:(k==p.1)with
  | true=>
   have U:k=p.1:=by simpa using hb
   refine .inr ⟨0,p.2,?_,by simp only[vg,hb,ak],by simp,by simp[D,U],λv=>?_⟩
   ·simp only[Instr.findNow,E,hb,Q];rfl
   ·simp only[qA,hb,ak];simp only[List.modify_zero_cons,ig];show (Value.int .i64 k,Value.bool v)::Aa l=_;rw[O]
  | false=>
   rcases R6 C l k (n+1) O with ⟨I,J,L⟩|⟨i,b,I,J,hi,L,a4⟩
   ·refine .inl ⟨?_,by simp only[vg,hb,aq,J],λv=>by simp only[qA,hb,aq,L];rfl⟩
    simp only[Instr.findNow,E,hb];exact I
   ·refine .inr ⟨i+1,b,?_,by simp only[vg,hb,aq,J],by simpa using hi,by simpa using L,λv=>?_⟩
    ·simp only[Instr.findNow,E,hb];rw[I];congr 3;omega
    ·simp only[qA,hb,aq];simp only[List.modify_succ_cons,ig];show (Value.int .i64 p.1,Value.bool p.2)::Aa (qA l k v)=_;rw[a4,D,Q]
theorem K9{kt:TypeId}{k:Int}{C:aa MapEntry}{z:aj (Nat×Value)}(D:P.underlying kt=some (.int .i64))(h:Instr.findNow (.int .i64) (.int .i64 k) C 0=some z):(Instr.findKey kt (.int .i64 k) C).run P w = .ok z w:=by
 unfold Instr.findKey;simp only[eC,gy D,iD,h];rfl
theorem YK{t:TypeId}{x i:A}{k:A->aj X}(h:FI P σ t x i k=some r):∃ v,k v=some r/\cx (λX k=>FI (X:=X) P σ t x i k) v/\∀ ah ρ a w,Rl w0 N ah ρ σ a w->∀ u z,RA w w0.heap.size ah ρ x u->RA w w0.heap.size ah ρ i z->
  ∃y,(Instr.lookup t u z false).run P w = .ok y w/\RA w w0.heap.size ah ρ v y:=by
 unfold FI at h;split at h
 ·rename_i rr n key;cases hb:(Nat.beq n oZ&&CH P t)with
  |false=>rw[hb]at h;cases h
  | true=>
   rw[hb,ak]at h;split at h
   ·rename_i l L
    refine⟨_,h,λX k=>by simp only[FI,hb,ak,L],λah ρ a w hR u z T D=>?_⟩
    rw[aK]at hb;obtain⟨kt,U,ti,Y,E,hi,Z⟩:=YJ hb.2;have hn:=bQ hb.1;subst hn;obtain⟨b,di,rfl⟩:=T;have D:z = .int .i64 key:=by
     have h2:=D.2;cases h2;rfl
    subst D;have O:=hR.root rr _ L;generalize C:aP.mp l=y at O;cases O with
    |ax=>cases C
    |sl=>cases C
    |gh=>cases C
    | mp b' c es l' Q hl hh La=>
     injection C with C;subst C;rw[di]at Q;injection Q with e1 _;subst e1;refine⟨.bool (vg l key),?_,rfl,.bool _ _⟩;rw[Qf];unfold Instr.lookup;simp only[eC,gy Y,iD,MapKept.run_getObj_map hh,Sem.run_pure];rw[MapKept.run_checkKey (k:=.int .i64 key) E rfl];simp only[iD];rcases R6 es.toList l key 0 La with ⟨I,J,_⟩|⟨i,v,I,J,_⟩
     ·rw[K9 E I];have zu:(zeroValue U).run P w = .ok (.bool false) w:=by simp[zeroValue,typeInfo,hi,Z]
      simp only[iD,J,eC,Sem.run_pure,zu];rfl
     ·rw[K9 E I];simp only[iD,J,eC,Sem.run_pure];rfl
   ·cases h
 ·cases h
theorem YL{t:TypeId}{x i v:A}{k:S->aj X}(h:FJ P σ t x i v k=some r):∃ O,k O=some r/\cx (λX k=>FJ (X:=X) P σ t x i v k) O/\∀ ah ρ a w,Rl w0 N ah ρ σ a w->∀ u z y,RA w w0.heap.size ah ρ x u->RA w w0.heap.size ah ρ i z->RA w w0.heap.size ah ρ v y->
  ∃w',(Instr.mapUpdate t u z y).run P w = .ok () w'/\Rl w0 N ah ρ O a w':=by
 unfold FJ at h;split at h
 ·rename_i rr n key Q;cases hb:(Nat.beq n oZ&&CH P t)with
  |false=>rw[hb]at h;cases h
  | true=>
   rw[hb,ak]at h;split at h
   ·rename_i l hm
    refine⟨_,h,λX k=>by simp only[FJ,hb,ak,hm],λah ρ a w hR u z y hu T C=>?_⟩
    rw[aK]at hb;obtain⟨kt,et,ti,ht,U,hi,hz0⟩:=YJ hb.2;have hn:=bQ hb.1;subst hn;obtain⟨b,Y,rfl⟩:=hu;have T:z = .int .i64 key:=by
     have Z:=T.2;cases Z;rfl
    subst T;have C:y = .bool Q:=by
     have Z:=C.2;cases Z;rfl
    subst C;have iz:=hR.root rr _ hm;generalize D:aP.mp l=y at iz;cases iz with
    |ax=>cases D
    |sl=>cases D
    |gh=>cases D
    | mp b' c es l' js hl J La=>
     injection D with D;subst D;rw[Y]at js;injection js with e1 _;subst e1;have KZ:b<w.heap.size:=(fl.1 J).1;have KO:∀ (E:Array MapEntry) (I:Nat),E.toList.map (λe=>(e.key,e.val))=Aa (qA l key Q)->Rl w0 N ah ρ ⟨σ.t,bL σ.m rr (some (.mp (qA l key Q)))⟩ a { w with heap:=w.heap.setIfInBounds b (.map E I) }:=by
      intro E I ajV;have hW:s8 w { w with heap:=w.heap.setIfInBounds b (.map E I) } b:=by
       refine⟨by simp,rfl,rfl,rfl,λk hk=>?_⟩
       show (w.heap.setIfInBounds b _)[k]?=_;rw[Array.getElem?_setIfInBounds_ne (Ne.symm hk)]
      have hC:qd w { w with heap:=w.heap.setIfInBounds b (.map E I) } ah ρ:=by
       intro k ad v ha hv fA;obtain⟨j',i',s',q,rfl,L,_,_,Ql⟩:=uE k ad ha;have dY:ad.block≠b:=by
        intro e;rw[e,hl]at L;injection L with L;obtain⟨v',nG⟩:=Ql rr L.symm;rw[Y]at nG;cases nG
       exact(jZ (hW.block _ dY)).trans hv
      refine hR.wrote hW hl hC λr' y C=>?_
      by_cases mS:r'=rr
      ·subst mS;rw[bO]at C;injection C with C;subst C;refine .mp b I E _ Y hl ?_ ajV;show (w.heap.setIfInBounds b _)[b]?=_;rw[Array.getElem?_setIfInBounds_self];simp[KZ]
      ·rw[cu _ _ _ mS]at C;exact(hR.root r' y C).wrote hW hl hC (Qj mS)
     rw[Qf];unfold Instr.mapUpdate;simp only[eC,gy ht,iD,MapKept.run_getObj_map J,Sem.run_pure];rw[MapKept.run_checkKey (k:=.int .i64 key) U rfl];simp only[iD];rcases R6 es.toList l key 0 La with ⟨a1,a2,a3⟩|⟨i,v,a1,a2,CD,a3,a4⟩
     ·rw[K9 U a1];simp only[iD];rw[MapKept.run_setObj_map _ J];refine⟨_,rfl,KO _ _ ?_⟩;rw[a3];simp only[Array.toList_push,List.map_append,La,Aa];rfl
     ·rw[K9 U a1];simp only[iD,eN];have RK:(es[i]?.map (·.key)).getD (.int .i64 key) = .int .i64 key:=by
       have h1:i<es.size:=by simpa using CD
       rw[Array.getElem?_eq_getElem h1]
       simpa using a3
      rw[RK];have kL:(Instr.keyThatStays (.int .i64 key) (.int .i64 key)).run P w = .ok (.int .i64 key) w:=by
       unfold Instr.keyThatStays;simp[Instr.sameBits]
      simp only[eC];rw[kL];simp only[iD];rw[MapKept.run_setObj_map _ J];refine⟨_,rfl,KO _ _ ?_⟩;rw[a4];simp
   ·cases h
 ·cases h
end
def FK(t:TypeId)(d:Nat)(x:Operand):Bool:=[(55,26,22)].any λ(p:Nat×Nat×Nat)=>Nat.beq p.1 t&&Nat.beq p.2.1 d&&(match x with
 |.tmp n=>Nat.beq n p.2.2 ||Nat.beq p.2.2 1000000
 |_=>false)
def Ab(C:aj Tmp)(t:TypeId)(x:Operand):Bool:=match C with
 |some d=>FK t d x
 |none=>false
def Ac{X:Type}(P:Program)(N:Nat)(σ:S)(d:Nat)(t:TypeId)(x y:A)(k:S->aj X):aj X:=
 match tf P t with
 | some (e,C)=>bif Nat.beq (full C) 0&&(zeroOf P e).any (λz=>Nat.beq z.cells.size (aC C))then o6 σ y λD=>(match D.Kj C with
  |none=>none
  | some l2=>match x with
   | .lf (.own [r])=>(match σ.m r with
    |some (.sl (.sl E (o+2) true l))=>if h:E=C then (bif !iR l2&&aT (l.length+l2.length)then gV N σ d (.sl (.sl C (o+2) false ((h ▸ l)++l2))) (.lf (.own [d])) k else none)else none
    |_=>none)
   |_=>none)else none
 |none=>none
section
variable {P:Program} {w w':World} {w0:Wd} {B N:Nat} {ah aD:bA} {ρ ρ':Nat->Loc} {σ:S} {a:Act} {X:Type} {d:Nat} {r:X}
theorem Rl.ajW{t e ty:TypeId}{C:TC}{i:TypeInfo}{z:Value}{rr o g:Nat}{qn:Bool}{l l2:aa (T C)}{u v:Value}{q':aa Nat}{Bx:Nat}{QF:bA}(h:Rl w0 N ah ρ σ a w)(hF:w0.F d=none)(Y:P.underlying t=some (.slice e))(ht:tid C=e)(hi:P.info? e=some i)(Z:i.zero=some z)
  (Q:i.size=aC C) (jN:i.bytes<=65536) (ov:z.cells.size=aC C) (hf:full C=0) (hd:RV w w0.heap.size ah [rr] (.sl C (o+2) true l) u) (hs:RV w Bx QF q' (.sl C g qn l2) v) (dY:l2≠[]) (hlen:l.length+l2.length<1073741824):
  ∃E w' aD,(Builtin.append_ #[t,t] ty #[u,v]).run P w = .ok E w'/\Rl w0 N aD (bL ρ d (.de E)) ((σ.drop d).root d (.sl (.sl C (o+2) false (l++l2)))) a w'/\kG E=true:=by
 subst ht;obtain⟨xs,I,axg,Cm,iH⟩:=hd.QE hf (B':=0) (λb _=>gn b);obtain⟨A,c,news,rfl,U,ow,zy⟩:=hs.reads hf;have iw:(l.length+l2.length)*i.bytes<=140737488355328:=by
  have h1:(l.length+l2.length)*i.bytes<=1073741824*65536:=Nat.mul_le_mul (by omega) jN;omega
 have r6:0<l2.length:=List.length_pos_iff.2 dY;obtain⟨E,w',dB,YM,YN,iI⟩:=O6 (P:=P) w 0 t ty (tid C) i z (aC C) i.bytes Y hi Z Q rfl ov (od C) u l.length xs I _ A l2.length c news U ow (by unfold maxLen;omega) iw (gn _);have uO:(l++l2).length=l.length+l2.length:=mK;have hex:∃ b,u = .slice (some ⟨b,0,none⟩) l.length l.length:=by
  cases hd with
  |aA _ _ _ _ _ _ _ _ _ ho=>omega
  |cV _ _ _ _ _ ho=>omega
  |own _ _ _ _ _ b cap cs us hl hh hs hn hm hc hr=>exact⟨b,by rw[hm.2 rfl]⟩
 obtain⟨b,rfl⟩:=hex;obtain⟨J,L,rfl,_,iQ⟩:=U.2 r6;have ajX:∀ j x,news[j]?=some x->w.cell? ((⟨J,L,none⟩:Addr).add j)=some x:=by
  intro j x hx;have Eg:(⟨J,L,none⟩:Addr).add j=⟨J,L+j,none⟩:=by unfold Addr.add;split<;>simp_all
  rw[Eg];exact iQ j x hx
 have YO:=run_append_grow (P:=P) w t ty (tid C) i z Y hi Z ⟨b,0,none⟩ l.length l.length xs (by rw[Q];exact I.1) (I.cells (g:=b) rfl) ⟨J,L,none⟩ l2.length c news (by rw[Q];exact U.1) ajX (by omega) (by omega) (growslice_fits (by omega) iw);rw[dB]at YO;injection YO with e1 e2;have hold:∀ k,k<w.heap.size->w'.heap[k]?=w.heap[k]?:=by
  intro k D;rw[e2];exact heap_alloc_old w.drew _ D
 have hvb:E.ownBlock=some w.heap.size:=by rw[e1];rfl
 have dn:w.heap.size<w'.heap.size:=by rw[e2];simp
 rw[<-uO]at YM;have tj:=iH.append zy I.1;have fA:kG E=true:=by rw[e1];rfl
 have O:Below 0 w w':=(Below.refl 0 w).grown YN (gn _) (λ_ _=>gn _);have ox:iF w0 w w':=⟨O.os,O.tape,O.output,O.size,λk D hL=>hold k (jD D h.below.size)⟩
 refine⟨E,w',bL ah w.heap.size (some [d]),dB,h.ta hF ox ⟨YN.size,λb hb _=>hold b hb,λb hb=>cu _ _ _ (by omega),λb hb=>(h.cH b [] hb).2.2 rfl⟩ (λb k hb D=>?_) (λr hr=>cu _ _ _ hr) (.sl E _ (bO _ _ _) (E2 YM tj (λb hb=>?_))),fA⟩
 ·by_cases e:b=w.heap.size
  ·subst e;rw[bO]at D;injection D with D;subst D;exact⟨dn,by simp⟩
  ·rw[cu _ _ _ e]at D;have:=(h.cH b k D).2.1;omega
 ·rw[hvb]at hb;injection hb with hb;subst hb;exact bO _ _ _
theorem ajY{t ty:TypeId}{x y:A}{k:S->aj X}(h:Ac P N σ d t x y k=some r):∃ O,k O=some r/\∀ ah ρ a w,Rl w0 N ah ρ σ a w->∀ u v,RA w w0.heap.size ah ρ x u->RA w w0.heap.size ah ρ y v->
  ∃w' aD ρ' z,(Builtin.append_ #[t,t] ty #[u,v]).run P w = .ok z w'/\Rl w0 N aD ρ' O (a.put (some d) z) w':=by
 unfold Ac at h;split at h
 ·rename_i e Q ot;obtain⟨gq,ht,i,hi,fE,jN⟩:=w8 ot;cases E:(Nat.beq (full Q) 0&&(zeroOf P e).any (λz=>Nat.beq z.cells.size (aC Q)))with
  |false=>rw[E]at h;cases h
  | true=>
   rw[E,ak]at h;rw[aK]at E;have hf:=bQ E.1;obtain⟨z,T,J⟩:=(Option.any_eq_true _ _).1 E.2;have J:=bQ J;have ou:i.zero=some z:=by unfold zeroOf at T;simpa [hi]using T
   obtain⟨yv,Km,C⟩:=Xq (w0:=w0) (N:=N) h;clear h;split at C
   ·cases C
   ·rename_i l2 lD;split at C
    ·rename_i rr;split at C
     ·rename_i t' o l hm;split at C
      ·rename_i kK;subst kK;cases I:(!iR l2&&aT (l.length+l2.length))with
       |false=>rw[I]at C;cases C
       | true=>
        rw[I,ak]at C;rw[aK]at I;have dY:l2≠[]:=by rintro rfl;cases I.1
        have E5:l.length+l2.length<1073741824:=by simpa [aT]using I.2
        obtain⟨U,h3⟩:=oq C
        refine⟨_,h3,λah ρ a w hR u v hu hv=>?_⟩
        obtain⟨q',_,_,L⟩:=Km ah ρ a w hR v hv;obtain⟨g,qn,L⟩:=QG lD L;have Y:=hR.root rr _ hm;generalize D:aP.sl (.sl t' (o+2) true l)=x at Y;cases Y with
        |ax=>cases D
        |mp=>cases D
        |gh=>cases D
        | sl uu y di hr=>
         injection D with D;subst D;have E0:uu=u:=by
          have Z:=hu.2;simp only[cm,di]at Z;injection Z
         subst E0;obtain⟨v',w',aD,dB,gf,fA⟩:=hR.ajW (ty:=ty) (d:=d) (hR.dm d (.inl U)) gq ht hi ou fE jN J hf hr L dY E5;exact⟨w',aD,_,v',dB,gf.set ⟨fA,by simp[cm,bO]⟩ U⟩
      ·cases C
     ·cases C
    ·cases C
 ·cases h
theorem ajZ{t:TypeId}{x y:A}{k:S->aj X}(h:Ac P N σ d t x y k=some r):∃ I,k I=some r/\cx (λX k=>Ac (X:=X) P N σ d t x y k) I:=by
 unfold Ac at h;split at h
 ·rename_i e J L;cases D:(Nat.beq (full J) 0&&(zeroOf P e).any (λz=>Nat.beq z.cells.size (aC J)))with
  |false=>rw[D]at h;cases h
  | true=>
   rw[D,ak]at h;obtain⟨yv,C,O⟩:=RL h;clear h;split at C
   ·cases C
   ·rename_i l2 Q;split at C
    ·rename_i rr;split at C
     ·rename_i t' o l T;split at C
      ·rename_i U;subst U;cases E:(!iR l2&&aT (l.length+l2.length))with
       |false=>rw[E]at C;cases C
       | true=>
        rw[E,ak]at C;obtain⟨Y,Z⟩:=vc C;exact⟨_,Y,λX k=>by
         simp only[Ac,L,D,ak];exact(O.at_ _).trans (by simp only[Q,T,aG,E,ak];exact Z X k)⟩
      ·cases C
     ·cases C
    ·cases C
 ·cases h
def xN{X:Type}(P:Program)(N:Nat)(σ:S)(d:Nat)(t:TypeId)(x y:A)(k:S->aj X):aj X:=
 match x with
 |.view q s i j=>zz P N σ d t (.view q s i j) y k
 |x=>Ac P N σ d t x y k
theorem aj0{t ty:TypeId}{x y:A}{k:S->aj X}(h:xN P N σ d t x y k=some r):∃ C,k C=some r/\∀ ah ρ a w,Rl w0 N ah ρ σ a w->∀ u v,RA w w0.heap.size ah ρ x u->RA w w0.heap.size ah ρ y v->
  ∃w' aD ρ' z,(Builtin.append_ #[t,t] ty #[u,v]).run P w = .ok z w'/\Rl w0 N aD ρ' C (a.put (some d) z) w':=by
 unfold xN at h;split at h
 ·exact ah5 h
 ·exact ajY h
theorem aj1{t:TypeId}{x y:A}{k:S->aj X}(h:xN P N σ d t x y k=some r):∃ C,k C=some r/\cx (λX k=>xN (X:=X) P N σ d t x y k) C:=by
 unfold xN at h;split at h
 ·obtain⟨C,D,E⟩:=ah6 h;exact⟨C,D,λX k=>by simp only[xN];exact E X k⟩
 ·obtain⟨C,D,E⟩:=ajZ h;exact⟨C,D,λX k=>by simp only[xN];exact E.at_ k⟩
end
end Go.Proofs.YtglnbhiaknohlaaGreat
