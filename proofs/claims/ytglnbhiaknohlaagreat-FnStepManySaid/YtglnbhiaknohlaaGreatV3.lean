/-
  Running the program over pure contents, and that it follows (part 3). Nothing here is a claim.
-/
import Derived.Lib.AppendStr
import Derived.MapKept
import Derived.Test.YtglnbhiaknohlaaGreatV2
set_option linter.unusedSimpArgs false
namespace Go.Proofs.YtglnbhiaknohlaaGreat
set_option linter.defProp false
open Go.RowKit
set_option linter.unusedVariables false
section
variable {P:Program} {w w':World} {w0:Wd} {B N:Nat} {aj dg aE:bG} {ρ eD ρ':Nat->Loc} {σ:S} {a:Act} {X:Type} {d:Nat} {r:X} {ns cn:aa Nat} {o:Oper} {rs:aa Nat} {en:aa (Nat×Nat)} {nm Ny:Nat->Nat} {c0:Nat}
def anD{C:ah Tmp}{D:fW}{k:S -> ah X}(h:mN N σ C D k=some r):∃ T,k T=some r /\ ∀ aj ρ a w v,Rl w0 N aj ρ σ a w -> q9 w w0.heap.size aj (λn=>iz C+n) D v -> ∃ ρ',Rl w0 N aj ρ' T (a.put C v) w /\ ∀ r,r<iz C -> ρ' r=ρ r:=by
 unfold mN at h;cases C with
 |none=>exact⟨σ,h,λaj ρ a w v hR _=>⟨ρ,hR,λ_ _=>rfl⟩⟩
 | some d=>
  have h:(bif Nat.blt d N then (match D with
   | .one p=>(match so (p.1,lu (1000000000100000+1000*d) p.2)with
    |some y=>k ((iH _ σ p.2).set d y)
    |none=>none)
   |.cR ps=>k ((lz _ σ ps).set d _))else none)=some r:=h
  cases I:Nat.blt d N with
  |false=>rw[I]at h;cases h
  | true=>
   rw[I,ak]at h;have U:d<N:=cL I;cases D with
   | one p=>
    simp only at h;split at h
    ·rename_i y hy
     refine⟨_,h,λaj ρ a w v hR J=>?_⟩
     obtain⟨ρ',L,O,_,Q⟩:=Hi [p] (1000000000100000+1000*d) 0 σ ρ [v] (by omega) hR J;have UR:=Q 0 _ v rfl rfl;exact⟨ρ',L.set (Up hy UR) U,O⟩
    ·cases h
   | cR wI=>
    refine⟨_,h,λaj ρ a w v hR J=>?_⟩
    obtain⟨E,rfl,hv⟩:=J;obtain⟨ρ',L,O,hlen,Q⟩:=Hi wI (1000000000100000+1000*d) 0 σ ρ E.toList (by omega) hR hv
    refine⟨ρ',L.set ⟨E,rfl,by simpa using hlen,λj p Y=>?_⟩ U,O⟩
    have Z:j<E.size:=by
     have:=(dW.1 Y).1
     grind
    exact⟨E[j],Array.getElem?_eq_getElem Z,Q j p _ Y (by rw[Array.getElem?_toList,Array.getElem?_eq_getElem Z])⟩
def Vo{f:Nat}{args:Array Operand}{jq:Array TypeId}{c:nM}{k:S -> ah X}(ho:o.op = .call { callee:=.value (.func f),args,argTypes:=jq })(he:enters P f)(hc:uS P f c)(h:l6 N σ o.dst c args.toList k=some r):∃ dR C cn,k dR=some r/\jr σ c.ps args.toList=some C/\(∀ n,cx n cn=true -> n<N \/ 60000 <= n)/\(∀ I∈C,cx I.root cn=false) /\
  ∀a w K Q aj ρ,Rl w0 N aj ρ σ a w -> (∀v w' dg eD uX,Rl w0 N dg uX dR (a.put o.dst v) w' -> rA w w' aj dg ρ eD ((kC 0 C).map (·.1)) cn -> ja w0 w w' -> (∀r,r<iz o.dst -> uX r=eD r) -> K (a.put o.dst v) w') -> o.wp P a w K Q:=by
 unfold l6 at h;split at h
 ·rename_i C tG;generalize abF:kC 0 C=en at h;cases l7:(once en&&Nat.ble C.length 40)with
  |false=>rw[l7]at h;cases h
  | true=>
   rw[l7,ak]at h;rw[aO]at l7;have aDc:=cL l7.2;have zc:∀ p∈kC 0 C,en.lookup p.1=some p.2:=by
    intro p hp;rw[abF]at hp;have:=cI.1 l7.1 p hp;obtain⟨n,J,he⟩:=(Option.any_eq_true _ _).1 this;simp_all
   obtain⟨x,T,hrel,aDd,mL⟩:=Nu (w0:=w0) (N:=N) _ _ C _ tG h;clear h;split at T
   ·rename_i y hy;unfold zf at T;generalize o9:nO (iz o.dst) (fe c.ro y.1).len C (iR (eH c.ps) y.2)=cn at T;generalize AU:en.map (·.1)=ns at T mL;cases iS:Bd N C (iR (eH c.ps) y.2) cn with
    |false=>rw[iS]at T;cases T
    | true=>
     rw[iS,ak]at T;simp only[Bd,aO]at iS;obtain⟨⟨⟨ok1,ok2⟩,ok3⟩,ok4⟩:=iS;obtain⟨dR,h3,Nz⟩:=anD (w0:=w0) T
     refine⟨dR,C,cn,h3,tG,λn J=>?_,λI nN=>by simpa using cI.1 ok2 I nN,λa w K Q aj ρ hR hK=>?_⟩
     ·have:=cI.1 ok3 n (tE.1 J);rw[eB]at this;rcases this with h | h
      ·exact .inl (by have:=cL h;omega)
      ·exact .inr (cL h)
     have Y:Bc ns aj (eG aj en id):=by rw[<- AU];exact anz (λb k hb=>(hR.cX b k hb).2.2)
     have abG:=Nt _ _ _ tG;let rs:=C.map Mu.root
     have nK:∀ j I,C[j]?=some I -> rs[0+j]?=some I.root:=by
      intro j I hj;rw[fj,dz,hj];rfl
     have hE:=Vg (rs:=rs) hR Y C (nL c.ps x) 0 zc nK abG hrel (by omega);have hA:=mL aj ρ a w (eG aj en id) (wH w ρ rs) hR Y (nL c.ps x) 0 (λj z O=>by rw[fj];exact O) (λj I hj=>by
      have h1:=nK j I hj;rw[fj]at h1 ⊢;exact Hs h1 (by have:=(dW.1 hj).1;omega))
     obtain⟨hA1,UD⟩:=DS.get _ _ hA;let nm:Nat -> Nat:=λn=>if n<(fe c.ro y.1).len then iz o.dst+n else (ze (iz o.dst) (fe c.ro y.1).len C).getD (n-(fe c.ro y.1).len) 0
     have qh:∀ (ps:aa PK) (i:Nat) (x:kB ps),(jP ps i x).length=ps.length:=by
      intro ps
      induction ps with
      |nil=>intro i x;rfl
      | cons p ps ih=>
       intro i x;cases p with
       |v=>exact bH (· + 1) (ih _ _)
       |p=>exact bH (· + 1) (ih _ _)
       |s=>exact bH (· + 1) (ih _ _)
     unfold Oper.wp;rw[Nl w o a f args jq ho he,Oper.upon_enter];have wD:(args.map a.eval)=(args.toList.map a.eval).toArray:=by apply Array.ext';rw[Array.toList_map]
     rw[wD];have NA:∀ b k,eG aj en id b=some k -> (∃ E,aj b=some E/\cF E ns=true)/\k≠[]:=by
      intro b k hb;cases hl:aj b with
      |none=>rw[Y.none b hl]at hb;cases hb
      | some E=>
       refine⟨⟨E,rfl,?_⟩,?_⟩
       ·cases hq:cF E ns with
        |true=>rfl
        |false=>rw[(Y.rest b E hl).2 hq]at hb;cases hb
       ·simp only[eG,hl]at hb;split at hb
        ·cases hb
        ·cases abH:en.lookup _ with
         |none=>rw[abH]at hb;cases hb
         |some n=>rw[abH]at hb;injection hb with hb;subst hb;simp
     have hQ:Hd w (eG aj en id):=w0.on hR.below (λb k hb=>by obtain⟨⟨E,hl,_⟩,_⟩:=NA b k hb;exact(hR.cX b E hl).1)
     refine(hc x y hy nm w (eG aj en id) (wH w ρ rs) _ hE (λb k hb=>⟨?_,(NA b k hb).2⟩) ?_ UD hQ).mono λe w' rm=>?_
     ·obtain⟨⟨E,hl,_⟩,_⟩:=NA b k hb;exact(hR.cX b E hl).2.1
     ·rw[List.size_toArray,hA1,qh]
     ·obtain⟨v,D,rfl,U,DV,jO,Vp⟩:=rm;have hB:=hR.below.size;let dg:bG:=λb=>match eG aj en id b with
       |none=>if b<w.heap.size then aj b else D b
       |some _=>D b
      have e1:∀ b k,D b=some k -> dg b=some k:=by
       intro b k hb;show (match eG aj en id b with|none=>if b<w.heap.size then aj b else D b|some _=>D b)=some k;split
       next Z=>have:=(DV b k hb).1;have p9:=this.resolve_right (λh=>h Z);rw[bM];exact hb
       ·exact hb
      have e2:∀ b,w.heap.size <= b -> dg b=D b:=by
       intro b hb;show (match eG aj en id b with|none=>if b<w.heap.size then aj b else D b|some _=>D b)=D b;split
       ·rw[bM]
       ·rfl
      have abI:∀ p∈sx w' ρ (iz o.dst) (fe c.ro y.1).len C (iR (eH c.ps) y.2),(sx w' ρ (iz o.dst) (fe c.ro y.1).len C (iR (eH c.ps) y.2)).lookup p.1=some p.2:=
       abz (by rw[Nw,o9];exact ok1)
      generalize Bh:sx w' ρ (iz o.dst) (fe c.ro y.1).len C (iR (eH c.ps) y.2)=hd at abI;have anE:hd.map (·.1)=cn:=by rw[<- Bh,Nw,o9]
      have hv:rA w w' aj dg ρ (abx hd ρ) ns cn:=by
       refine⟨U.size,λb hb hk=>?_,λn J=>?_,λb k hb=>(hR.cX b k hb).2⟩
       ·have Z:eG aj en id b=none:=by
         cases hl:aj b with
         |none=>exact Y.none b hl
         |some k=>exact(Y.rest b k hl).2 (hk k hl)
        refine⟨U.block b hb Z,?_⟩;show (match eG aj en id b with|none=>if b<w.heap.size then aj b else D b|some _=>D b)=aj b;rw[Z];exact bA hb
       ·show (match hd.lookup n with|some v=>Loc.dM v|none=>ρ n)=ρ n;rw[aby (by rw[anE];exact J)]
      have Bi:∀I∈C,cx I.root cn=false:=λI nN=>by simpa using cI.1 ok2 I nN
      have Hz:=Vk (c0:=iz o.dst) (nm:=nm) hR hv e1 e2 hB C (nL c.ps x) (iR (eH c.ps) y.2) 0 (fe c.ro y.1).len nK abG hrel (by omega) Vp (λk n J=>?_) (λp hp=>?_) Bi ok4
      ·have abJ:ja w0 w w':=by
        refine⟨U.os,U.tape,U.output,U.size,λk hk hL=>U.block k (kO hk hB) ?_⟩
        cases hl:aj k with
        |none=>exact Y.none k hl
        |some E=>exact absurd hL ((hR.cX k E hl).1.resolve_left (by omega))
       have oy:Rl w0 N dg (abx hd ρ) (σ.bE ns cn (lA ns cn (iz o.dst) (fe c.ro y.1).len C (iR (eH c.ps) y.2))) a w':=by
        refine hR.jd hv abJ (λb k hb=>?_) (λn J=>?_) (λn z O=>?_)
        ·have hb:(match eG aj en id b with | none=>if b<w.heap.size then aj b else D b | some _=>D b)=some k:=hb;have abK:D b=some k -> (w0.heap.size <= b \/ w0.L b≠none)/\b<w'.heap.size/\k≠[]:=by
          intro h1;obtain⟨g1,g2,g3⟩:=DV b k h1;refine⟨?_,g2,g3⟩;rcases g1 with g1|g1
          ·exact .inl (Nat.le_trans hB g1)
          ·cases Z:eG aj en id b with
           |none=>exact absurd Z g1
           | some k2=>
            obtain⟨⟨E,hl,_⟩,_⟩:=NA b k2 Z;exact(hR.cX b E hl).1
         split at hb
         ·split at hb
          ·have:=hR.cX b k hb;exact⟨this.1,kO this.2.1 U.size,this.2.2⟩
          ·exact abK hb
         ·exact abK hb
        ·have:=cI.1 ok3 n (tE.1 J);rw[eB]at this;refine hR.dx n ?_;rcases this with h | h
         ·exact .inl (by have:=cL h;omega)
         ·exact .inr (cL h)
        ·have yY:(n,z)∈lA ns cn (iz o.dst) (fe c.ro y.1).len C (iR (eH c.ps) y.2):=by
          clear Hz;generalize lA ns cn (iz o.dst) (fe c.ro y.1).len C (iR (eH c.ps) y.2)=l at O
          induction l with
          |nil=>cases O
          | cons p l ih=>
           rw[List.lookup_cons]at O;cases hb:n==p.1 with
           | true=>
            rw[hb]at O;have e:n=p.1:=by simpa using hb
            injection O with O;rw[e,<- O]
            grind
           | false=>
            rw[hb]at O;exact .tail _ (ih O)
         exact Hz (n,z) yY
       have anF:q9 w' w0.heap.size dg (λn=>iz o.dst+n) (fe c.ro y.1) v:=?_
       ·obtain⟨uX,HA,wJ⟩:=Nz dg _ a w' v oy anF;exact hK v w' dg _ uX HA (by rw[abF,AU];exact hv) abJ wJ
       have Vq:∀(L:Nat),L=(fe c.ro y.1).len -> ∀n,n<L -> nm n=iz o.dst+n:=λL hL n J=>bA
       generalize aDe:fe c.ro y.1=res at jO Vq;cases res with
       | one p=>
        have jO:jC w' w.heap.size D nm 0 [p] [v]:=jO;exact jC.Bg [p] 0 [v] jO hB e2 e1 (λn _ J=>Vq _ rfl n (by simpa [fW.len]using J))
       | cR wI=>
        obtain⟨vs,e,lT⟩:=jO;exact⟨vs,e,jC.Bg wI 0 vs.toList lT hB e2 e1 (λn _ J=>Vq _ rfl n (by simpa [fW.len]using J))⟩
      ·show (if (fe c.ro y.1).len+k<(fe c.ro y.1).len then iz o.dst+((fe c.ro y.1).len+k)else (ze _ (fe c.ro y.1).len C).getD ((fe c.ro y.1).len+k-(fe c.ro y.1).len) 0)=n;rw[bM,show (fe c.ro y.1).len+k-(fe c.ro y.1).len=k by omega,fk,J];rfl
      ·rw[Bh]at hp;show (match hd.lookup p.1 with|some v=>Loc.dM v|none=>ρ p.1) = .dM p.2;rw[abI p hp]
   ·cases T
 ·cases h
def anG{f:Nat}{args:Array Operand}{D:Array TypeId}{c:nM}{k:S -> ah X}(E:o.op = .call { callee:=.value (.func f),args,argTypes:=D })(I:enters P f)(J:uS P f c)(h:l6 N σ o.dst c args.toList k=some r):∃ C,k C=some r/\lS P w0 N o σ C:=by
 obtain⟨C,Z,cn,L,_,_,_,O⟩:=Vo E I J h
 refine⟨C,L,λa w K Q hR T=>?_⟩
 obtain⟨aj,ρ,hR⟩:=hR;exact O a w K Q aj ρ hR λv w' dg eD U Y _ _ _=>T _ _ ⟨dg,U,Y⟩
end
def dT:Nat:=89999
def qk(aj:bG)(k:aa Nat):bG:=λb=>match aj b with
 |some q=>bif k.isSuffixOf q then some (q.take (q.length-k.length)++[dT])else bif bK dT q then none else some q
 |none=>none
def NB(σ:S)(c:nM)(args:aa Operand)(q:Nat):Bool:=match jr σ c.ps args with
 |some C=>!cx q ((kC 0 C).map (·.1))&&C.any λD=>Nat.beq D.root dT
 |none=>false
def Bj{X:Type}(N:Nat)(σ:S)(E:ah Tmp)(c:nM)(args:aa Operand)(k:S->ah X):ah X:=
 match args with
 | .tmp t :: _=>(match σ.t t with
  | .lf (.own [j,i,s,q])=>(match σ.m q with
   | some (.sl (.sl C (o+2) I l))=>if s=aF C then (if hi:i<l.length then (match (enc C o l[i])[j]? with
    | some y=>bif Nat.ble N 20000&&Nat.ble 20000 q&&Nat.blt q 60000&&NB ((σ.bE [q,dT] [dT] [(dT,.sl y)]).set t (.lf (.own [dT]))) c args q then l6 N ((σ.bE [q,dT] [dT] [(dT,.sl y)]).set t (.lf (.own [dT]))) E c args λD=>(match D.m dT with
      | some (.sl J)=>(match dec C o (splice (enc C o l[i]) j [J])with
       |some e=>k ((D.drop dT).root q (.sl (.sl C (o+2) I (l.set i e))))
       |none=>none)
      |_=>none)else none
    |none=>none)else none)else none
   |_=>none)
  |_=>none)
 |_=>none
section
variable {P:Program} {w w':World} {w0:Wd} {B N:Nat} {aj dg aE:bG} {ρ eD ρ':Nat->Loc} {σ:S} {a:Act} {X:Type} {d:Nat} {r:X} {o:Oper} {K:aa Nat}
def NC{b:Nat}(h:aj b=none):qk aj K b=none:=by simp[qk,h]
def anH{b:Nat}{p:aa Nat}(h:aj b=some (p++K)):qk aj K b=some (p++[dT]):=by
 have C:K.isSuffixOf _=true:=List.isSuffixOf_iff_suffix.2 ⟨p,rfl⟩;simp[qk,h,C]
def Vr{b:Nat}{k:aa Nat}(h:aj b=some k)(C:¬ K <:+ k)(D:bK dT k=false):qk aj K b=some k:=by
 have C:K.isSuffixOf k=false:=by
  grind
 simp[qk,h,C,D]
def RV.cut{k:aa Nat}{x:V}{v:Value}(h:RV w B aj k x v):∀ p,k=p++K\/x.aD=true->RV w B (qk aj K) (p++[dT]) x v:=by
 induction h with
 |int=>exact λ_ _=>.int _ _ _
 |bool=>exact λ_ _=>.bool _ _
 |str=>exact λ_ _=>.str _ _
 |nil=>exact λ_ _=>.nil _
 |cS=>exact λ_ _=>.cS _ _ _
 |cZ=>exact λ_ _=>.cZ _ _ _ _ _ (by first|assumption|omega)
 |de=>exact λ_ _=>.de _ _ _ _ _ (by first|assumption|omega)
 | aD k t o J l b off cap u D hl hb L O E Q I=>
  exact λp _=>.aD _ _ _ _ _ _ _ _ u D (NC hl) hb L O E (λi h j x C=>(I i h j x C [] (.inr (jB t o l[i] D j x C))).key (jB t o l[i] D j x C))
 | own k t o J l b cap cs u hl T U Y Z E Q I=>
  intro p hp;have hp:k=p++K:=by
   rcases hp with hp|hp
   ·exact hp
   ·simp[V.aD]at hp;omega
  subst hp;exact .own _ _ _ _ _ _ _ cs u (anH hl) T U Y Z E (λi h j x C=>I i h j x C (j::i::aF t::p) (.inl rfl))
def RV.anI{k:aa Nat}{x:V}{v:Value}(h:RV w B aj k x v)(J:∀ b,aj b≠some [])(hk:((∀ p,¬ K <:+ p++k)/\bK dT k=false) \/ x.aD=true):RV w B (qk aj K) k x v:=by
 induction h with
 |int=>exact .int _ _ _
 |bool=>exact .bool _ _
 |str=>exact .str _ _
 |nil=>exact .nil _
 |cS=>exact .cS _ _ _
 |cZ=>exact .cZ _ _ _ _ _ (by first|assumption|omega)
 |de=>exact .de _ _ _ _ _ (by first|assumption|omega)
 | aD k t o L l b off cap u I hl hb O Q D T E=>
  exact .aD _ _ _ _ _ _ _ _ u I (NC hl) hb O Q D (λi h j x C=>E i h j x C (.inr (jB t o l[i] I j x C)))
 | own k t o L l b cap cs u hl U Y Z hm D T E=>
  have hk:(∀ p,¬ K <:+ p++k)/\bK dT k=false:=by
   rcases hk with hk|hk
   ·exact hk
   ·simp[V.aD]at hk;omega
  refine .own _ _ _ _ _ _ _ cs u (Vr hl (hk.1 []) hk.2) U Y Z hm D (λi h j x C=>E i h j x C (.inl ⟨λp=>?_,?_⟩))
  ·have:=hk.1 (p++[j,i,aF t]);simp_all
  ·have DW:k≠[]:=by rintro rfl;exact J b hl
   rw[M0 DW];simp_all
def Rl.anJ{t:Nat}{x:A}(h:Rl w0 N aj ρ σ a w)(D:RA w w0.heap.size aj ρ x (a.tmps.getD t undef)):Rl w0 N aj ρ (σ.set t x) a w:=by
 refine⟨h.below,h.cX,h.root,λk=>?_,h.size,h.defers,h.fix,h.dx⟩
 show RA w _ aj ρ (bW σ.t t x k) _;by_cases C:k=t
 ·subst C;rw[ck];exact D
 ·rw[cB _ _ _ C];exact h.tmp k
def Rl.anK{q:Nat}{x:aY}(h:Rl w0 N aj ρ σ a w)(E:eF w w0.heap.size aj ρ q x):Rl w0 N aj ρ (σ.root q x) a w:=by
 refine⟨h.below,h.cX,λr y C=>?_,h.tmp,h.size,h.defers,h.fix,h.dx⟩
 have C:bW σ.m q _ r=some y:=C;by_cases D:r=q
 ·subst D;rw[ck]at C;simp_all
 ·rw[cB _ _ _ D]at C;exact h.root r y C
def ja.anL(h:Rl w0 N aj ρ σ a w):ja w0 w w:=⟨rfl,rfl,rfl,eK _,λ_ _ _=>rfl⟩
def anM{f:Nat}{args:Array Operand}{jq:Array TypeId}{c:nM}{k:S -> ah X}(ho:o.op = .call { callee:=.value (.func f),args,argTypes:=jq })(he:enters P f)(hc:uS P f c)(h:Bj N σ o.dst c args.toList k=some r):∃ dR,k dR=some r/\lS P w0 N o σ dR:=by
 unfold Bj at h;split at h
 ·rename_i t rest mL;split at h
  ·rename_i j i s q ht;split at h
   ·rename_i E oo qn l hm;split at h
    ·rename_i hs;subst hs;split at h
     ·rename_i hi;split at h
      ·rename_i y hy;generalize anN:((σ.bE [q,dT] [dT] [(dT,.sl y)]).set t (.lf (.own [dT])))=rD at h;cases hb:(Nat.ble N 20000&&Nat.ble 20000 q&&Nat.blt q 60000&&NB rD c args.toList q)with
       |false=>rw[hb]at h;cases h
       | true=>
        rw[hb,ak]at h;simp only[aO]at hb;obtain⟨⟨⟨hN,wq⟩,q7⟩,ND⟩:=hb;have hN:=cL hN;have wq:=cL wq;have q7:q<60000:=cL q7;obtain⟨τ,mus,cn,T,tG,o9,Bi,Hj⟩:=Vo (w0:=w0) ho he hc h;clear h;unfold NB at ND;rw[tG]at ND;simp only[aO,gT]at ND;obtain⟨GX,hdT⟩:=ND;obtain⟨mu,nN,Vs⟩:=List.any_eq_true.1 hdT;have Vs:=cD Vs;have anO:cx dT cn=false:=by rw[<- Vs];exact Bi mu nN
        have anP:cx q cn=false:=by
         cases D:cx q cn with
         |false=>rfl
         |true=>have:=o9 q D;omega
        have Vt:q≠dT:=by unfold dT;omega
        split at T
        ·rename_i y' G3;split at T
         ·rename_i e Vu
          refine⟨_,T,λa w KK Q hR hK=>?_⟩
          obtain⟨aj,ρ,hR⟩:=hR;have eI:=hR.we;have anQ:w0.F dT=none:=hR.dx dT (.inr (by decide));have gF:=hR.root q _ hm;generalize D:aY.sl (.sl E (oo+2) qn l)=x at gF;cases gF with
          |aB=>cases D
          |mp=>cases D
          |gh=>cases D
          | sl v yq dj hr=>
           injection D with D;subst D;cases hr with
           |cS=>simp at hi
           |cZ=>simp at hi
           |de=>simp at hi
           |aD _ _ _ _ _ _ _ _ _ ho=>omega
           | own _ _ _ _ _ b cap cs u hl hh hs Y r9 hcc wm=>
            have hKv:uG σ.m [j,i,aF E,q] y:=.elem j i [q] E oo qn l y (.root q _ hm) hi hy;obtain⟨U,Nb,anR⟩:=hKv.ok hR.root;have wC:=hR.tmp t;rw[ht]at wC;have mI:a.tmps.getD t undef=U:=by
             have Z:=wC.2;rw[Nb]at Z;injection Z with Z;exact Z.symm
            have anS:U=u i j:=by
             have h3:cN w aj ρ [j,i,aF E,q]=some (u i j):=by
              rw[MR,AQ j i _ (show cN w aj ρ [q]=some (.slice (some ⟨b,0,none⟩) l.length cap) by simp[cN,dj]) hl];show w.cell? _=_;rw[cell_of_row w b _ cs _ _ hh];simp[*]
             rw[Nb]at h3;injection h3
            have gi:mF U=true:=by rw[<- mI];exact wC.1
            -- the state that the callee's caller sees
            have U4:∀ k:aa Nat,cF k [q,dT]=false -> bK q k=false/\bK dT k=false:=by
             intro k T;unfold cF at T;unfold bK;split at T
             next z L=>rw[L];have:=abr T;simp only[gf,List.not_mem_nil,not_or]at this;exact⟨by simpa using this.1,by simpa using this.2⟩
             next L=>rw[L];exact⟨rfl,rfl⟩
            have hKq:∀ k:aa Nat,[j,i,aF E,q] <:+ k -> bK q k=true:=by
             rintro k ⟨p,rfl⟩;simp[bK]
            have G7:rA w w aj (qk aj [j,i,aF E,q]) ρ (bW ρ dT (.dM U)) [q,dT] [dT]:=by
             refine⟨eK _,λI HB C=>⟨rfl,?_⟩,λn Y=>?_,λI k C=>(hR.cX I k C).2⟩
             ·cases J:aj I with
              |none=>exact NC J
              | some k=>
               obtain⟨g1,g2⟩:=U4 k (C k J);exact Vr J (λnG=>by rw[hKq k nG]at g1;cases g1) g2
             ·refine cB _ _ _ ?_;rintro rfl;simp[cx]at Y
            have uO:∀ I k,qk aj [j,i,aF E,q] I=some k -> (∃ O,aj I=some O)/\k≠[]:=by
             intro I k C;cases J:aj I with
             |none=>rw[NC J]at C;cases C
             | some O=>
              refine⟨⟨O,rfl⟩,?_⟩;unfold qk at C;rw[J]at C;simp only at C;cases h1:List.isSuffixOf [j,i,aF E,q] O with
              | true=>
               rw[h1,ak]at C;injection C with C;rw[<- C];simp
              | false=>
               rw[h1,au]at C;cases Z:bK dT O with
               |true=>rw[Z,ak]at C;cases C
               | false=>
                rw[Z,au]at C;injection C with C;rw[<- C];exact(hR.cX I O J).2.2
            have sy:Rl w0 N (qk aj [j,i,aF E,q]) (bW ρ dT (.dM U)) (σ.bE [q,dT] [dT] [(dT,.sl y)]) a w:=by
             refine hR.jd G7 (ja.anL hR) (λI k C=>?_) (λn Y=>?_) (λn z L=>?_)
             ·obtain⟨⟨O,J⟩,DW⟩:=uO I k C;have:=hR.cX I O J;exact⟨this.1,this.2.1,DW⟩
             ·have:n=dT:=by simpa [cx]using Y
              rw[this];exact anQ
             ·have Y:n=dT/\z = .sl y:=by
               rw[List.lookup_cons]at L;cases DX:(n==dT)with
               |false=>rw[DX]at L;cases L
               | true=>
                rw[DX]at L;injection L with L;exact⟨by simpa using DX,L.symm⟩
              obtain⟨rfl,rfl⟩:=Y;exact .sl U y (ck _ _ _) (anR.cut [] (.inl rfl))
            have oy:Rl w0 N (qk aj [j,i,aF E,q]) (bW ρ dT (.dM U)) rD a w:=by
             rw[<- anN];refine sy.anJ ?_;rw[mI];exact⟨gi,by simp only[cN,ck]⟩
            refine Hj a w KK Q _ _ oy λvv w' dg eD uX HA wA su wJ=>?_
            -- behind the call
            have tD:90000 <= iz o.dst:=by unfold iz;split<;>omega
            have anT:uX dT = .dM U:=by
             rw[wJ dT (by unfold dT;omega),wA.eC dT anO,ck]
            have anU:uX q = .dM (.slice (some ⟨b,0,none⟩) l.length cap):=by
             rw[wJ q (by omega),wA.eC q anP,cB _ _ _ Vt,dj]
            have gF:=HA.root dT _ G3;generalize D:aY.sl y'=x at gF;cases gF with
            |aB=>cases D
            |mp=>cases D
            |gh=>cases D
            | sl v' y'' mH gY=>
             injection D with D;subst D;rw[anT]at mH;injection mH with mH;subst mH;have Vv:=HA.we;have hrel:Rel dT dg (dg.gZ dT [j,i,aF E,q]):=GU Vv;have abL:bK dT [q]=false:=by simpa [bK]using λe=>Vt e
             have DV:qk aj [j,i,aF E,q] b=some [q]:=Vr hl (λnG=>by have:=nG.length_le;simp at this) abL;have anV:cF [q] ((kC 0 mus).map (·.1))=false:=GX;obtain⟨g1,g2⟩:=wA.same b (wA.aj b _ DV).1 (λk C=>by rw[DV]at C;injection C with C;subst C;exact anV);have anW:dg b=some [q]:=g2.trans DV;have anX:dg.gZ dT [j,i,aF E,q] b=some [q]:=hrel.fV b _ anW abL;have hR4:=HA.rel hrel (λI k C=>by
              unfold bG.gZ at C;cases J:dg I with
              |none=>rw[J]at C;cases C
              | some O=>
               rw[J]at C;injection C with C;subst C;exact⟨⟨O,rfl⟩,aaS (by simp) (λe=>Vv I (by rw[J,e]))⟩)
             refine hK _ _ ⟨_,uX,hR4.anK (.sl _ _ anU ?_)⟩;have hj:j<aF E:=by
              have:=(dW.1 hy).1
              rwa [ku]at this
             refine RV.MT (w':=w') (cs:=cs) (xs:=[y']) (u:=u) (us:=u) anX (g1.trans hh) hs Y r9 hi (show j+1 <= aF E from hj) Vu (λi' HC j' x D hij=>⟨hcc i' HC j' x D,?_⟩) (λn x D=>?_)
             ·have Vw:=wm i' HC j' x D;have anY:¬ (i'=i/\j'=j):=λe=>hij ⟨e.1,by simp;omega⟩
              have abM:bK dT [j',i',aF E,q]=false:=by simpa [bK]using λe=>Vt e
              have a1:=Vw.anI (K:=[j,i,aF E,q]) eI (.inl ⟨λp nG=>?_,abM⟩)
              ·have a2:=a1.jd wA (.inl (by simpa [cF]using GX));exact a2.rel hrel (.inl abM)
              ·have e1:[j,i,aF E,q]=[j',i',aF E,q]:=Uj nG ⟨p,rfl⟩ rfl;injection e1 with e1 e2;injection e2 with e2 e3;exact anY ⟨e2.symm,e1.symm⟩
             ·cases n with
              | zero=>
               simp only[List.getElem?_cons_zero,iE]at D;subst D;refine⟨hcc i hi j y hy,?_⟩;have:=gY.gZ (q:=dT) (nk:=[j,i,aF E,q]) Vv;rw[aaR,anS]at this;exact this
              |succ n=>simp at D
         ·cases T
        ·cases T
      ·cases h
     ·cases h
    ·cases h
   ·cases h
  ·cases h
 ·cases h
def anZ{E:ah Tmp}{c:nM}{args:aa Operand}{k:S -> ah X}(I:∀ {X:Type} {σ:S} {k:S -> ah X} {r:X},l6 N σ E c args k=some r -> ∃ C,k C=some r /\ ∀ (X:Type) (k:S -> ah X),l6 N σ E c args k=k C)(h:Bj N σ E c args k=some r):
  ∃C,k C=some r /\ ∀(X:Type) (k:S -> ah X),Bj N σ E c args k=k C:=by
 unfold Bj at h;split at h
 ·rename_i t rest;split at h
  ·rename_i j i s q J;split at h
   ·rename_i Z oo qn l L;split at h
    ·rename_i O;split at h
     ·rename_i hi;split at h
      ·rename_i y Q;generalize hb:(Nat.ble N 20000&&Nat.ble 20000 q&&Nat.blt q 60000&&NB ((σ.bE [q,dT] [dT] [(dT,.sl y)]).set t (.lf (.own [dT]))) c (.tmp t :: rest) q)=b at h;cases b with
       |false=>cases h
       | true=>
        rw[ak]at h;obtain⟨C,D,T⟩:=I h;split at D
        ·rename_i y' U;split at D
         ·rename_i e Y;exact⟨_,D,λX k=>by
           simp[Bj,J,L,O,if_true,hi,aA,Q];rw[hb,ak,T];simp[U,Y]⟩
         ·cases D
        ·cases D
      ·cases h
     ·cases h
    ·cases h
   ·cases h
  ·cases h
 ·cases h
end
def cA{α:Type}(f:(X:Type)->(α->ah X)->ah X)(y:α):Prop:=∀(X:Type) (k:α->ah X),f X k=k y
section
variable {P:Program} {N:Nat} {σ:S} {X:Type} {r:X} {d:Nat} {m:Nat->ah aY} {o:Oper}
def sA:∀ (q:aa Nat) (k:V->ah X),gz m q k=some r->∃ y,k y=some r/\uG m q y/\cA (λX k=>gz (X:=X) m q k) y
 |[],_,h=>by simp[gz]at h
 | [x],k,h=>by
  simp only[gz]at h;split at h
  next y D=>exact⟨y,h,.root x y D,λX k=>by simp only[gz,D]⟩
  ·cases h
 |[_,_],_,h=>by simp[gz]at h
 | j :: i :: s :: q,k,h=>by
  simp only[gz]at h;obtain⟨y,C,I,J⟩:=sA q _ h;clear h;split at C
  ·split at C
   ·rename_i L;subst L;split at C
    ·rename_i hi;split at C
     ·rename_i z E;exact⟨z,C,.elem j i q _ _ _ _ z I hi E,λX k=>by
       simp only[gz];exact(J X _).trans (by simp only[if_true,aA hi,E])⟩
     ·cases C
    ·cases C
   ·cases C
  ·cases C
def DY{x:Lf}{k:V->ah X}(h:iF σ x k=some r):∃ y,k y=some r/\cA (λX k=>iF (X:=X) σ x k) y:=by
 cases x with
 |v z=>exact⟨z,h,λX k=>rfl⟩
 |own q=>obtain⟨y,C,_,D⟩:=sA q k h;exact⟨y,C,D⟩
 |dead=>cases h
def abN{q:aa Nat}{s i j:Nat}{k:V -> ah X}(h:tq σ q s i j k=some r):∃ y,k y=some r/\cA (λX k=>tq (X:=X) σ q s i j k) y:=by
 obtain⟨y,C,_,D⟩:=sA q _ h;split at C
 ·rename_i z E;exact⟨z,C,λX k=>by
   exact(D X _).trans (by simp[E])⟩
 ·cases C
def Vx{x:A}{k:V->ah X}(h:qa σ x k=some r):∃ y,k y=some r/\cA (λX k=>qa (X:=X) σ x k) y:=by
 unfold qa at h;split at h
 ·exact DY h
 ·exact abN h
 ·cases h
def Vy{x:A}{k:V->ah X}(h:vK x k=some r):∃ y,k y=some r/\cA (λX k=>vK (X:=X) x k) y:=by
 obtain⟨y,rfl,h⟩:=MV h;exact⟨y,h,λX k=>rfl⟩
def an0{ty:TypeId}{op:BinOp}{x y:V}{k:V -> ah X}(h:nH P ty op x y k=some r):∃ z,k z=some r/\cA (λX k=>nH (X:=X) P ty op x y k) z:=by
 unfold nH at h;split at h
 ·rename_i L a O b;split at h
  ·split at h
   ·cases h
   next hb=>exact⟨_,h,λX k=>by simp[nH,bM hb]⟩
  ·split at h
   ·cases h
   next hb=>exact⟨_,h,λX k=>by simp[nH,bM hb]⟩
  ·rename_i E I;split at h
   ·rename_i J;subst J;cases op
    case shl=>exact absurd rfl E
    case shr=>exact absurd rfl I
    case quo=>
     by_cases hb:b=0
     ·simp only[hb]at h;cases h
     ·simp[hb]at h;exact⟨_,h,λX k=>by simp[nH,if_true,bM hb]⟩
    case rem=>
     by_cases hb:b=0
     ·simp only[hb]at h;cases h
     ·simp[hb]at h;exact⟨_,h,λX k=>by simp[nH,if_true,bM hb]⟩
    all_goals first
     |(refine⟨_,h,λX k=>?_⟩;simp[nH,if_true];done)
     |cases h
   ·cases h
 ·split at h
  ·rename_i D;split at h
   ·exact⟨_,h,λX k=>by simp[nH,D]⟩
   ·exact⟨_,h,λX k=>by simp[nH,D]⟩
   ·cases h
  ·cases h
 ·rename_i a b;split at h
  ·cases C:bC (a.size+b.size)with
   |false=>rw[C]at h;cases h
   |true=>rw[C]at h;exact⟨_,h,λX k=>by simp[nH,C,ak]⟩
  ·exact⟨_,h,λX k=>by simp only[nH]⟩
  ·exact⟨_,h,λX k=>by simp only[nH]⟩
  ·cases h
 ·cases h
def an1{op:BinOp}{t:TypeId}{x y:A}{k:A -> ah X}(h:mJ P σ op t x y k=some r):∃ z,k z=some r/\cA (λX k=>mJ (X:=X) P σ op t x y k) z:=by
 unfold mJ at h;split at h
 ·rename_i E cs L C;split at h
  ·rename_i xs ys T U;generalize Y:(P.eqGuardType P.depth t || !isStr P t)=g at h;cases g with
   |true=>cases h
   | false=>
    rw[au]at h;split at h
    next b hb=>exact⟨_,h,λX k=>by simp[mJ,C,T,U,Y,au,hb]⟩
    ·cases h
  ·cases h
 ·rename_i E l C;split at h
  ·rename_i e I;obtain⟨z,D,J⟩:=DY h;clear h;split at D
   ·exact⟨_,D,λX k=>by
     simp[mJ,C,I];exact J X _⟩
   ·exact⟨_,D,λX k=>by
     simp[mJ,C,I];exact J X _⟩
   ·rename_i t' o' Z;cases hl:jc Z with
    |true=>rw[hl]at D;cases D
    | false=>
     rw[hl,au]at D;exact⟨_,D,λX k=>by
      simp[mJ,C,I];exact(J X _).trans (by simp[hl,au])⟩
   ·cases D
  ·cases h
 ·rename_i O Q _ _ _ h1 h2';obtain⟨u0,k1,NF⟩:=Vy h;obtain⟨v0,k2,hd2⟩:=Vy k1;obtain⟨z,k3,HD⟩:=an0 k2
  refine⟨_,k3,λX k=>?_⟩
  have e1:mJ P σ op t O Q k=vK O λa=>vK Q λb=>nH P t op a b λz=>k (.lf (.v z)):=by
   unfold mJ;split
   next E cs L C=>exact(h1 E cs L C rfl rfl).elim
   next E l C=>exact(h2' E l C rfl rfl).elim
   ·rfl
  exact e1.trans ((NF _ _).trans ((hd2 _ _).trans (HD _ _)))
def an2{op:UnOp}{x:V}{k:V->ah X}(h:DC op x k=some r):∃ z,k z=some r/\cA (λX k=>DC (X:=X) op x k) z:=by
 unfold DC at h;split at h
 ·exact⟨_,h,λX k=>rfl⟩
 ·exact⟨_,h,λX k=>rfl⟩
 ·cases h
def wK{t:TypeId}{cs:aa Lf}{k:A -> ah X}(h:kY P t cs k=some r):∃ y,k y=some r/\cA (λX k=>kY (X:=X) P t cs k) y:=by
 unfold kY at h;split at h
 ·rename_i n D;split at h
  ·rename_i hl;split at h
   next C=>exact⟨_,h,λX k=>by simp[kY,D,bA hl,C]⟩
   ·rename_i C;split at h
    ·exact⟨_,h,λX k=>by simp only[kY,D,bA hl,C]⟩
    ·cases h
   ·cases h
  ·cases h
 ·cases h
def HE{t:TypeId}{x:A}{k:A -> ah X}(h:jn P σ t x k=some r):∃ y,k y=some r/\cA (λX k=>jn (X:=X) P σ t x k) y:=by
 unfold jn at h;split at h
 ·cases h
 ·rename_i n D;split at h
  ·split at h
   next cs I=>obtain⟨y,E,C⟩:=wK h;exact⟨y,E,λX k=>by simp[jn,D,I];exact C X k⟩
   ·cases h
  ·obtain⟨y,E,C⟩:=wK h;exact⟨y,E,λX k=>by simp only[jn,D];exact C X k⟩
  ·rename_i j i s q;obtain⟨z,C,_,J⟩:=sA _ _ h;clear h;split at C
   ·split at C
    ·rename_i L;split at C
     ·rename_i hi;obtain⟨y,O,Q⟩:=wK C;exact⟨y,O,λX k=>by
       simp[jn,D];exact(J X _).trans (by simp[bA L,aA hi];exact Q X k)⟩
     ·cases C
    ·cases C
   ·cases C
  ·cases h
def an3{s:TypeId}{x:A}{f:Nat}{k:A -> ah X}(h:uL P s x f k=some r):∃ y,k y=some r/\cA (λX k=>uL (X:=X) P s x f k) y:=by
 unfold uL at h;split at h
 ·cases h
 ·rename_i E C;split at h
  ·rename_i n D;split at h
   ·exact⟨_,h,λX k=>by simp[uL,C,D]⟩
   ·exact⟨_,h,λX k=>by simp[uL,C,D]⟩
   ·exact⟨_,h,λX k=>by simp[uL,C,D]⟩
   ·cases h
  ·cases h
def an4{t:TypeId}{x i:A}{k:A -> ah X}(h:oX P σ t x i k=some r):∃ y,k y=some r/\cA (λX k=>oX (X:=X) P σ t x i k) y:=by
 unfold oX at h;split at h
 ·cases h
 ·rename_i e I;split at h
  ·rename_i n U iv J;split at h
   ·rename_i Q g T l;split at h
    ·rename_i D;cases L:Nat.blt g 2 with
     |false=>rw[L]at h;cases h
     | true=>
      rw[L,ak]at h;split at h
      next hb=>exact⟨_,h,λX k=>by simp[oX,I,J,bA D,L,ak,aA hb]⟩
      ·cases h
    ·cases h
   ·rename_i q;obtain⟨z,C,_,O⟩:=sA _ _ h;clear h;split at C
    ·split at C
     ·rename_i D;split at C
      ·rename_i hb;rename_i Q g T l _;cases E:Nat.blt g 2 with
       | true=>
        rw[E,ak]at C;exact⟨_,C,λX k=>by
         simp[oX,I,J];exact(O X _).trans (by simp[bA D,aA hb,E,ak])⟩
       | false=>
        rw[E,au]at C;exact⟨_,C,λX k=>by
         simp[oX,I,J];exact(O X _).trans (by simp[bA D,aA hb,E,au])⟩
      ·cases C
     ·cases C
    ·cases C
   ·cases h
  ·cases h
def an5{t:TypeId}{x:A}{k:A -> ah X}(h:qZ P σ t x k=some r):∃ y,k y=some r/\cA (λX k=>qZ (X:=X) P σ t x k) y:=by
 unfold qZ at h;split at h
 ·obtain⟨z,C,E⟩:=DY h;split at C
  ·split at C
   next D=>exact⟨_,C,λX k=>by simp;exact(E X _).trans (by simp[D])⟩
   ·cases C
  ·split at C
   next D=>exact⟨_,C,λX k=>by simp;exact(E X _).trans (by simp[D])⟩
   ·cases C
  ·split at C
   next D=>exact⟨_,C,λX k=>by simp;exact(E X _).trans (by simp[D])⟩
   ·cases C
  ·cases C
 ·split at h
  next D=>exact⟨_,h,λX k=>by simp[qZ,D]⟩
  ·cases h
 ·cases h
def an6{x:A}{i:Nat}{k:A -> ah X}(h:v8 x i k=some r):∃ y,k y=some r/\cA (λX k=>v8 (X:=X) x i k) y:=by
 unfold v8 at h;split at h
 ·split at h
  next y C=>exact⟨y,h,λX k=>by simp[v8,C]⟩
  ·cases h
 ·cases h
def an7{t:TypeId}{parts:aa (Nat×Operand)}{k:A -> ah X}(h:uP P σ t parts k=some r):∃ y,k y=some r/\cA (λX k=>uP (X:=X) P σ t parts k) y:=by
 unfold uP at h;split at h
 ·rename_i z pl C D;split at h
  next cs E=>exact⟨_,h,λX k=>by simp[uP,C,D,E]⟩
  ·cases h
 ·cases h
def an8{s:TypeId}{x:A}{f:Nat}{k:A -> ah X}(h:yQ P s x f k=some r):∃ y,k y=some r/\cA (λX k=>yQ (X:=X) P s x f k) y:=by
 unfold yQ at h;split at h
 ·rename_i L cs E;split at h
  ·rename_i n C D;split at h
   next I=>exact⟨_,h,λX k=>by simp[yQ,E,C,D,bA I]⟩
   ·cases h
  ·rename_i n C D;split at h
   next y J=>exact⟨_,h,λX k=>by simp[yQ,E,C,D,J]⟩
   ·cases h
  ·cases h
 ·cases h
def abO{C:Bool}{x y:A}{k:A->ah X}(h:A8 C x y k=some r):∃ z,k z=some r/\cA (λX k=>A8 (X:=X) C x y k) z:=by
 unfold A8 at h;split at h
 ·exact⟨_,h,λX k=>rfl⟩
 ·cases h
def an9{t:TypeId}{x i:A}{k:A -> ah X}(h:A9 P t x i k=some r):∃ z,k z=some r/\cA (λX k=>A9 (X:=X) P t x i k) z:=by
 unfold A9 at h;split at h
 ·split at h
  ·rename_i C;split at h
   next hb=>exact⟨_,h,λX k=>by simp[A9,C,aA hb]⟩
   ·cases h
  ·cases h
 ·cases h
def aoa{D E:TypeId}{z:V}{k:A -> ah X}(h:wz P D E z k=some r):∃ y,k y=some r/\cA (λX k=>wz (X:=X) P D E z k) y:=by
 unfold wz at h;split at h
 ·cases C:yS P D E with
  |false=>simp_all
  |true=>rw[C]at h;exact⟨_,h,λX k=>by simp[wz,C,ak]⟩
 ·cases C:yS P D E with
  |false=>simp_all
  |true=>rw[C]at h;exact⟨_,h,λX k=>by simp[wz,C,ak]⟩
 ·cases h
def aob{C D:TypeId}{x:A}{k:A -> ah X}(h:oq P σ C D x k=some r):∃ z,k z=some r/\cA (λX k=>oq (X:=X) P σ C D x k) z:=by
 unfold oq at h;split at h
 ·split at h
  next T U I E=>exact⟨_,h,λX k=>by simp[oq,I,E]⟩
  ·cases h
 ·rename_i y Y;obtain⟨z,E,J⟩:=DY h;obtain⟨L,O,Q⟩:=aoa E
  refine⟨_,O,λX k=>?_⟩
  have:oq P σ C D (.lf y) k=iF σ y λz=>wz P C D z k:=by
   unfold oq;simp_all
  show oq P σ C D (.lf y) k=k L;rw[this];exact(J X _).trans (Q X k)
 ·cases h
def cA.at_{α:Type}{f:(X:Type)->(α->ah X)->ah X}{y:α}(h:cA f y){X:Type}(k:α->ah X):f X k=k y:=h X k
def wL{x:aY}{y:A}{k:S -> ah X}(h:iw N σ d x y k=some r):k (((σ.drop d).root d x).set d y)=some r/\cA (λX k=>iw (X:=X) N σ d x y k) (((σ.drop d).root d x).set d y):=by
 unfold iw at h;cases C:Nat.blt d N with
 |false=>simp_all
 |true=>rw[C]at h;exact⟨h,λX k=>by simp[iw,C,ak]⟩
def abP{e:TypeId}{k:S -> ah X}(h:sq P N σ d e k=some r):∃ x y,k (((σ.drop d).root d x).set d y)=some r/\y = .aG d 0/\(∀ (C:S),cA (λX k=>sq (X:=X) P N C d e k) (((C.drop d).root d x).set d y)):=by
 unfold sq at h;split at h
 ·rename_i z D;obtain⟨E,_⟩:=wL h
  refine⟨_,_,E,rfl,λC X k=>?_⟩
  obtain⟨I,_⟩:=oY h;have hb:Nat.blt d N=true:=iD I;simp[sq,D,iw,hb,ak]
 ·cases h
def Vz{t:TypeId}{l c:A}{k:S -> ah X}(h:A0 P N σ d t l c k=some r):∃ y,k (((σ.drop d).root d (.sl y)).set d (.lf (.own [d])))=some r/\(∀ (C:S),cA (λX k=>A0 (X:=X) P N C d t l c k) (((C.drop d).root d (.sl y)).set d (.lf (.own [d])))):=by
 unfold A0 at h;split at h
 ·rename_i e O Q n T c D;split at h
  ·cases h
  ·rename_i z E;split at h
   ·rename_i hb;obtain⟨I,_⟩:=wL h
    refine⟨_,I,λC X k=>?_⟩
    obtain⟨J,_⟩:=oY h;have L:Nat.blt d N=true:=iD J;simp[A0,D,E,bA hb,iw,L,ak]
   ·cases h
 ·cases h
def VA{t:TypeId}{len:Nat}{parts:aa (Nat×Operand)}{k:S -> ah X}(h:A6 P N σ d t len parts k=some r):∃ y,k (((σ.drop d).root d (.sl y)).set d (.lf (.own [d])))=some r /\
  (∀(C:S),(∀p∈parts,aI C p.2=aI σ p.2) -> cA (λX k=>A6 (X:=X) P N C d t len parts k) (((C.drop d).root d (.sl y)).set d (.lf (.own [d])))):=by
 unfold A6 at h;split at h
 ·rename_i e D I;split at h
  ·rename_i z J;cases E:(Nat.beq (full D) 0&&Nat.beq z.cells.size (aF D)&&Nat.blt (len*aF D) 16777217)with
   |false=>simp_all
   | true=>
    rw[E,ak]at h;split at h
    ·rename_i cs L;split at h
     ·rename_i vs O;split at h
      ·rename_i l hl;obtain⟨Q,_⟩:=wL h
       refine⟨_,Q,λC T X k=>?_⟩
       obtain⟨U,_⟩:=oY h;have Y:Nat.blt d N=true:=iD U;have e:(parts.map λp=>(p.1,aI C p.2))=parts.map λp=>(p.1,aI σ p.2):=lN λp Z=>by rw[T p Z]
       simp[A6,I,J,E,ak,e,L,O,hl,iw,Y]
      ·cases h
     ·cases h
    ·cases h
  ·cases h
 ·cases h
def abQ{t:TypeId}{q:aa Nat}{C:ah Nat}{lo hi:ah A}{k:A -> ah X}(h:ot P σ t q C lo hi k=some r):∃ y,k y=some r/\cA (λX k=>ot (X:=X) P σ t q C lo hi k) y:=by
 unfold ot at h;split at h
 ·rename_i e D;split at h
  ·rename_i n E;obtain⟨y,I,_,J⟩:=sA q _ h;obtain⟨Q,g,T,xs,l,m,rfl,U,Y,Z,b1,b2,b3,L,O⟩:=abf I
   refine⟨_,L,λX k=>?_⟩
   simp[ot,D,E];exact(J X _).trans (O X k)
  ·cases h
 ·cases h
def aoc{t:TypeId}{x:A}{lo hi:ah A}{k:A -> ah X}(h:q8 P σ t x lo hi k=some r):∃ y,k y=some r/\cA (λX k=>q8 (X:=X) P σ t x lo hi k) y:=by
 unfold q8 at h;split at h
 ·exact abQ h
 ·exact abQ h
 ·rename_i D;obtain⟨y,C,E,_⟩:=abe h
  refine⟨y,C,λX k=>?_⟩
  simp[q8];simp_all
def aod{t:TypeId}{x y:A}{k:S -> ah X}(h:qe P N σ d t x y k=some r):∃ I,k I=some r/\cA (λX k=>qe (X:=X) P N σ d t x y k) I:=by
 unfold qe at h;split at h
 ·rename_i e J L;cases E:(Nat.beq (full J) 0&&(zeroOf P e).any (λz=>Nat.beq z.cells.size (aF J)))with
  |false=>rw[E]at h;cases h
  | true=>
   rw[E,ak]at h;obtain⟨yv,C,O⟩:=Vx h;clear h;split at C
   ·cases C
   ·rename_i l2 Q;split at C
    ·cases D:bC l2.length with
     |false=>rw[D]at C;cases C
     | true=>
      rw[D,ak]at C;obtain⟨T,U⟩:=wL C;exact⟨_,T,λX k=>by
       simp[qe,L,E];exact(O.at_ _).trans (by simp[Q,D];exact U X k)⟩
    ·rename_i rr;split at C
     ·rename_i t' o q l Y;split at C
      ·rename_i Z;cases D:(Nat.blt d N&&(Nat.blt rr N || Nat.ble 60000 rr)&&bC (l.length+l2.length))with
       |false=>rw[D]at C;cases C
       | true=>
        rw[D,ak]at C;exact⟨_,C,λX k=>by
         simp[qe,L,E];exact(O.at_ _).trans (by simp[Q,Y,aA Z,D,ak])⟩
      ·cases C
     ·cases C
    ·cases C
 ·cases h
def abR:∀ (q:aa Nat) (y:V) (k:(Nat->ah aY)->ah X),qd m q y k=some r->∃ m',k m'=some r/\cA (λX k=>qd (X:=X) m q y k) m'
 |[],_,_,h=>by simp[qd]at h
 | [x],y,k,h=>by
  simp only[qd]at h;split at h
  next T D=>exact⟨_,h,λX k=>by simp only[qd,D]⟩
  ·cases h
 |[_,_],_,_,h=>by simp[qd]at h
 | j :: i :: s :: q,y,k,h=>by
  simp only[qd]at h;obtain⟨z,C,_,E⟩:=sA q _ h;clear h;split at C
  ·split at C
   ·rename_i I;split at C
    ·rename_i hi;split at C
     ·rename_i J;split at C
      ·rename_i e L;obtain⟨m',O,Q⟩:=abR q _ k C;exact⟨m',O,λX k=>by
        simp only[qd];exact(E.at_ _).trans (by simp only[bA I,aA hi,bA J,L];exact Q X k)⟩
      ·cases C
     ·cases C
    ·cases C
   ·cases C
  ·cases C
def abS{t:TypeId}{x y:A}{k:S -> ah X}(h:nJ P σ t x y k=some r):∃ E,k E=some r/\cA (λX k=>nJ (X:=X) P σ t x y k) E:=by
 unfold nJ at h;split at h
 ·rename_i n xs I J;split at h
  ·rename_i hlen;split at h
   ·rename_i r' j;split at h
    ·rename_i cs L;split at h
     ·rename_i D;cases hl:xs.all Lf.live with
      |false=>rw[hl]at h;cases h
      |true=>rw[hl]at h;exact⟨_,h,λX k=>by simp[nJ,I,J,bA hlen,L,bA D,hl,ak]⟩
     ·cases h
    ·cases h
   ·rename_i j i s q;split at h
    ·cases h
    ·rename_i O Q;obtain⟨y0,C,hg0,T⟩:=sA _ _ h;clear h;split at C
     ·rename_i U Y qn l;split at C
      ·rename_i Z;split at C
       ·rename_i hi;split at C
        ·rename_i D;cases hold:(((enc U Y l[i]).drop j).take O.length).all V.plain with
         |false=>rw[hold]at C;cases C
         | true=>
          rw[hold,ak]at C;split at C
          ·rename_i e he;obtain⟨m',h3,h4⟩:=abR q _ _ C;exact⟨_,h3,λX k=>by
            simp[nJ,I,J,bA hlen,Q];exact(T.at_ _).trans (by simp[bA Z,aA hi,bA D,hold,he];exact h4.at_ _)⟩
          ·cases C
        ·cases C
       ·cases C
      ·cases C
     ·cases C
   ·cases h
  ·cases h
 ·cases h
def HF:∀ (xs:aa Lf) (k:aa V -> ah X),qf σ xs k=some r -> ∃ C,k C=some r/\cA (λX k=>qf (X:=X) σ xs k) C
 |[],k,h=>⟨[],h,λX k=>rfl⟩
 | x :: xs,k,h=>by
  obtain⟨y,D,E⟩:=DY h;obtain⟨ys,I,J⟩:=HF xs _ D;exact⟨_,I,λX k=>by
   exact(E.at_ _).trans (J.at_ _)⟩
def abU{x:A}{k:Pt -> ah X}(h:ou σ x k=some r):∃ p,k p=some r/\cA (λX k=>ou (X:=X) σ x k) p:=by
 unfold ou at h;split at h
 ·obtain⟨E,C,D⟩:=HF _ _ h;exact⟨_,C,λX k=>by simp[ou];exact D.at_ _⟩
 ·obtain⟨E,C,D⟩:=HF _ _ h;exact⟨_,C,λX k=>by simp;exact D.at_ _⟩
 ·obtain⟨y,C,D⟩:=abN h;exact⟨_,C,λX k=>by simp;exact D.at_ _⟩
 ·exact⟨_,h,λX k=>rfl⟩
 ·cases h
def VB:∀ (xs:aa Operand) (k:aa Pt -> ah X),mK σ xs k=some r -> ∃ ps,k ps=some r/\cA (λX k=>mK (X:=X) σ xs k) ps
 |[],k,h=>⟨[],h,λX k=>rfl⟩
 | x :: xs,k,h=>by
  obtain⟨p,C,D⟩:=abU h;obtain⟨ps,E,I⟩:=VB xs _ C;exact⟨_,E,λX k=>by
   exact(D.at_ _).trans (I.at_ _)⟩
def aoe{x:A}{k:Pt -> ah X}(h:sv σ x k=some r):∃ p,k p=some r/\cA (λX k=>sv (X:=X) σ x k) p:=by
 unfold sv at h;split at h
 ·exact⟨_,h,λX k=>rfl⟩
 ·exact⟨_,h,λX k=>rfl⟩
 ·split at h
  ·rename_i cs E;obtain⟨I,C,D⟩:=HF _ _ h;split at C
   ·exact⟨_,C,λX k=>by simp[sv,E];exact D.at_ _⟩
   ·cases C
  ·cases h
 ·split at h
  ·rename_i cs E;obtain⟨I,C,D⟩:=HF _ _ h;split at C
   ·exact⟨_,C,λX k=>by simp[sv,E];exact D.at_ _⟩
   ·cases C
  ·cases h
 ·rename_i y L C O Q;obtain⟨p,J,D⟩:=abU h;exact⟨p,J,λX k=>by
   unfold sv;split
   ·simp_all
   ·simp_all
   ·simp_all
   ·simp_all
   ·exact D.at_ _⟩
def VC:∀ (xs:aa Operand) (k:aa Pt -> ah X),qg σ xs k=some r -> ∃ ps,k ps=some r/\cA (λX k=>qg (X:=X) σ xs k) ps
 |[],k,h=>⟨[],h,λX k=>rfl⟩
 | x :: xs,k,h=>by
  obtain⟨p,C,D⟩:=aoe h;obtain⟨ps,E,I⟩:=VC xs _ C;exact⟨_,E,λX k=>by
   exact(D.at_ _).trans (I.at_ _)⟩
def aof{f:Nat}{c:jo}{args:aa Operand}{k:S -> ah X}(L:iP P f c)(h:ri N σ d c args k=some r):∃ E,k E=some r/\cA (λX k=>ri (X:=X) N σ d c args k) E:=by
 unfold ri at h;cases D:Nat.blt d N with
 |false=>simp_all
 | true=>
  rw[D]at h;obtain⟨ps,O,I⟩:=VC _ _ h;obtain⟨Q,C,J,_⟩:=L X ps _ r O;cases Q with
  | one p=>
   simp only at C;split at C
   ·rename_i y T
    refine⟨_,C,λX k=>?_⟩
    simp[ri,D];refine(I.at_ _).trans ((J X _).trans ?_);simp_all
   ·cases C
  | cR U=>
   refine⟨_,C,λX k=>?_⟩
   simp only[ri,D,ak];exact(I.at_ _).trans (J X _)
def pz(d:Nat)(C:fW)(σ:S):ah S:=match C with
 | .one p=>match so (p.1,lu (1000000000100000+1000*d) p.2)with
  |some y=>some ((iH (1000000000100000+1000*d) σ p.2).set d y)
  |none=>none
 |.cR ps=>some ((lz (1000000000100000+1000*d) σ ps).set d (.cR (ov (1000000000100000+1000*d) ps)))
def HG{f:Nat}{c:jo}{args:aa Operand}{k:S -> ah X}(O:iP P f c)(h:yW N σ d c args k=some r):∃ E J,pz d E σ=some J/\k J=some r /\
  (∀C D,(∀(X:Type) (k:aa Pt -> ah X),mK C args k=mK σ args k) -> pz d E C=some D -> cA (λX k=>yW (X:=X) N C d c args k) D):=by
 unfold yW at h;cases L:Nat.blt d N with
 |false=>simp_all
 | true=>
  rw[L,ak]at h;obtain⟨ps,Q,T⟩:=VB _ _ h;obtain⟨E,I,U,_⟩:=O X ps _ r Q;have step:∀ C D,(∀ (X:Type) (k:aa Pt -> ah X),mK C args k=mK σ args k) -> pz d E C=some D -> cA (λX k=>yW (X:=X) N C d c args k) D:=by
   intro C D Y Z X k;simp only[yW,L,ak];rw[Y];refine(T.at_ _).trans ((U X _).trans ?_);unfold pz at Z
   grind
  cases E with
  | one p=>
   simp only at I;split at I
   next y hy=>exact⟨.one p,_,by simp[pz,hy],I,step⟩
   ·cases I
  |cR wI=>exact⟨.cR wI,_,rfl,I,step⟩
def aog{f:Nat}{c:jo}{args:aa Operand}{k:S -> ah X}(O:iP P f c)(h:ri N σ d c args k=some r):∃ E J,pz d E σ=some J/\k J=some r /\
  (∀C D,(∀(X:Type) (k:aa Pt -> ah X),qg C args k=qg σ args k) -> pz d E C=some D -> cA (λX k=>ri (X:=X) N C d c args k) D):=by
 unfold ri at h;cases L:Nat.blt d N with
 |false=>simp_all
 | true=>
  rw[L,ak]at h;obtain⟨ps,Q,T⟩:=VC _ _ h;obtain⟨E,I,U,_⟩:=O X ps _ r Q;have step:∀ C D,(∀ (X:Type) (k:aa Pt -> ah X),qg C args k=qg σ args k) -> pz d E C=some D -> cA (λX k=>ri (X:=X) N C d c args k) D:=by
   intro C D Y Z X k;simp only[ri,L,ak];rw[Y];refine(T.at_ _).trans ((U X _).trans ?_);unfold pz at Z
   grind
  cases E with
  | one p=>
   simp only at I;split at I
   next y hy=>exact⟨.one p,_,by simp[pz,hy],I,step⟩
   ·cases I
  |cR wI=>exact⟨.cR wI,_,rfl,I,step⟩
/-! Keys that do not end in certain names. -/
def fC(p:Nat->Bool)(k:aa Nat):Bool:=match k.getLast? with
 |some r=>!p r
 |none=>true
def Lf.nr(p:Nat->Bool):Lf->Bool
 |.own k=>fC p k
 |_=>true
def A.nr(p:Nat->Bool):A->Bool
 |.lf x=>x.nr p
 |.agg cs=>cs.all (Lf.nr p)
 |.cR xs=>xs.all λq=>q.2.all (Lf.nr p)
 |.ptr k=>fC p k
 |.aG r _=>!p r
 |.pk r _=>!p r
 |.view k _ _ _=>fC p k
 |.fn _ cap=>cap.all λq=>!p q.1
 |_=>true
def sB{p:Nat -> Bool}{k:aa Nat}{n:Nat}(h:fC p k=true)(C:p n=true):bK n k=false:=by
 unfold fC at h;unfold bK
 grind
def Lf.l8{p:Nat->Bool}{x:Lf}{n:Nat}(h:x.nr p=true)(C:p n=true):x.drop n=x:=by
 cases x with
 | own k=>
  have e:Lf.drop n (.own k)=(bif bK n k then .dead else .own k):=rfl;rw[e,sB h C];rfl
 |v x=>rfl
 |dead=>rfl
def mO.l8{p:Nat->Bool}{xs:aa Lf}{n:Nat}(h:xs.all (Lf.nr p)=true)(C:p n=true):xs.map (Lf.drop n)=xs:=by
 conv=>rhs;rw[<-List.map_id xs]
 exact lN λx D=>Lf.l8 (cI.1 h x D) C
def A.l8{p:Nat -> Bool}{x:A}{n:Nat}(h:x.nr p=true)(C:p n=true):x.drop n=x:=by
 cases x with
 |lf x=>exact bH A.lf (Lf.l8 h C)
 |agg cs=>exact bH A.agg (mO.l8 h C)
 | cR xs=>
  refine bH A.cR ?_
  conv=>rhs;rw[<- List.map_id xs]
  refine lN λq D=>?_
  have:=mO.l8 (cI.1 h q D) C;simp_all
 | ptr k=>
  have e:A.drop n (.ptr k)=(bif bK n k then .undef else .ptr k):=rfl;rw[e,sB h C];rfl
 | view k s i j=>
  have e:A.drop n (.view k s i j)=(bif bK n k then .undef else .view k s i j):=rfl;rw[e,sB h C];rfl
 | pk r j=>
  have e:A.drop n (.pk r j)=(bif Nat.beq r n then .undef else .pk r j):=rfl;have:Nat.beq r n=false:=by
   cases hb:Nat.beq r n with
   |false=>rfl
   | true=>
    obtain rfl:=cD hb;have h:(!p r)=true:=h;simp_all
  rw[e,this];rfl
 | aG r j=>
  have e:A.drop n (.aG r j)=(bif Nat.beq r n then .undef else .aG r j):=rfl;have:Nat.beq r n=false:=by
   cases hb:Nat.beq r n with
   |false=>rfl
   | true=>
    obtain rfl:=cD hb;have h:(!p r)=true:=h;simp_all
  rw[e,this];rfl
 | fn f cap=>
  have e:A.drop n (.fn f cap)=(bif cap.any (λp=>Nat.beq p.1 n)then .undef else .fn f cap):=rfl;have:cap.any (λp=>Nat.beq p.1 n)=false:=by
   rw[mC];intro q D hb;obtain hb:=cD hb;have:=cI.1 h q D;simp_all
  rw[e,this];rfl
 |_=>rfl
def S.ext'{σ C:S}(D:∀ k,σ.t k=C.t k)(E:∀ r,σ.m r=C.m r):σ=C:=by
 cases σ;cases C;simp
 grind
def S.set_set{e d:Nat}(h:e≠d)(v u:A):(σ.set d v).set e u=(σ.set e u).set d v:=by
 refine S.ext' (λk=>?_) λ_=>rfl
 show bW (bW σ.t d v) e u k=bW (bW σ.t e u) d v k;by_cases C:k=e
 ·subst C;rw[ck,cB _ _ _ h,ck]
 ·by_cases D:k=d
  ·subst D;rw[cB _ _ _ C,ck,ck]
  ·rw[cB _ _ _ C,cB _ _ _ D,cB _ _ _ D,cB _ _ _ C]
def S.drop_set(n:Nat){v:A}(C:v.drop n=v):(σ.set d v).drop n=(σ.drop n).set d v:=by
 refine S.ext' (λk=>?_) λ_=>rfl
 show (bW σ.t d v k).drop n=bW (λk=>(σ.t k).drop n) d v k;by_cases h:k=d
 ·subst h;rw[ck,ck,C]
 ·rw[cB _ _ _ h,cB _ _ _ h]
def DZ(v:A):∀ (xs:aa V) (c:Nat) (σ:S),(∀ n,c <= n -> v.drop n=v) -> iH c (σ.set d v) xs=(iH c σ xs).set d v
 |[],c,σ,h=>rfl
 | x :: xs,c,σ,h=>by
  simp[iH];cases D:x.aD with
  | true=>
   exact DZ v xs _ σ (λn C=>h n (by omega))
  | false=>
   rw[S.drop_set c (h c (eK _))];exact DZ v xs _ ((σ.drop c).root c _) (λn C=>h n (by omega))
def NG(v:A):∀ (ps:aa Pt) (c:Nat) (σ:S),(∀ n,c <= n -> v.drop n=v) -> lz c (σ.set d v) ps=(lz c σ ps).set d v
 |[],c,σ,h=>rfl
 | p :: ps,c,σ,h=>by
  simp[lz];rw[DZ v p.2 c σ h];exact NG v ps _ _ (λn C=>h n (by omega))
end
def Bk{X:Type}(N:Nat)(σ:S)(d:Nat)(x:A)(k:S->ah X):ah X:=
 match x.yL with
 |some xs=>bif xs.all Lf.live then iw N σ d (.aB (xs.map (Lf.drop d))) (.aG d 0) k else none
 |none=>none
def NH{X:Type}(x:A)(k:A->ah X):ah X:=
 match x with
 |.aG r j=>k (.aG r j)
 |.ptr q=>k (.ptr q)
 |.gW cs=>k (.gW cs)
 |_=>none
section
variable {P:Program} {w w':World} {w0:Wd} {B N:Nat} {aj aE:bG} {ρ ρ':Nat->Loc} {σ:S} {a:Act} {X:Type} {d:Nat} {r:X} {o:Oper}
def aoh{e:TypeId}{x:A}{k:S -> ah X}(h:Bk N σ d x k=some r):∃ D,k D=some r /\ ∀ aj ρ a w,Rl w0 N aj ρ σ a w -> ∀ u,RA w w0.heap.size aj ρ x u ->
  ∃w' aE ρ' v,(Instr.box e u).run P w = .ok v w'/\Rl w0 N aE ρ' D (a.put (some d) v) w':=by
 unfold Bk at h;split at h
 ·rename_i xs O;cases E:xs.all Lf.live with
  |false=>grind
  | true=>
   rw[E,ak]at h;obtain⟨I,h⟩:=oY h
   refine⟨_,h,λaj ρ a w hR u Q=>?_⟩
   obtain⟨hl,_⟩:=GR O E Q;have T:(Instr.box e u).run P w = .ok (.pointer (some ⟨w.heap.size,0,none⟩)) (w.alloc (.cells u.cells e)):=by
    simp[Instr.box,newVar,newRow]
   refine⟨_,bW aj w.heap.size (some [d]),bW ρ d (.aB w.heap.size 0),_,T,(hR.DF (hR.dx d (.inl I)) (λr C=>cB _ _ _ C) ?_).set ⟨w.heap.size,0,ck _ _ _,rfl⟩ I⟩
   have U:dQ (w.alloc (.cells u.cells e)) w0.heap.size (bW aj w.heap.size (some [d])) ρ xs u.cells:=
    hl.fV (by simp) (λb hb=>⟨Below.heap_alloc w _ b hb,cB _ _ _ (by omega)⟩) (λb k hb=>(hR.cX b k hb).2.1)
   have J:=U.eC (ρ':=bW ρ d (.aB w.heap.size 0)) (d:=d) (λr C=>cB _ _ _ C)
   refine .aB w.heap.size 0 u.cells e _ (λj=>u.cells.getD j undef) (ck _ _ _) (ck _ _ _) (heap_alloc_new w _) (by rw[J.1];omega) λj y Y=>?_
   obtain⟨v,L,C⟩:=J.2 j y Y;have Z:u.cells.getD j undef=v:=by rw[ij,L];rfl
   rw[Z,fj];exact⟨L,C⟩
 ·cases h
def abV{x:A}{k:S -> ah X}(h:Bk N σ d x k=some r):∃ y u,k (((σ.drop d).root d y).set d u)=some r/\(∀ (C:S),cA (λX k=>Bk (X:=X) N C d x k) (((C.drop d).root d y).set d u)):=by
 unfold Bk at h;split at h
 ·rename_i xs E;cases D:xs.all Lf.live with
  |false=>simp_all
  | true=>
   rw[D]at h;obtain⟨I,_⟩:=wL h
   refine⟨_,_,I,λC X k=>?_⟩
   obtain⟨J,_⟩:=oY h;have hb:Nat.blt d N=true:=iD J;simp[Bk,E,D,iw,hb,ak]
 ·cases h
def abW{x:A}{k:A->ah X}(h:NH x k=some r):k x=some r/\cA (λX k=>NH (X:=X) x k) x/\∀ u,RA w B aj ρ x u->∃ ad,u = .pointer (some ad):=by
 unfold NH at h;split at h
 ·exact⟨h,λX k=>rfl,λu C=>by obtain⟨b,off,_,rfl⟩:=C;exact⟨_,rfl⟩⟩
 ·exact⟨h,λX k=>rfl,λu C=>by obtain⟨ad,rfl,_⟩:=C;exact⟨_,rfl⟩⟩
 ·exact⟨h,λX k=>rfl,λu C=>by obtain⟨b,off,rfl,_⟩:=C;exact⟨_,rfl⟩⟩
 ·cases h
end
def oz(t:TypeId):Bool:=[999999,999999,999999,46,999999,53,999999,999999,999999,999999,999999,999999,999999,999999,999999,999999,999999,999999,166,999999,999999,999999,999999,999999].any (Nat.beq t)
def zh{X:Type}(P:Program)(N:Nat)(σ:S)(d:Nat)(t:TypeId)(len:Nat)(parts:aa (Nat×Operand))(k:S->ah X):ah X:=
 match uN P t with
 | some (e,C)=>match zeroOf P e with
  | some z=>bif Nat.beq z.cells.size (aF C)&&Nat.blt (len*aF C) 16777217 then (match yP (λi=>some (i*aF C,aF C)) (List.replicate len (z.cells.toList.map iG)).flatten (parts.map λp=>(p.1,aI σ p.2))with
   |some cs=>bif Nat.beq len 0 then iw N σ d (.sl (.sl C (full C+2) true [])) (.lf (.own [d])) k else iw N σ d (.aB (cs.map (Lf.drop d))) (.pk d len) k
   |none=>none)else none
  |none=>none
 |none=>none
def wM{X:Type}(N:Nat)(σ:S)(d r D:Nat)(C:TC)(n:Nat)(k:S->ah X):ah X:=
 match σ.m D,σ.m r with
 | some (.aB cs),some (.sl (.sl E (o+2) q l))=>if h:E=C then (match hD r (λj=>(j % aF C) :: (l.length+j / aF C) :: aF C :: [r]) cs.length 0 cs σ with
  | some (I,J)=>(match G2 C o n I with
   |some l2=>bif Nat.blt d N&&bC (l.length+l2.length)then k (((J.drop r).root r (.sl (.sl C (o+2) false ((h ▸ l)++l2)))).set d (.lf (.own [r])))else none
   |none=>none)
  |none=>none)else none
 |_,_=>none
def zi{X:Type}(P:Program)(N:Nat)(σ:S)(d:Nat)(t:TypeId)(x y:A)(k:S->ah X):ah X:=
 match uN P t,y with
 | some (e,C),.pk D n=>bif (zeroOf P e).any (λz=>Nat.beq z.cells.size (aF C))&&(Nat.blt d N&&Nat.blt n p7)then (match x with
  |.lf (.v .nil)=>wM N ((σ.drop d).root d (.sl (.sl C (full C+2) false []))) d d D C n k
  |.lf (.own [r])=>bif Nat.blt r N ||Nat.ble 60000 r then wM N σ d r D C n k else none
  |_=>none)else none
 |_,_=>none
def rE{X:Type}(P:Program)(σ:S)(t:TypeId)(x y:A)(k:S->ah X):ah X:=
 match jm P t,y.yL,x with
 | some n,some xs,.ptr [j,i,s,r]=>if xs.length=n then (bif xs.all Lf.live then (match hD r (λm=>(j+m) :: i :: s :: [r]) xs.length 0 xs σ with
  | some (E,D)=>(match D.m r with
   | some (.sl (.sl C (o+2) I l))=>if s=aF C then (if h:i<l.length then (if j+n<=aF C then (match dec C o (splice (enc C o l[i]) j E)with
    |some e=>k (D.bE [r] [] [(r,.sl (.sl C (o+2) I (l.set i e)))])
    |none=>none)else none)else none)else none
   |_=>none)
  |none=>none)else none)else none
 |_,_,_=>none
def uY(x y:A):Bool:=match x,y.yL with
 |.ptr _,some xs=>(qX xs).isNone
 |_,_=>false
section
variable {P:Program} {w w':World} {w0:Wd} {B N:Nat} {aj aE:bG} {ρ ρ':Nat->Loc} {σ:S} {a:Act} {X:Type} {d:Nat} {r:X} {o:Oper}
def abX{place:Nat -> ah (Nat×Nat)}:∀ (parts:aa (Nat×A)) (cells out:aa Lf),yP place cells parts=some out -> out.length=cells.length
 |[],cells,out,h=>by injection h with h;rw[h]
 | (i,x) :: rest,cells,out,h=>by
  unfold yP at h;split at h
  ·rename_i off n xs C D;split at h
   ·rename_i E;cases hl:xs.all _ with
    | true=>
     rw[hl]at h;rw[abX rest _ _ h,tf _ _ _ (by omega)]
    |false=>simp_all
   ·cases h
  ·cases h
def aoi{t:TypeId}{len:Nat}{parts:Array (Nat×Operand)}{k:S -> ah X}(h:zh P N σ d t len parts.toList k=some r):∃ dR,k dR=some r /\ ∀ aj ρ a w,Rl w0 N aj ρ σ a w ->
  ∃w' aE ρ' v,(Instr.buildSlice t len (parts.map λ(i,x)=>(i,a.eval x))).run P w = .ok v w'/\Rl w0 N aE ρ' dR (a.put (some d) v) w':=by
 unfold zh at h;split at h
 ·rename_i e D q5;obtain⟨iO,ht,i,hi,O,kZ⟩:=yN q5;split at h
  ·rename_i z hz;cases Q:(Nat.beq z.cells.size (aF D)&&Nat.blt (len*aF D) 16777217)with
   |false=>rw[Q]at h;cases h
   | true=>
    rw[Q,ak]at h;rw[aO]at Q;have o6:=cD Q.1;have hsm:len*aF D<16777217:=by have:=cL Q.2;omega
    have oZ:i.zero=some z:=by unfold zeroOf at hz;simpa [hi]using hz
    split at h
    ·rename_i cs jN;have key:∀ aj ρ (a:Act) w,Rl w0 N aj ρ σ a w -> ∃ C,(Instr.buildSlice t len (parts.map λ(i,x)=>(i,a.eval x))).run P w = .ok (.slice (some ⟨w.heap.size,0,none⟩) len len) (w.alloc (.cells C e))/\dQ w w0.heap.size aj ρ cs C/\C.size=cs.length:=λaj ρ a w hR=>by
      have UF:dQ w w0.heap.size aj ρ (List.replicate len (z.cells.toList.map iG)).flatten (madeCells z.cells (len*aF D)):=by
       have e1:(List.replicate len (z.cells.toList.map iG)).flatten=((List.replicate len z.cells.toList).flatten).map iG:=by
        rw[List.map_flatten,List.map_replicate]
       rw[e1,<- aa6 z.cells (aF D) len o6 (oV D)]
       refine⟨by simp,λj x E=>?_⟩
       rw[dz]at E;cases L:(madeCells z.cells (len*aF D)).toList[j]? with
       |none=>rw[L]at E;cases E
       | some v=>
        rw[L]at E;injection E with E;subst E;exact⟨v,by simpa using L,M6 v⟩
      obtain⟨C,Z,hl⟩:=Nc (w:=w) (B:=w0.heap.size) (aj:=aj) (ρ:=ρ) _ _ _ (parts.toList.map λp=>(p.1,a.eval p.2)) cs jN UF (by simp) (λj p q I T=>by
       rw[dz]at I T;cases E:parts.toList[j]? with
       |none=>rw[E]at I;cases I
       | some x=>
        rw[E]at I T;injection I with I;injection T with T;subst I T;exact⟨rfl,hR.aI x.2⟩)
      have U:(Instr.buildSlice t len (parts.map λ(i,x)=>(i,a.eval x))).run P w = .ok (.slice (some ⟨w.heap.size,0,none⟩) len len) (w.alloc (.cells C e)):=by
       have UG:(parts.map λ(i,x)=>(i,a.eval x)).toList=parts.toList.map λp=>(p.1,a.eval p.2):=by simp
       by_cases h0:len*aF D=0
       ·have hm:madeCells z.cells (len*aF D) = #[]:=by rw[h0];simp[madeCells]
        rw[hm]at Z;have UH:len*i.size=0:=by rw[O];exact h0
        rw[<- O]at Z;have e0:∀f:Nat -> Value,Array.map f (Array.range 0) = #[]:=λf=>by simp
        simp only[Instr.buildSlice,fm,gJ iO,sizeOf,typeInfo];simp[hi,UH];rw[e0,Z];simp[newRow]
       ·exact run_buildSlice (P:=P) w t e len _ C i z iO hi oZ (by rw[O];omega) (by rw[O];exact h0) (by rw[O,UG];exact Z)
      exact⟨C,U,hl,hl.1⟩
     cases om:Nat.beq len 0 with
     | true=>
      rw[om,ak]at h;have hln:=cD om;subst hln;obtain⟨Y,h⟩:=oY h
      refine⟨_,h,λaj ρ a w hR=>?_⟩
      obtain⟨C,U,hl,hcz⟩:=key aj ρ a w hR;have tD:cs.length=0:=by
       have h1:=abX _ _ _ jN;rw[h1];simp
      refine⟨_,bW aj w.heap.size (some [d]),bW ρ d (.dM (.slice (some ⟨w.heap.size,0,none⟩) 0 0)),_,U,(hR.DF (hR.dx d (.inl Y)) (λr J=>cB _ _ _ J) (.sl _ _ (ck _ _ _) ?_)).set ⟨rfl,by simp[cN,ck]⟩ Y⟩
      exact RV.own (w:=w.alloc (.cells C e)) (B:=w0.heap.size) (aj:=bW aj w.heap.size (some [d])) [d] D (full D) true [] w.heap.size 0 C (λ_ _=>undef)
       (ck _ _ _) (by rw[ht];exact heap_alloc_new w _) (by omega) (eK _) ⟨by unfold maxLen;omega,λ_=>rfl⟩ (λi' h'=>absurd h' (by simp)) (λi' h'=>absurd h' (by simp))
     |false=>
     rw[om,au]at h;obtain⟨Y,h⟩:=oY h
     refine⟨_,h,λaj ρ a w hR=>?_⟩
     obtain⟨C,U,hl,_⟩:=key aj ρ a w hR
     refine⟨_,bW aj w.heap.size (some [d]),bW ρ d (.aB w.heap.size 0),_,U,(hR.DF (hR.dx d (.inl Y)) (λr J=>cB _ _ _ J) ?_).set ⟨w.heap.size,ck _ _ _,(Ud (by have:=Nat.le_mul_of_pos_right len (oV D);unfold p7;omega)).symm⟩ Y⟩
     have h1:dQ (w.alloc (.cells C e)) w0.heap.size (bW aj w.heap.size (some [d])) ρ cs C:=
      hl.fV (by simp) (λb hb=>⟨Below.heap_alloc w _ b hb,cB _ _ _ (by omega)⟩) (λb k hb=>(hR.cX b k hb).2.1)
     have h2:=h1.eC (ρ':=bW ρ d (.aB w.heap.size 0)) (d:=d) (λr J=>cB _ _ _ J)
     refine .aB w.heap.size 0 C e _ (λj=>C.getD j undef) (ck _ _ _) (ck _ _ _) (heap_alloc_new w _) (by rw[h2.1];omega) λj y hy=>?_
     obtain⟨v,L,J⟩:=h2.2 j y hy;have hg:C.getD j undef=v:=by rw[ij,L];rfl
     rw[hg,fj];exact⟨L,J⟩
    ·cases h
  ·cases h
 ·cases h
def abY{t:TypeId}{len:Nat}{parts:aa (Nat×Operand)}{k:S -> ah X}(h:zh P N σ d t len parts k=some r):∃ y u,k (((σ.drop d).root d y).set d u)=some r /\
  (∀(C:S),(∀p∈parts,aI C p.2=aI σ p.2) -> cA (λX k=>zh (X:=X) P N C d t len parts k) (((C.drop d).root d y).set d u)):=by
 unfold zh at h;split at h
 ·rename_i e Z T;split at h
  ·rename_i z U;cases D:(Nat.beq _ _&&Nat.blt _ 16777217)with
   |false=>rw[D]at h;cases h
   | true=>
    rw[D]at h;split at h
    ·rename_i cs Y;cases E:Nat.beq len 0 with
     | true=>
      rw[E,ak]at h;obtain⟨I,_⟩:=wL h
      refine⟨_,_,I,λC J X k=>?_⟩
      obtain⟨L,_⟩:=oY h;have O:Nat.blt d N=true:=iD L;have e:(parts.map λp=>(p.1,aI C p.2))=parts.map λp=>(p.1,aI σ p.2):=lN λp Q=>by rw[J p Q]
      simp only[zh,T,U,D,ak,e,Y,iw,O,E]
     | false=>
      rw[E,au]at h;obtain⟨I,_⟩:=wL h
      refine⟨_,_,I,λC J X k=>?_⟩
      obtain⟨L,_⟩:=oY h;have O:Nat.blt d N=true:=iD L;have e:(parts.map λp=>(p.1,aI C p.2))=parts.map λp=>(p.1,aI σ p.2):=lN λp Q=>by rw[J p Q]
      simp only[zh,T,U,D,ak,e,Y,iw,O,E,au]
    ·cases h
  ·cases h
 ·cases h
def abZ{t e ty:TypeId}{Q:TC}{i:TypeInfo}{z:Value}{rr Z n:Nat}{k:S -> ah X}(iO:P.underlying t=some (.slice e))(ht:tid Q=e)(hi:P.info? e=some i)(hz:i.zero=some z)
  (ga:i.size=aF Q) (kZ:i.bytes <= 65536) (o6:z.cells.size=aF Q) (h:wM N σ d rr Z Q n k=some r):∃dR,k dR=some r /\ ∀aj ρ a w,Rl w0 N aj ρ σ a w -> w0.F rr=none -> ∀u v b,ρ rr = .dM u -> ρ Z = .aB b 0 -> v = .slice (some ⟨b,0,none⟩) n n ->
  ∃w' aE ρ' z,(Builtin.append_ #[t,t] ty #[u,v]).run P w = .ok z w'/\Rl w0 N aE ρ' dR (a.put (some d) z) w':=by
 unfold wM at h;split at h
 ·rename_i cs E o q l VD hr;split at h
  ·rename_i lX;subst lX;split at h
   ·rename_i vs τ VE;split at h
    ·rename_i l2 lV;cases O:(Nat.blt d N&&bC (l.length+l2.length))with
     |false=>rw[O]at h;cases h
     | true=>
      rw[O,ak]at h;rw[aO]at O;have G0:l.length+l2.length<1073741824:=by simpa [bC]using O.2
      have hd:d<N:=by have:=cL O.1;omega
      refine⟨_,h,λaj ρ a w hR hF u v b aoj aok J=>?_⟩
      subst J;have T:=hR.root Z _ VD;generalize C:aY.aB cs=x at T;cases T with
      |sl=>cases C
      |mp=>cases C
      |gh=>cases C
      | aB b' off cells e' eV us dj qc hh hs hc=>
       injection C with C;subst C;rw[aok]at dj;injection dj with e1 e2;subst e1 e2;have mG:dQ w w0.heap.size aj ρ cs ((List.range cs.length).map us).toArray:=by
        refine⟨by simp,λj x I=>?_⟩
        have D:j<cs.length:=(dW.1 I).1;exact⟨us j,by simp[D],(hc j x I).2⟩
       obtain⟨aE,gA,AY,NI,_,wm,mI,_,_⟩:=M1 (w0:=w0) (N:=N) (λj=>by simp[bK]) _ _ _ _ _ _ VE aj ρ a w hR _ mG;obtain⟨Nf,aol,jb⟩:=UE E o n vs l2 lV;have uO:cs.length=n*aF E:=by rw[<- AY,aol]
       have o7:∀ j,j<cs.length -> (us j).oneCell'=true:=by
        intro j D;have I:=bX (by rw[AY];exact D);obtain⟨u',uK,L⟩:=NI j _ I;have:u'=us j:=by simpa [D]using uK.symm
        rw[<- this];exact L.one
       have VF:b<w.heap.size:=(gd.1 hh).1;have wj:Reads w w.heap.size (aF E) (some ⟨b,0,none⟩) n ((List.range cs.length).map us):=by
        refine⟨by simp[uO],λhn=>⟨b,0,rfl,VF,λj v J=>?_⟩⟩
        have D:j<cs.length:=by have:=(dW.1 J).1;simpa using this
        have:v=us j:=by simpa [D]using J.symm
        subst this;rw[cell_of_row w b _ cells _ _ hh];simp_all
       have gX:tw w w0.heap.size aE rr l.length E o l2 ((List.range cs.length).map us):=by
        intro U HC j x I;have D:j<aF E:=by have:=(dW.1 I).1;rwa [ku]at this
        obtain⟨y,T,hw⟩:=jb U HC j x I;obtain⟨u',uK,L⟩:=NI _ _ T;refine⟨u',uK,?_⟩;have e1:(0+(U*aF E+j)) % aF E=j:=by rw[fj,Nat.add_comm,Nat.add_mul_mod_self_right,Nat.mod_eq_of_lt D]
        have e2:(0+(U*aF E+j)) / aF E=U:=by rw[fj,Nat.add_comm,Nat.add_mul_div_right _ _ (oV E),Nat.div_eq_of_lt D,fj]
        simp only[e1,e2]at L;exact L.wk hw
       have Bl:=gA.root rr _ (wm _ hr);generalize C:aY.sl (.sl E (o+2) q l)=x at Bl;cases Bl with
       |aB=>cases C
       |mp=>cases C
       |gh=>cases C
       | sl uu y Y L=>
        injection C with C;subst C;rw[aoj]at Y;injection Y with Y;subst Y;obtain⟨v',w',dg,dZ,oy,gi⟩:=gA.am3 (ty:=ty) (c:=n) hF iO ht hi hz ga kZ o6 L wj (λv J=>by
         obtain⟨j,D⟩:=List.mem_iff_getElem?.1 J;have G1:j<cs.length:=by have:=(dW.1 D).1;simpa using this
         have:v=us j:=by simpa [G1]using D.symm
         rw[this];exact o7 j G1) Nf.symm gX G0
        exact⟨w',dg,_,v',dZ,oy.set ⟨gi,by simp[cN,ck]⟩ hd⟩
    ·cases h
   ·cases h
  ·cases h
 ·cases h
def ab0{rr E n:Nat}{I:TC}{k:S -> ah X}(h:wM N σ d rr E I n k=some r):∃ C,k C=some r/\cA (λX k=>wM (X:=X) N σ d rr E I n k) C:=by
 unfold wM at h;split at h
 ·rename_i cs U o q l J L;split at h
  ·rename_i O;split at h
   ·rename_i Y C Q;split at h
    ·rename_i l2 T;cases D:(Nat.blt d N&&bC _)with
     |false=>rw[D]at h;cases h
     | true=>
      rw[D]at h;exact⟨_,h,λX k=>by simp[wM,J,L,aA O,Q,T,D,ak]⟩
    ·cases h
   ·cases h
  ·cases h
 ·cases h
def aom{t ty:TypeId}{x y:A}{k:S -> ah X}(h:zi P N σ d t x y k=some r):∃ C,k C=some r /\ ∀ aj ρ a w,Rl w0 N aj ρ σ a w -> ∀ u v,RA w w0.heap.size aj ρ x u -> RA w w0.heap.size aj ρ y v ->
  ∃w' aE ρ' z,(Builtin.append_ #[t,t] ty #[u,v]).run P w = .ok z w'/\Rl w0 N aE ρ' C (a.put (some d) z) w':=by
 unfold zi at h;split at h
 ·rename_i e J ry n q5;obtain⟨Y,Z,i,hi,ga,kZ⟩:=yN q5;cases E:((zeroOf P e).any (λz=>Nat.beq z.cells.size (aF J))&&(Nat.blt d N&&Nat.blt n p7))with
  |false=>simp_all
  | true=>
   rw[E,ak]at h;rw[aO]at E;obtain⟨z,hz,I⟩:=(Option.any_eq_true _ _).1 E.1;have I:=cD I;have oZ:i.zero=some z:=by unfold zeroOf at hz;simpa [hi]using hz
   have L:=E.2;rw[aO]at L;have hd:d<N:=by have:=cL L.1;omega
   have qj:n<p7:=by have:=cL L.2;omega
   split at h
   ·obtain⟨C,O,Q⟩:=abZ (w0:=w0) (ty:=ty) Y Z hi oZ ga kZ I h
    refine⟨C,O,λaj ρ a w hR u v D T=>?_⟩
    have D:u = .slice none 0 0:=by cases D.2;rfl
    subst D;obtain⟨b,hb,rfl⟩:=T;have VD:ry≠d:=by
     rintro rfl;unfold wM at h;split at h
     ·simp_all
     ·cases h
    have hR0:=hR.new (d:=d) (x:=.sl (.sl J (full J+2) false [])) (.dM (.slice none 0 0)) (.sl _ _ (ck _ _ _) (.cS _ _ _)) (hR.dx d (.inl hd));exact Q _ _ a w hR0 (hR.dx d (.inl hd)) _ _ b (ck _ _ _) ((cB _ _ _ VD).trans hb) (Ud qj)
   ·rename_i rr;cases U:(Nat.blt rr N || Nat.ble 60000 rr)with
    |false=>simp_all
    | true=>
     rw[U,ak]at h;rw[eB]at U;have wm:rr<N \/ 60000 <= rr:=U.imp (λh=>by have:=cL h;omega) (λh=>cL h);obtain⟨C,O,Q⟩:=abZ (w0:=w0) (ty:=ty) Y Z hi oZ ga kZ I h
     refine⟨C,O,λaj ρ a w hR u v D T=>?_⟩
     obtain⟨b,hb,rfl⟩:=T;have dj:ρ rr = .dM u:=by
      have h4:=D.2;simp only[cN]at h4;cases hl:ρ rr with
      |aB b o=>simp_all
      |cc us=>simp_all
      |dM v=>simp_all
     exact Q aj ρ a w hR (hR.dx rr wm) _ _ b dj hb (Ud qj)
   ·cases h
 ·cases h
def aon{t:TypeId}{x y:A}{k:S -> ah X}(h:zi P N σ d t x y k=some r):∃ C,k C=some r/\cA (λX k=>zi (X:=X) P N σ d t x y k) C:=by
 unfold zi at h;split at h
 ·rename_i e O Q n J;cases D:((zeroOf P e).any _&&(Nat.blt d N&&Nat.blt n p7))with
  |false=>rw[D]at h;cases h
  | true=>
   rw[D]at h;split at h
   ·obtain⟨C,E,I⟩:=ab0 h;exact⟨C,E,λX k=>by simp[zi,J,D];exact I X k⟩
   ·rename_i rr;cases L:(Nat.blt rr N || Nat.ble 60000 rr)with
    |false=>simp_all
    | true=>
     rw[L]at h;obtain⟨C,E,I⟩:=ab0 h;exact⟨C,E,λX k=>by simp[zi,J,D,L];exact I X k⟩
   ·cases h
 ·cases h
def aoo{t:TypeId}{x y:A}{k:S -> ah X}(h:rE P σ t x y k=some r):∃ dR,k dR=some r /\ ∀ aj ρ a w,Rl w0 N aj ρ σ a w -> ∀ u v,RA w w0.heap.size aj ρ x u -> RA w w0.heap.size aj ρ y v ->
  ∃w' aE,(Instr.storeAt t u v).run P w = .ok () w'/\Rl w0 N aE ρ dR a w':=by
 unfold rE at h;split at h
 ·rename_i n xs j i s rr hn qY;split at h
  ·rename_i hlen;cases VG:xs.all Lf.live with
   |false=>rw[VG]at h;cases h
   | true=>
    rw[VG,ak]at h;split at h
    ·rename_i vs τ VE;split at h
     ·rename_i C o' qn l js;split at h
      ·rename_i nG;split at h
       ·rename_i hi;split at h
        ·rename_i hj;split at h
         ·rename_i e he
          refine⟨_,h,λaj ρ a w hR u v hu hv=>?_⟩
          obtain⟨ad,rfl,I⟩:=hu;obtain⟨hl,o7⟩:=GR qY VG hv;have mG:dQ w w0.heap.size aj ρ xs v.cells.toList.toArray:=by simpa using hl
          obtain⟨aE,Y,AY,NI,_,wm,mI,aDf,_⟩:=M1 (w0:=w0) (N:=N) (λm=>by simp[bK]) _ _ _ _ _ _ VE aj ρ a w hR _ mG;simp only[addrAt]at I;split at I
          ·rename_i b n0 c0 dj;split at I
           ·rename_i qc;injection I with I;subst I;have Bl:=Y.root rr _ js;generalize D:aY.sl (.sl C (o'+2) qn l)=x at Bl;cases Bl with
            |aB=>cases D
            |mp=>cases D
            |gh=>cases D
            | sl uu y mH gY=>
             injection D with D;subst D;rw[dj]at mH;injection mH with mH;subst mH;cases gY with
             |aD _ _ _ _ _ _ _ _ _ ho=>omega
             |cZ=>simp at hi
             |de=>simp at hi
             | own _ _ _ _ _ _ cap cs us NJ hh hs yJ hm hc hr=>
              subst nG;have VH:v.cells.size=n:=by rw[hl.1,hlen]
              have AT:i*aF C+aF C <= c0*aF C:=by
               have:(i+1)*aF C <= c0*aF C:=iN _ (by omega);rw[iC]at this;exact this
              have lR:i*aF C+j+v.cells.toList.length <= cs.size:=by rw[lM,VH,hs];omega
              have L:=MS w b (i*aF C+j) v.cells.toList;obtain⟨T,gX,nE⟩:=F9 b (tid C) v.cells.toList (i*aF C+j) w cs hh lR;have tj:∀ m,T[m]?=if m<i*aF C+j then cs[m]? else if m<i*aF C+j+n then v.cells[m-(i*aF C+j)]? else cs[m]?:=by
               intro m;have e2:T[m]?=(splice cs.toList (i*aF C+j) v.cells.toList)[m]?:=by
                rw[show T[m]?=T.toList[m]? by simp,nE];rfl
               rw[e2,vZ _ _ _ (by simpa using lR),lM,VH];simp
              have GN:T.size=cs.size:=by
               rw[<- lM,nE];have:=tf cs.toList (i*aF C+j) v.cells.toList (by simpa using lR);simp only[splice]at this;simp_all
              have VF:b<w.heap.size:=(gd.1 hh).1;have Z:w.heap.size <= (w.setCells b (i*aF C+j) v.cells.toList).heap.size:=Nat.le_of_eq L.size.symm;have VI:∀E,E<w.heap.size -> aE E≠some [rr] -> (w.setCells b (i*aF C+j) v.cells.toList).heap[E]?=w.heap[E]?:=λE _ eI=>L.block E (by rintro rfl;exact eI NJ)
              have hth:w.there b (i*aF C+j) v.cells.size:=by
               intro m sn;refine⟨?_,frozen_of_row w b _ cs _ hh⟩;rw[cell_of_row w b _ cs _ _ hh];simp;omega
              have lT:vs.length=n:=by rw[AY,hlen]
              refine⟨_,aE,Um w b _ t v hth (by rw[VH];exact hn) o7,Y.jd (ns:=[rr]) (cn:=[]) (eD:=ρ) (dg:=aE) ⟨Z,λE HB O=>⟨L.block E ?_,rfl⟩,λ_ _=>rfl,λE k O=>(Y.cX E k O).2⟩
               ⟨L.os,L.tape,L.output,Z,λk O hL=>L.block k ?_⟩ (λE k O=>?_) (λr hr=>by cases hr) (λr0 x D=>?_)⟩
              ·rintro rfl;have:=O _ NJ;simp[cF,cx]at this
              ·rintro rfl;rcases(Y.cX k _ NJ).1 with h1 | h1
               ·exact absurd O (Nat.not_lt.2 h1)
               ·exact h1 hL
              ·have:=Y.cX E k O;exact⟨this.1,kO this.2.1 Z,this.2.2⟩
              ·have lY:r0=rr/\x = .sl (.sl C (o'+2) qn (l.set i e)):=by
                simp only[List.lookup]at D;split at D
                next HB=>injection D with D;exact⟨by simpa using HB,D.symm⟩
                ·cases D
               obtain⟨rfl,rfl⟩:=lY;refine .sl _ _ dj ?_
               refine RV.MT (u:=us) (us:=λ_ m=>v.cells.getD (m-j) undef) (cs:=cs) (xs:=vs) NJ gX (GN.trans hs) yJ hm hi (by rw[lT];exact hj) he (λJ h' U x Q MU=>?_) (λm x Q=>?_)
               ·have r8:U<aF C:=by have:=(dW.1 Q).1;rwa [ku]at this
                refine⟨?_,(hr J h' U x Q).under (n:=r0) (.inl (by simp)) Z VI (λ_ _=>rfl)⟩
                rw[tj];have AU:¬ (¬ J*aF C+U<i*aF C+j/\J*aF C+U<i*aF C+j+n):=by
                 rintro⟨h1,h2⟩;rcases Nat.lt_trichotomy J i with ei|heq|DA
                 ·have:(J+1)*aF C <= i*aF C:=iN _ ei;rw[iC]at this;omega
                 ·subst heq;exact MU ⟨rfl,by omega,by omega⟩
                 ·have:(i+1)*aF C <= J*aF C:=iN _ DA;rw[iC]at this;omega
                split
                ·exact hc J h' U x Q
                ·rw[bM];exact hc J h' U x Q
               ·obtain⟨v0,wo,AV⟩:=NI m x Q;have sn:m<n:=by rw[<- lT];exact(dW.1 Q).1
                have M9:v.cells[m]?=some v0:=by simpa using wo
                have DB:v.cells.getD (j+m-j) undef=v0:=by rw[show j+m-j=m by omega,ij,M9];rfl
                show T[_]?=some (v.cells.getD (j+m-j) undef)/\RV _ _ _ _ _ (v.cells.getD (j+m-j) undef);rw[DB,tj,bM,bA];rw[fj]at AV
                refine⟨?_,AV.under (n:=r0) (.inl (by simp)) Z VI (λ_ _=>rfl)⟩
                rw[show i*aF C+(j+m)-(i*aF C+j)=m by omega];exact M9
           ·cases I
          ·cases I
         ·cases h
        ·cases h
       ·cases h
      ·cases h
     ·cases h
    ·cases h
  ·cases h
 ·cases h
def aop{t:TypeId}{x y:A}{k:S -> ah X}(h:rE P σ t x y k=some r):∃ C,k C=some r/\cA (λX k=>rE (X:=X) P σ t x y k) C:=by
 unfold rE at h;split at h
 ·rename_i n xs j i s rr E I;split at h
  ·rename_i hlen;cases D:xs.all Lf.live with
   |false=>simp_all
   | true=>
    rw[D,ak]at h;split at h
    ·rename_i U C J;split at h
     ·rename_i Y Z qn l L;split at h
      ·rename_i O;split at h
       ·rename_i hi;split at h
        ·rename_i Q;split at h
         next e T=>exact⟨_,h,λX k=>by simp[rE,E,I,bA hlen,D,ak,J,L,bA O,aA hi,bA Q,T]⟩
         ·cases h
        ·cases h
       ·cases h
      ·cases h
     ·cases h
    ·cases h
  ·cases h
 ·cases h
end
def NK(P:Program)(f:Nat)(F:aa Int->ah Int):Prop:=
 ∀ (w:World) (l:aa (T .u8)) (h:Int) (v:Value),F l=some h->RV w w.heap.size (λ_=>none) [] (.sl .u8 0 false l) v->Hd w (λ_=>none)->Calls P f #[v] w λe w'=>
  ∃b off cells t,e = .returned (.pointer (some ⟨b,off,none⟩))/\Below w.heap.size w w'/\w.heap.size<=b/\w'.heap[b]?=some (.cells cells t (0,0))/\cells[off]?=some v/\cells[off+1]?=some (.int .i64 0)/\cells[off+2]?=some (.int .i64 h)
def Bm{X:Type}(N:Nat)(σ:S)(d:Nat)(F:aa Int->ah Int)(x:A)(k:S->ah X):ah X:=
 match x with
 | .lf (.v (.sl .u8 0 q l))=>bif Nat.blt d N then (match F l with
  |some h=>k (((σ.drop (1000000000100000+1000*d)).root (1000000000100000+1000*d) (.aB [.v (.sl .u8 0 q l),.v (.int .i64 0),.v (.int .i64 h)])).set d (.aG (1000000000100000+1000*d) 0))
  |none=>none)else none
 |_=>none
structure Bn where
 a:Nat
 j:Nat
 t:TC
 run:List Pt->Option (Nat×Nat)
def tH(cc:Array Value)(a j:Nat):ah Value:=match cc[a]? with
 |some (.agg us)=>us[j]?
 |some u=>bif Nat.beq j 0 then some u else none
 |none=>none
def NL(P:Program)(f:Nat)(c:Bn):Prop:=
 ∀ (args:aa Pt) (p:Nat×Nat),c.run args=some p->∀ (w:World) (cc:Array Value),uR w args cc->Hd w (λ_=>none)->Calls P f cc w λe w'=>
  ∃A n cap,tH cc c.a c.j=some (.slice A n cap)/\p.1<=p.2/\p.2<=n/\e = .returned (sliced A p.1 p.2 cap (aF c.t))/\Below w.heap.size w w'
def ab1(σ:S)(args:aa Operand)(a j:Nat):ah Lf:=match args[a]? with
 | some x=>(match aI σ x with
  |.agg cs=>cs[j]?
  |.lf l=>bif Nat.beq j 0 then some l else none
  |_=>none)
 |none=>none
def Bo{X:Type}(N:Nat)(σ:S)(d:Nat)(c:Bn)(args:aa Operand)(k:S->ah X):ah X:=
 bif Nat.blt d N then mK σ args λps=>(match c.run ps with
  | some p=>(match ab1 σ args c.a c.j with
   |some (.v (.sl t g _ l))=>if t=c.t then (bif Nat.blt g 2&&Nat.ble p.1 p.2&&Nat.ble p.2 l.length then k (σ.set d (.lf (.v (.sl t g false ((l.take p.2).drop p.1)))))else none)else none
   |_=>none)
  |none=>none)else none
structure tJ where
 run:(X:Type)->Nat->S->List A->(S->A->Option X)->Option X
def qm(P:Program)(f:Nat)(c:tJ):Prop:=
 ∀ [Inhabited Wd] (X:Type) (N:Nat) (σ:S) (xs:aa A) (k:S->A->ah X) (r:X),c.run X N σ xs k=some r->∃ C y,k C y=some r/\(∀ (D:Type) (E:S->A->ah D),c.run D N σ xs E=E C y)/\
  ∀ (w0:Wd) (aj:bG) (ρ:Nat->Loc) (a:Act) (w:World) (cc:Array Value),Rl w0 N aj ρ σ a w->cc.size=xs.length->(∀ i,RA w w0.heap.size aj ρ ((xs[i]?).getD .undef) (cc.getD i undef))->
   Calls P f cc w λe w'=>∃v aE ρ',e = .returned v/\Rl w0 N aE ρ' C a w'/\RA w' w0.heap.size aE ρ' y v
inductive qp where
 |p (c:jo)
 |m (c:nM)
 |n (F:List Int->Option Int)
 |v (c:Bn)
 |i (c:tJ)
 |d (c:nM)
 |q (c:jo)
 |c (c:nM)
def VJ(P:Program)(f:Nat):qp->Prop
 |.p c=>iP P f c
 |.m c=>uS P f c
 |.n F=>NK P f F
 |.v c=>NL P f c
 |.i c=>qm P f c
 |.d c=>uS P f c
 |.q c=>iP P f c
 |.c c=>uS P f c
section
variable {P:Program} {w w':World} {w0:Wd} {B N:Nat} {aj dg aE:bG} {ρ eD ρ':Nat->Loc} {σ:S} {a:Act} {X:Type} {d:Nat} {r:X} {ns cn:aa Nat} {o:Oper}
def VK:∀ (xs:aa Lf) (k:aa V -> ah X),pn σ ns xs k=some r -> ∃ C,k C=some r/\cA (λX k=>pn (X:=X) σ ns xs k) C
 |[],k,h=>⟨[],h,λX k=>rfl⟩
 | x :: xs,k,h=>by
  unfold pn at h;cases D:Nr ns x with
  |false=>grind
  | true=>
   rw[D]at h;obtain⟨y,E,I⟩:=DY h;obtain⟨ys,J,L⟩:=VK xs _ E;exact⟨_,J,λX k=>by
    simp[pn,D];exact(I.at_ _).trans (L.at_ _)⟩
def ab2{x:A}{k:Pt -> ah X}(h:ow σ ns x k=some r):∃ p,k p=some r/\cA (λX k=>ow (X:=X) σ ns x k) p:=by
 unfold ow at h;split at h
 next y=>obtain⟨C,D,E⟩:=VK _ _ h;exact⟨_,D,λX k=>E X (λC=>k _)⟩
 next ys=>obtain⟨C,D,E⟩:=VK _ _ h;exact⟨_,D,λX k=>E X _⟩
 ·exact⟨_,h,λX k=>rfl⟩
 ·rename_i f J j;cases I:cx J ns with
  |true=>simp_all
  | false=>
   rw[I]at h;split at h
   ·rename_i cs L;split at h
    next c C O=>exact⟨_,h,λX k=>by simp[ow,I,au,L,O]⟩
    ·cases h
   ·cases h
 ·cases h
def Bp:∀ (ps:aa PK) (xs:aa Operand) (C:aa Mu) (k:kB ps -> ah X),iy σ ns ps xs C k=some r -> ∃ x,k x=some r/\cA (λX k=>iy (X:=X) σ ns ps xs C k) x
 |[],[],[],k,h=>⟨(),h,λX k=>rfl⟩
 | .v b t :: ps,x :: xs,C,k,h=>by
  unfold iy at h;obtain⟨p,D,L⟩:=ab2 h;cases hb:p.1==b with
  |false=>rw[hb]at D;cases D
  | true=>
   rw[hb,ak]at D;split at D
   ·rename_i y E;obtain⟨ys,I,J⟩:=Bp ps xs C _ D;exact⟨_,I,λX k=>by
     show ow σ ns _ _=_;refine(L.at_ _).trans ?_;rw[hb,E];exact J.at_ _⟩
   ·cases D
 | .p t g off :: ps,x :: xs,.aB O cs Q :: C,k,h=>by
  unfold iy at h;split at h
  ·rename_i y E;obtain⟨ys,I,J⟩:=Bp ps xs C _ h;exact⟨_,I,λX k=>by
    simp[iy,E];exact J.at_ _⟩
  ·cases h
 | .s t g :: ps,x :: xs,.sl q T :: C,k,h=>by
  unfold iy at h;split at h
  ·rename_i y E;obtain⟨ys,I,J⟩:=Bp ps xs C _ h;exact⟨_,I,λX k=>by
    simp[iy,E];exact J.at_ _⟩
  ·cases h
 |[],[],_::_,k,h=>by cases h
 |[],_::_,_,k,h=>by cases h
 |.v _ _::_,[],_,k,h=>by cases h
 |.p _ _ _::_,[],_,k,h=>by cases h
 |.s _ _::_,[],_,k,h=>by cases h
 |.p _ _ _::_,_::_,[],k,h=>by cases h
 |.s _ _::_,_::_,[],k,h=>by cases h
 |.p _ _ _::_,_::_,.sl _ _::_,k,h=>by cases h
 |.s _ _::_,_::_,.aB _ _ _::_,k,h=>by cases h
def ab3{D:ah Tmp}{E:fW}{k:S -> ah X}(h:mN N σ D E k=some r):∃ I,k I=some r/\cA (λX k=>mN (X:=X) N σ D E k) I:=by
 unfold mN at h;cases D with
 |none=>exact⟨σ,h,λX k=>rfl⟩
 | some d=>
  have h:(bif Nat.blt d N then _ else none)=some r:=h;cases C:Nat.blt d N with
  |false=>rw[C]at h;cases h
  | true=>
   rw[C,ak]at h;cases E with
   | one p=>
    simp only at h;split at h
    next y J=>exact⟨_,h,λX k=>by simp[mN,C,ak,J]⟩
    ·cases h
   |cR ps=>exact⟨_,h,λX k=>by simp[mN,C,ak]⟩
def VL{J:ah Tmp}{c:nM}{args:aa Operand}{k:S -> ah X}(h:l6 N σ J c args k=some r):∃ D,k D=some r/\cA (λX k=>l6 (X:=X) N σ J c args k) D:=by
 unfold l6 at h;split at h
 ·rename_i E L;cases I:(once (kC 0 E)&&Nat.ble E.length 40)with
  |false=>rw[I]at h;cases h
  | true=>
   rw[I,ak]at h;obtain⟨x,C,O⟩:=Bp _ _ _ _ h;split at C
   ·rename_i y Q;unfold zf at C;generalize T:Bd N E (iR (eH c.ps) y.2) _=ok at C;cases ok with
    |false=>cases C
    | true=>
     rw[ak]at C;obtain⟨D,U,Y⟩:=ab3 C;exact⟨D,U,λX k=>by
      simp[l6,L,I];refine(O X _).trans ?_;simp[Q,zf,T];exact Y.at_ _⟩
   ·cases C
 ·cases h
def aoq{F:aa Int -> ah Int}{x:A}{k:S -> ah X}(h:Bm N σ d F x k=some r):∃ C,k C=some r/\cA (λX k=>Bm (X:=X) N σ d F x k) C:=by
 unfold Bm at h;split at h
 ·cases D:Nat.blt d N with
  |false=>simp_all
  | true=>
   rw[D]at h;split at h
   next z E=>exact⟨_,h,λX k=>by simp[Bm,D,ak,E]⟩
   ·cases h
 ·cases h
def aor{f:Nat}{x:Operand}{args:Array Operand}{O:Array TypeId}{F:aa Int -> ah Int}{k:S -> ah X}(ho:o.op = .call { callee:=.value (.func f),args,argTypes:=O })(hx:args.toList=[x])(hd:o.dst=some d)(he:enters P f)(hc:NK P f F)(h:Bm N σ d F (aI σ x) k=some r):
  ∃T,k T=some r/\lS P w0 N o σ T:=by
 unfold Bm at h;split at h
 ·rename_i q l hq;cases E:Nat.blt d N with
  |false=>rw[E]at h;cases h
  | true=>
   rw[E,ak]at h;have DO:d<N:=cL E;split at h
   ·rename_i U hhz
    refine⟨_,h,λa w K Q hR hK=>?_⟩
    obtain⟨aj,ρ,hR⟩:=hR;have I:=hR.aI x;rw[hq]at I;have wo:RV w w.heap.size (λ_=>none) [] (.sl .u8 0 false l) (a.eval x):=by
     have Y:RV w w.heap.size (λ_=>none) [] (.sl .u8 0 q l) (a.eval x):=I.2.gy;cases q with
     |false=>exact Y
     |true=>exact Y.wk (.q _ _ _)
    unfold Oper.wp;rw[Nl w o a f args O ho he,Oper.upon_enter];have wD:(args.map a.eval) = #[a.eval x]:=by apply Array.ext';rw[Array.toList_map,hx];rfl
    rw[wD]
    refine(hc w l _ _ hhz wo (w0.on hR.below (λ_ _ h=>by cases h))).mono λe w' rm=>?_
    obtain⟨b,off,cells,t,rfl,J,hb,Z,tD,HH,nE⟩:=rm;have hB:=hR.below.size;have lW:b<w'.heap.size:=(gd.1 Z).1;have sy:Rl w0 N (bW aj b (some [1000000000100000+1000*d])) ρ σ a w':=by
     refine hR.grow J (λc L=>cB _ _ _ (by omega)) (λc k L D=>?_)
     by_cases e:c=b
     ·subst e;rw[ck]at D;injection D with D
      grind
     ·rw[cB _ _ _ e]at D;have:=(hR.cX c k D).2.1;omega
    have oy:=sy.new (d:=1000000000100000+1000*d) (x:=.aB [.v (.sl .u8 0 q l),.v (.int .i64 0),.v (.int .i64 U)]) (.aB b off) (by
     refine .aB b off cells t _ (λj=>(#[a.eval x,.int .i64 0,.int .i64 U]:Array Value).getD j undef) (ck _ _ _) (ck _ _ _) Z (by
      have:=(gd.1 nE).1;simp;omega) (λj y C=>?_)
     have G7:dA w' w0.heap.size (bW aj b (some [1000000000100000+1000*d])) (bW ρ (1000000000100000+1000*d) (.aB b off)) (.v (.sl .u8 0 q l)) (a.eval x):=by
      refine⟨rfl,I.2.fV J.size (λc L=>⟨J.block c L,cB _ _ _ (by omega)⟩)⟩
     match j,C with
     |0,C=>simp at C;subst C;exact⟨tD,G7⟩
     |1,C=>simp at C;subst C;exact⟨HH,rfl,.int _ _ _⟩
     |2,C=>simp at C;subst C;exact⟨nE,rfl,.int _ _ _⟩
     |j+3,C=>simp at C) (hR.dx _ (.inr (by omega)))
    rw[hd];exact hK _ _ ⟨_,_,oy.set ⟨b,off,ck _ _ _,rfl⟩ DO⟩
   ·cases h
 ·cases h
def aos{f:Nat}{args:Array Operand}{L:Array TypeId}{c:Bn}{k:S -> ah X}(Z:o.op = .call { callee:=.value (.func f),args,argTypes:=L })(hd:o.dst=some d)(he:enters P f)(hc:NL P f c)(h:Bo N σ d c args.toList k=some r):∃ O,k O=some r/\lS P w0 N o σ O:=by
 unfold Bo at h;cases T:Nat.blt d N with
 |false=>grind
 | true=>
  rw[T,ak]at h;have DO:d<N:=by have:=cL T;omega
  obtain⟨ps,E,mL⟩:=UN (w0:=w0) (N:=N) _ _ h;split at E
  ·rename_i p hp;split at E
   ·rename_i t g q l hl;split at E
    ·rename_i lX;cases hb:(Nat.blt g 2&&Nat.ble p.1 p.2&&Nat.ble p.2 l.length)with
     |false=>grind
     | true=>
      rw[hb,ak]at E;rw[aO,aO]at hb;have U:g<2:=by have:=cL hb.1.1;omega
      have kz:=cL hb.1.2;have h2l:=cL hb.2
      refine⟨_,E,λa w K Q hR hK=>?_⟩
      obtain⟨aj,ρ,hR⟩:=hR;unfold Oper.wp;rw[Nl w o a f args L Z he,Oper.upon_enter];have wD:(args.map a.eval)=(args.toList.map a.eval).toArray:=by apply Array.ext';rw[Array.toList_map]
      rw[wD]
      refine(hc ps p hp w _ (mL aj ρ a w hR) (w0.on hR.below (λ_ _ h=>by cases h))).mono λe w' rm=>?_
      obtain⟨A,n,cap,C,hle,hn,rfl,J⟩:=rm;have nI:RV w w0.heap.size aj [] (.sl t g q l) (.slice A n cap):=by
       unfold ab1 at hl;split at hl
       ·rename_i x hx;have hev:((args.toList.map a.eval).toArray)[c.a]?=some (a.eval x):=by
         rw[List.getElem?_toArray,dz,hx];rfl
        unfold tH at C;rw[hev]at C;have D:=hR.aI x;split at hl
        next cs jN=>rw[jN]at D;obtain⟨us,mG,VM⟩:=D;rw[mG]at C;obtain⟨u,I,hr⟩:=VM.2 _ _ hl;simp only at C;rw[C]at I;injection I with I;subst I;exact hr.2
        ·rename_i lf wC;rw[wC]at D;cases hj:Nat.beq c.j 0 with
         |false=>grind
         | true=>
          rw[hj]at hl C;injection hl with hl;subst hl;have D:dA w w0.heap.size aj ρ (.v (.sl t g q l)) (a.eval x):=D;have Y:∀ us,a.eval x ≠ .agg us:=by
           intro us e;rw[e]at D;cases D.2
          generalize a.eval x=z at C D Y;cases z<;>first|exact absurd rfl (Y _)|(simp only[ak,iE]at C;cases C;exact D.2)|(simp only[ak,iE]at C;cases C)
        ·cases hl
       ·cases hl
      obtain⟨VN,DL,UJ⟩:=nI.part (a:=p.1) (h:=p.2) U kz h2l;subst lX;rw[hd];have gA:=hR.grow J (aE:=aj) (λ_ _=>rfl) (λb k hb hk=>absurd (hR.cX b k hk).2.1 (Nat.not_lt.2 hb));refine hK _ _ ⟨aj,ρ,gA.set ⟨by simp[V.aD,U],?_⟩ DO⟩;exact VN.fV J.size λb hb=>⟨J.block b hb,rfl⟩
    ·cases E
   ·cases E
  ·cases E
def aot{c:Bn}{args:aa Operand}{k:S -> ah X}(h:Bo N σ d c args k=some r):∃ D,k D=some r/\cA (λX k=>Bo (X:=X) N σ d c args k) D:=by
 unfold Bo at h;cases E:Nat.blt d N with
 |false=>simp_all
 | true=>
  rw[E,ak]at h;obtain⟨ps,C,I⟩:=VB _ _ h;split at C
  ·rename_i p J;split at C
   ·rename_i t g q l hl;split at C
    ·rename_i L;cases hb:(Nat.blt g 2&&Nat.ble p.1 p.2&&Nat.ble p.2 l.length)with
     |false=>simp_all
     | true=>
      rw[hb]at C
      refine⟨_,C,λX k=>?_⟩
      simp[Bo,E];exact(I.at_ _).trans (by simp[J,hl,bA L,hb,ak])
    ·cases C
   ·cases C
  ·cases C
/-! Calls of functions that are run in the state of their caller. -/
def D0{X:Type}(N:Nat)(σ:S)(C:ah Tmp)(c:tJ)(xs:aa A)(k:S->ah X):ah X:=c.run X N σ xs λD y=>iu N D C y k
def aou(p:Nat×Nat):A:=.aG p.1 p.2
def HI(σ:S):aa Operand->ah (aa (Nat×Nat))
 |[]=>some []
 | x :: xs=>match aI σ x,HI σ xs with
  |.aG r j,some ps=>some ((r,j)::ps)
  |_,_=>none
def aov(w:World)(o:Oper)(a:Act)(f:Nat)(cl:Operand)(C:Array Value)(args:Array Operand)(E:Array TypeId)(I:o.op = .call { callee:=.value cl,args,argTypes:=E })(J:a.eval cl = .func (.func f) #[] C)(L:enters P f):
  (execOp a.eval o).run P w = .ok (.enter f (args.map a.eval++C)) w:=by
 obtain⟨fn,O,Q,D⟩:=L;have T:¬ fn.name = "runtime.NumGoroutine":=by simpa using Q
 have U:¬ fn.body=none:=by intro e;rw[e]at D;cases D
 simp[execOp,I,resolve,J,Deferred.ofValue,invoke,callFunc,Sem.run,O,T,U]
def NM:A->ah (Nat×aa A)
 |.fn f cap=>some (f,cap.map aou)
 |.kA f cs=>some (f,[.gW cs])
 |_=>none
def aow{x:A}{f:Nat}{ex:aa A}{u:Value}(h:NM x=some (f,ex))(L:RA w B aj ρ x u):∃ D:Array Value,u = .func (.func f) #[] D/\D.size=ex.length /\ ∀ (j:Nat) y,ex[j]?=some y -> RA w B aj ρ y (D.getD j undef):=by
 unfold NM at h;split at h
 ·rename_i U cap;injection h with h;injection h with E I;subst E I;obtain⟨D,O,Q,T⟩:=L
  refine⟨D,O,by simp[Q],λj y C=>?_⟩
  rw[dz]at C;cases J:cap[j]? with
  |none=>simp_all
  | some p=>
   rw[J]at C;injection C with C;subst C;obtain⟨b,off,E,I⟩:=T _ p J;rw[ij,I];exact⟨b,off,E,rfl⟩
 ·injection h with h;injection h with E I;subst E I;obtain⟨pv,e,J⟩:=L
  refine⟨#[pv],e,rfl,λj y C=>?_⟩
  rcases j with _|j
  ·injection C with C;subst C;exact J
  ·cases C
 ·cases h
def ab4{f:Nat}{cl:Operand}{ex:aa A}{args:Array Operand}{T:Array TypeId}{c:tJ}{k:S -> ah X}(ho:o.op = .call { callee:=.value cl,args,argTypes:=T })(uO:NM (aI σ cl)=some (f,ex))(he:enters P f)(hc:qm P f c)
  (h:D0 N σ o.dst c (args.toList.map (aI σ)++ex) k=some r):∃U,k U=some r/\lS P w0 N o σ U:=by
 unfold D0 at h
 haveI:Inhabited Wd:=⟨w0⟩
 obtain⟨Y,y,C,_,Hj⟩:=hc _ _ _ _ _ _ h;have step:∀ a w K Q,R w0 N σ a w -> (∀ v w' aE ρ',Rl w0 N aE ρ' Y a w' -> RA w' w0.heap.size aE ρ' y v -> K (a.put o.dst v) w') -> o.wp P a w K Q:=by
  intro a w K Q hR D;obtain⟨aj,ρ,hR⟩:=hR;obtain⟨I,hv,hs,lT⟩:=aow uO (hR.aI cl);unfold Oper.wp;rw[aov w o a f cl I args T ho hv he,Oper.upon_enter]
  refine(Hj w0 aj ρ a w _ hR (by simp[hs]) λi=>?_).mono λe w' rm=>?_
  ·by_cases hi:i<args.size
   ·have e1:(args.toList.map (aI σ)++ex)[i]?=some (aI σ args[i]):=by
     rw[List.getElem?_append_left (by simpa using hi),dz,Array.getElem?_toList,Array.getElem?_eq_getElem hi];rfl
    have J:(args.map a.eval++I).getD i undef=a.eval args[i]:=by
     rw[ij,Array.getElem?_append_left (by simpa using hi)];simp[hi]
    rw[e1,J];exact hR.aI _
   ·have e0:(args.toList.map (aI σ)++ex)[i]?=ex[i-args.size]?:=by
     rw[List.getElem?_append_right (by simp;omega)];simp
    rw[e0];cases hp:ex[i-args.size]? with
    |none=>trivial
    | some p=>
     have J:(args.map a.eval++I).getD i undef=I.getD (i-args.size) undef:=by
      rw[ij,Array.getElem?_append_right (by simp;omega),ij];simp
     rw[J];exact lT _ p hp
  ·obtain⟨v,aE,ρ',rfl,E,L⟩:=rm;exact D v w' aE ρ' E L
 unfold iu at C;split at C
 ·rename_i O
  refine⟨Y,C,λa w K Q hR D=>step a w K Q hR λv w' aE ρ' E _=>?_⟩
  rw[O];exact D _ _ ⟨aE,ρ',E⟩
 ·rename_i d O;cases Z:Nat.blt d N with
  |false=>grind
  | true=>
   rw[Z]at C
   refine⟨_,C,λa w K Q hR D=>step a w K Q hR λv w' aE ρ' E L=>?_⟩
   rw[O];exact D _ _ ⟨aE,ρ',E.set L (by have:=cL Z;omega)⟩
def ab5:∀ (xs:aa Operand) (ps:aa (Nat×Nat)),HI σ xs=some ps -> ps.length=xs.length /\ ∀ aj ρ a w,Rl w0 N aj ρ σ a w -> ∀ (j:Nat) p,ps[j]?=some p -> ∃ b off,ρ p.1 = .aB b off/\(xs.map a.eval)[j]?=some (.pointer (some ⟨b,off+p.2,none⟩))
 | [],ps,h=>by
  simp only[HI,iE]at h;simp_all
 | x :: xs,ps,h=>by
  unfold HI at h;split at h
  ·rename_i rr j I J L;injection h with h;subst h;obtain⟨O,Q⟩:=ab5 xs I L
   refine⟨by simp[O],λaj ρ a w hR C p D=>?_⟩
   cases C with
   | zero=>
    simp at D;subst D;have E:=hR.aI x;rw[J]at E;obtain⟨b,off,T,U⟩:=E;simp_all
   |succ C =>grind
  ·cases h
end
def A.zj(q s n:Nat):A->A
 |.lf (.own [C])=>bif Nat.beq C q then .view [q] s 0 n else .lf (.own [C])
 |x=>x
def S.zj(σ:S)(p:Nat×Nat×Nat):S:=⟨λk=>(σ.t k).zj p.1 p.2.1 p.2.2,σ.m⟩
def VO:aa (Nat×Nat×Nat)->S->S
 |[],σ=>σ
 |p::l,σ=>VO l (σ.zj p)
def VP(c0 g:Nat):Mu->aa (Nat×Nat×Nat)
 |.sl q (.sl t _ _ l)=>bif Nat.ble 1000000 g&&Nat.blt q c0 then [(q,aF t,l.length)]else []
 |_=>[]
def HJ(c0:Nat):aa PK->aa Mu->aa (Nat×Nat×Nat)
 |.v _ _::ps,C=>HJ c0 ps C
 |.p _ _ _::ps,_::C=>HJ c0 ps C
 |.s _ g::ps,D::C=>VP c0 g D++HJ c0 ps C
 |_,_=>[]
def Bq{X:Type}(N:Nat)(σ:S)(C:ah Tmp)(c:nM)(args:aa Operand)(k:S->ah X):ah X:=
 match jr σ c.ps args with
 |some D=>l6 N σ C c args λE=>k (VO (HJ (iz C) c.ps D) E)
 |none=>none
section
variable {P:Program} {w w':World} {w0:Wd} {B N:Nat} {aj dg aE:bG} {ρ eD ρ':Nat->Loc} {σ:S} {a:Act} {X:Type} {d:Nat} {r:X} {o:Oper}
def Rl.zj{p:Nat×Nat×Nat}{ad:ah Addr}{c:Nat}(h:Rl w0 N aj ρ σ a w)(E:ρ p.1 = .dM (.slice ad p.2.2 c)):Rl w0 N aj ρ (σ.zj p) a w:=by
 refine⟨h.below,h.cX,h.root,λk=>?_,h.size,h.defers,h.fix,h.dx⟩
 have C:=h.tmp k;show RA _ _ _ _ ((σ.t k).zj p.1 p.2.1 p.2.2) _;generalize σ.t k=x at C;unfold A.zj;split
 ·rename_i I;cases hb:Nat.beq I p.1 with
  |false=>exact C
  | true=>
   obtain rfl:=cD hb;have D:=C.2;simp only[cN,E]at D;injection D with D;refine⟨ad,p.2.2,c,by simp[cN,E],Nat.zero_le _,eK _,?_⟩;rw[<- D];cases ad<;>simp[sliced,Addr.add]
 ·exact C
def ab6:∀ (l:aa (Nat×Nat×Nat)) (σ:S),Rl w0 N aj ρ σ a w->(∀ p∈l,∃ A c,ρ p.1 = .dM (.slice A p.2.2 c))->Rl w0 N aj ρ (VO l σ) a w
 |[],σ,h,_=>h
 | p :: l,σ,h,hl=>by
  obtain⟨A,c,C⟩:=hl p (.head _);exact ab6 l _ (h.zj C) λp C=>hl p (.tail _ C)
def aox{c0 g:Nat}{D:Mu}{p:Nat×Nat×Nat}(h:p∈VP c0 g D):∃ q t o C l,D = .sl q (.sl t o C l)/\p=(q,aF t,l.length)/\q<c0:=by
 unfold VP at h;split at h
 ·rename_i q t o C l;cases hb:(Nat.ble 1000000 g&&Nat.blt q c0)with
  |false=>simp_all
  | true=>
   rw[hb]at h;rw[aO]at hb;exact⟨q,t,o,C,l,rfl,oT.1 h,cL hb.2⟩
 ·cases h
def NN{c0:Nat}{p:Nat×Nat×Nat}:∀ (ps:aa PK) (C:aa Mu),p∈HJ c0 ps C -> ∃ q t o D l,Mu.sl q (.sl t o D l)∈C/\p=(q,aF t,l.length)/\q<c0
 |.v _ _::ps,C,h=>NN ps C h
 |.p _ _ _::ps,J::C,h=>let ⟨q,t,o,D,l,I,E⟩:=NN ps C h;⟨q,t,o,D,l,.tail _ I,E⟩
 | .s _ g :: ps,J :: C,h=>by
  rcases List.mem_append.1 h with h|h
  ·obtain⟨q,t,o,D,l,rfl,E⟩:=aox h;exact⟨q,t,o,D,l,.head _,E⟩
  ·obtain⟨q,t,o,D,l,I,E⟩:=NN ps C h;exact⟨q,t,o,D,l,.tail _ I,E⟩
def RV.aoy{q:aa Nat}{t:TC}{g:Nat}{C:Bool}{l:aa (T t)}{v:Value}(h:RV w B aj q (.sl t g C l) v):∃ A c,v = .slice A l.length c:=by
 cases h<;>exact⟨_,_,rfl⟩
def aoz{f:Nat}{args:Array Operand}{O:Array TypeId}{c:nM}{k:S->ah X}(T:o.op = .call { callee:=.value (.func f),args,argTypes:=O })(U:enters P f)(Y:uS P f c)(h:Bq N σ o.dst c args.toList k=some r):∃ E,k E=some r/\lS P w0 N o σ E:=by
 unfold Bq at h;split at h
 ·rename_i mus I;obtain⟨rD,NO,cn,Z,D,_,h4,h5⟩:=Vo (w0:=w0) T U Y h;rw[I]at D;injection D with D;subst D
  refine⟨_,Z,λa w K Q hR hK=>?_⟩
  obtain⟨aj,ρ,hR⟩:=hR
  refine h5 a w K Q aj ρ hR λv w' dg eD uX gA hv _ dj=>hK _ _ ⟨dg,uX,ab6 _ _ gA λp hp=>?_⟩
  obtain⟨q,t,oo,qn,l,J,rfl,hq⟩:=NN _ _ hp;have nN:=(Nt _ _ _ I _ J).1;have L:=hR.root q _ nN;generalize C:aY.sl _=z at L;cases L with
  |aB=>cases C
  |mp=>cases C
  |gh=>cases C
  | sl u y UQ hr=>
   injection C with C;subst C;obtain⟨A,c,rfl⟩:=hr.aoy;exact⟨A,c,(dj q hq).trans ((hv.eC q (h4 _ J)).trans UQ)⟩
 ·cases h
def aoA{D:ah Tmp}{c:nM}{args:aa Operand}{k:S -> ah X}(h:Bq N σ D c args k=some r):∃ C,k C=some r /\ ∀ (X:Type) (k:S -> ah X),Bq N σ D c args k=k C:=by
 unfold Bq at h;split at h
 next L E=>obtain⟨C,I,J⟩:=VL h;exact⟨_,I,λX k=>by simp[Bq,E];exact J X _⟩
 ·cases h
end
def bG.un(aj:bG)(q:Nat):bG:=λb=>match aj b with
 |some k=>bif bK q k then none else some k
 |none=>none
def zk{X:Type}(P:Program)(σ:S)(q s i j:Nat)(t:TypeId)(x:A)(k:S->ah X):ah X:=
 match σ.m q with
 |some (.sl (.sl C (o+2) D l))=>bif Nat.beq s (aF C)&&Nat.beq (full C) 0 then nJ P (σ.drop q) t (x.drop q) (.lf (.v (.sl C 0 false ((l.take j).drop i)))) k else none
 |_=>none
section
variable {P:Program} {w w':World} {w0:Wd} {B N:Nat} {aj aE:bG} {ρ ρ':Nat->Loc} {σ:S} {a:Act} {X:Type} {d q:Nat} {r:X} {o:Oper} {y:V}
def aoB(C:∀ b,aj b≠some []):Rel q aj (aj.un q):=
 ⟨C,λb h=>by simp[bG.un,h],λb k h D=>by simp[bG.un,h,D]⟩
def RV.ice{C:TC}{g:Nat}{O:Bool}{l:aa (T C)}{A:ah Addr}{n c:Nat}(E:RV w B aj [q] (.sl C (g+2) O l) (.slice A n c))(Y:full C=0):RV w B (aj.un q) [] (.sl C 0 false l) (.slice A n c)/\n=l.length:=by
 cases E with
 |cS=>exact⟨.cS _ _ _,rfl⟩
 |cZ=>grind
 |de=>grind
 |aD _ _ _ _ _ _ _ _ _ Z=>omega
 | own=>
  rename_i b cs u hl J hc E hs Q hm;have L:∀ (i:Nat) (h:i<l.length) (j:Nat) (x:V),(enc C 0 l[i])[j]?=some x -> (enc C g l[i])[j]?=some x/\x.plain=true:=by
   intro i h j x D;obtain⟨y,I,rfl⟩:=vX C g l[i] j x D;have U:=MP C g l[i] y (fT I);cases y with
   | sl t' o' q' l'=>
    have:=cL (show Nat.ble _ _=true from U);omega
   | nil=>
    have:=Ub C g l[i] _ (fT I);cases this
   |_=>exact⟨I,rfl⟩
  refine⟨.aD _ _ _ _ _ b 0 c u (by omega) (by simp[bG.un,hl,bK]) (gd.1 J).1 (by omega) Q (λi h j x D=>?_) (λi h j x D=>?_),rfl⟩
  ·rw[fj,cell_of_row w b _ cs _ _ J];simp_all
  ·exact(E i h j x (L i h j x D).1).th (L i h j x D).2
def aoC{s i j:Nat}{t:TypeId}{x:A}{k:S -> ah X}(h:zk P σ q s i j t x k=some r):∃ E,k E=some r /\ ∀ aj ρ a w,Rl w0 N aj ρ σ a w -> ∀ u v,RA w w0.heap.size aj ρ x u -> RA w w0.heap.size aj ρ (.view [q] s i j) v ->
  ∃w' aE,(Instr.storeAt t u v).run P w = .ok () w'/\Rl w0 N aE ρ E a w':=by
 unfold zk at h;split at h
 ·rename_i I g U l Y;cases hb:(Nat.beq s (aF I)&&Nat.beq (full I) 0)with
  |false=>rw[hb]at h;cases h
  | true=>
   rw[hb,ak]at h;rw[aO]at hb;obtain rfl:=cD hb.1;have Z:=cD hb.2;obtain⟨E,h1,hs⟩:=aaP (w0:=w0) (N:=N) h
   refine⟨E,h1,λaj ρ a w hR u v hu hv=>?_⟩
   have J:Rel q aj (aj.un q):=aoB hR.we;have sy:=hR.rel J (λb k C=>by
    unfold bG.un at C;cases hl:aj b with
    |none=>rw[hl]at C;cases C
    | some L=>
     rw[hl]at C;simp only at C;cases O:bK q L with
     |true=>rw[O]at C;cases C
     | false=>
      rw[O]at C;injection C with C;subst C;exact⟨⟨_,rfl⟩,(hR.cX b L hl).2.2⟩)
   obtain⟨A,n,c,Q,h3,h4,rfl⟩:=hv;have T:=hR.root q _ Y;generalize D:aY.sl (.sl I (g+2) U l)=z at T;cases T with
   |aB=>cases D
   |mp=>cases D
   |gh=>cases D
   | sl vq y dj hr=>
    injection D with D;subst D;have hvq:vq = .slice A n c:=by
     simp only[cN,dj]at Q;injection Q
    subst hvq;obtain⟨h5,h6⟩:=hr.ice Z;have h7:=(h5.part (by omega) h3 (by omega)).1;obtain⟨w',dZ,oy⟩:=hs _ _ _ _ sy u _ (hu.rel J) (show RA _ _ _ _ (.lf (.v _)) _ from ⟨rfl,h7⟩);exact⟨w',_,dZ,oy⟩
 ·cases h
def aoD{s i j:Nat}{t:TypeId}{x:A}{k:S -> ah X}(h:zk P σ q s i j t x k=some r):∃ C,k C=some r/\cA (λX k=>zk (X:=X) P σ q s i j t x k) C:=by
 unfold zk at h;split at h
 ·rename_i D g L l E;cases hb:(Nat.beq s (aF D)&&Nat.beq (full D) 0)with
  |false=>simp_all
  | true=>
   rw[hb]at h;obtain⟨C,I,J⟩:=abS h;exact⟨C,I,λX k=>by simp[zk,E,hb];exact J.at_ _⟩
 ·cases h
def zl{X:Type}(P:Program)(σ:S)(t:TypeId)(x lo hi C:A)(k:ah X):ah X:=
 match x,lo,hi,C with
 | .lf (.own q),.lf (.v (.int _ a)),.lf (.v (.int _ b)),.lf (.v (.int _ c))=>(match qb P t with
  | some e=>(match jm P e with
   | some _=>gz σ.m q λy=>(match y with
    |.sl _ _ _ l=>if 0<=a/\a<=b/\b<=c/\c<=(l.length:Int)then k else none
    |_=>none)
   |none=>none)
  |none=>none)
 |_,_,_,_=>none
def aoE{t:TypeId}{x lo hi Q:A}{k:ah X}(h:zl P σ t x lo hi Q k=some r):k=some r /\
  ∀aj ρ a w,Rl w0 N aj ρ σ a w -> ∀u I J L,RA w w0.heap.size aj ρ x u -> RA w w0.heap.size aj ρ lo I -> RA w w0.heap.size aj ρ hi J -> RA w w0.heap.size aj ρ Q L -> ∃v,(Instr.sliceAt t u (some I) (some J) (some L)).run P w = .ok v w:=by
 unfold zl at h;split at h
 ·rename_i q kl a kh b km c;split at h
  ·rename_i e O;split at h
   ·rename_i n T;obtain⟨y0,UK,C⟩:=sj q _ h;split at C
    ·rename_i tc g qn xs;split at C
     ·rename_i hb
      refine⟨C,λaj ρ ac w hR u I J L U hl hh hm=>?_⟩
      rw[hl.2.gE,hh.2.gE,hm.2.gE];have Y:P.underlying t=some (.slice e):=by
       unfold qb at O;split at O
       ·grind
       ·cases O
      have Z:P.elem t=e:=by simp[Program.elem,Y]
      have ab7:P.underlying t=some (.slice (P.elem t)):=by rw[Z];exact Y
      have hss:(sizeOf (P.elem t)).run P w = .ok n w:=by
       unfold jm at T;cases hi:P.info? e with
       |none=>grind
       | some i=>
        have:i.size=n:=by simpa [hi]using T
        simp[sizeOf,typeInfo,Z,hi,this]
      obtain⟨v0,wo,lY⟩:=UK.ok hR.root;have gi:∃ D n c,u = .slice D n c:=by
       have:=U.1;cases u<;>first|cases this;done|exact⟨_,_,_,rfl⟩
      obtain⟨D,n',c',rfl⟩:=gi;have E:=U.2;rw[wo]at E;injection E with E;subst E;have hf:RV w 0 (λ_=>none) [] (.sl tc 0 qn xs) (.slice D n' c'):=lY.gy;obtain⟨_,DL,UJ⟩:=RV.part (w:=w) hf (a:=0) (h:=xs.length) (by omega) (by omega) (by omega);refine⟨sliced D a.toNat b.toNat c.toNat n,?_⟩;rw[run_sliceAt_slice w t _ _ _ _ ab7,run_slice_lhm w t D n' c' ab7 kl kh km a b c hb.1 hb.2.1 hb.2.2.1 (by omega),hss];rfl
     ·cases C
    ·cases C
   ·cases h
  ·cases h
 ·cases h
end
section
variable {P:Program} (w:World)
end
section
variable {P:Program} {w w':World} {w0:Wd} {B N:Nat} {aj aE:bG} {ρ ρ':Nat->Loc} {σ:S} {a:Act} {X:Type} {d:Nat} {r:X}
end
def mP(l:aa (Int×Bool))(k:Int):Bool:=match l with
 |[]=>false
 |p::ps=>bif k==p.1 then p.2 else mP ps k
def nP(l:aa (Int×Bool))(k:Int)(v:Bool):aa (Int×Bool):=match l with
 |[]=>[(k,v)]
 |p::ps=>bif k==p.1 then (k,v)::ps else p::nP ps k v
def D1(P:Program)(t:TypeId):Bool:=match P.underlying t with
 | some (.map k e)=>(match P.underlying k with
  |some (.int .i64)=>true
  |_=>false)&&(match zeroOf P e with
  |some (.bool false)=>true
  |_=>false)
 |_=>false
def NP{X:Type}(N:Nat)(σ:S)(d:Nat)(k:S->ah X):ah X:=iw N σ d (.mp []) (.pk d p7) k
def HK{X:Type}(P:Program)(σ:S)(t:TypeId)(x i:A)(k:A->ah X):ah X:=
 match x,i with
 | .pk r n,.lf (.v (.int .i64 key))=>bif Nat.beq n p7&&D1 P t then (match σ.m r with
  |some (.mp l)=>k (.lf (.v (.bool (mP l key))))
  |_=>none)else none
 |_,_=>none
def HL{X:Type}(P:Program)(σ:S)(t:TypeId)(x i v:A)(k:S->ah X):ah X:=
 match x,i,v with
 | .pk r n,.lf (.v (.int .i64 key)),.lf (.v (.bool b))=>bif Nat.beq n p7&&D1 P t then (match σ.m r with
  |some (.mp l)=>k ⟨σ.t,bW σ.m r (some (.mp (nP l key b)))⟩
  |_=>none)else none
 |_,_,_=>none
section
variable {P:Program} {w w':World} {w0:Wd} {B N:Nat} {aj aE:bG} {ρ ρ':Nat->Loc} {σ:S} {a:Act} {X:Type} {d:Nat} {r:X} {o:Oper}
def ab8{t:TypeId}(h:D1 P t=true):∃ k e i,P.underlying t=some (.map k e)/\P.underlying k=some (.int .i64)/\P.info? e=some i/\i.zero=some (.bool false):=by
 unfold D1 at h;split at h
 ·rename_i k e D;rw[aO]at h;obtain⟨E,I⟩:=h;have J:P.underlying k=some (.int .i64):=by
   grind
  have C:zeroOf P e=some (.bool false):=by
   grind
  unfold zeroOf at C;cases hi:P.info? e with
  |none=>simp_all
  |some i =>grind
 ·cases h
def Rl.newObj{D:Obj}{x:aY}{ρ':Nat -> Loc}(h:Rl w0 N aj ρ σ a w)(E:w0.F d=none)(I:∀ r,r≠d -> ρ' r=ρ r)
  (J:eF (w.alloc D) w0.heap.size (bW aj w.heap.size (some [d])) ρ' d x):Rl w0 N (bW aj w.heap.size (some [d])) ρ' ((σ.drop d).root d x) a (w.alloc D):=by
 refine h.yM E (ja.aaW w0 w _ h.below.size) ⟨by simp,λb hb _=>Below.heap_alloc w _ b hb,λb hb=>cB _ _ _ (by omega),λb hb=>(h.cX b [] hb).2.2 rfl⟩ (λb k hb C=>?_) I J
 by_cases e:b=w.heap.size
 ·subst e;rw[ck]at C;injection C with C;subst C;simp_all
 ·rw[cB _ _ _ e]at C;have:=(h.cX b k C).2.1;omega
def aoF{t:TypeId}{k:S -> ah X}(h:NP N σ d k=some r):∃ C,k C=some r /\ ∀ aj ρ a w,Rl w0 N aj ρ σ a w -> ∃ w' aE ρ' v,(Instr.makeMap t none).run P w = .ok v w'/\Rl w0 N aE ρ' C (a.put (some d) v) w':=by
 obtain⟨D,h⟩:=oY h
 refine⟨_,h,λaj ρ a w hR=>?_⟩
 have E:(Instr.makeMap t none).run P w = .ok _ _:=rfl
 refine⟨_,bW aj _ _,bW ρ d _,_,E,(hR.newObj (hR.dx d (.inl D)) (λr I=>cB _ _ _ I) ?_).set ⟨w.heap.size,ck _ _ _,(Ue _).symm⟩ D⟩
 exact .mp _ 0 #[] [] (ck _ _ _) (ck _ _ _) (heap_alloc_new w _) rfl
def aoG{k:S->ah X}(h:NP N σ d k=some r):∃ C,k C=some r/\cA (λX k=>NP (X:=X) N σ d k) C:=by
 obtain⟨D,E⟩:=wL h;exact⟨_,D,E⟩
def Br(l:aa (Int×Bool)):aa (Value×Value):=l.map λp=>(.int .i64 p.1,.bool p.2)
def VQ:∀ (C:aa MapEntry) (l:aa (Int×Bool)) (k:Int) (n:Nat),C.map (λe=>(e.key,e.val))=Br l ->
  (Instr.findNow (.int .i64) (.int .i64 k) C n=some none/\mP l k=false /\ ∀v,nP l k v=l++[(k,v)]) \/
  (∃i b,Instr.findNow (.int .i64) (.int .i64 k) C n=some (some (n+i,.bool b))/\mP l k=b /\ ∃h:i<C.length,C[i].key = .int .i64 k /\ ∀v,Br (nP l k v)=(C.modify i λe=>{ e with key:=.int .i64 k,val:=.bool v }).map (λe=>(e.key,e.val)))
 |[],[],k,n,_=>.inl ⟨rfl,rfl,λv=>rfl⟩
 |[],_::_,k,n,h=>by cases h
 |_::_,[],k,n,h=>by cases h
 | e :: C,p :: l,k,n,h=>by
  have h:(e.key,e.val) :: C.map (λe=>(e.key,e.val))=(.int .i64 p.1,.bool p.2) :: Br l:=h;injection h with Q J;injection Q with L T;have D:Instr.sameNow (.int .i64) (.int .i64 k) e.key=some (k==p.1):=by
   rw[L];simp[Instr.sameNow]
  cases hb:(k==p.1)with
  | true=>
   have U:k=p.1:=by simpa using hb
   refine .inr ⟨0,p.2,?_,by simp only[mP,hb,ak],by simp,by simp[L,U],λv=>?_⟩
   ·simp only[Instr.findNow,D,hb,T];rfl
   ·simp only[nP,hb];simp;show _::Br l=_;rw[J]
  | false=>
   rcases VQ C l k (n+1) J with ⟨O,E,I⟩|⟨i,b,O,E,hi,I,a4⟩
   ·refine .inl ⟨?_,by simp[mP,hb,au,E],λv=>by simp only[nP,hb,I];rfl⟩
    simp[Instr.findNow,D,hb];exact O
   ·refine .inr ⟨i+1,b,?_,by simp only[mP,hb,au,E],by simpa using hi,by simpa using I,λv=>?_⟩
    ·simp[Instr.findNow,D,hb]
     grind
    ·simp only[nP,hb];simp;show _ :: Br _=_
     grind
def NQ{kt:TypeId}{k:Int}{C:aa MapEntry}{z:ah (Nat×Value)}(D:P.underlying kt=some (.int .i64))(h:Instr.findNow (.int .i64) (.int .i64 k) C 0=some z):(Instr.findKey kt (.int .i64 k) C).run P w = .ok z w:=by
 unfold Instr.findKey;simp only[fm,gJ D,ki,h];rfl
def ab9{t:TypeId}{x i:A}{k:A -> ah X}(h:HK P σ t x i k=some r):∃ v,k v=some r/\cA (λX k=>HK (X:=X) P σ t x i k) v /\ ∀ aj ρ a w,Rl w0 N aj ρ σ a w -> ∀ u z,RA w w0.heap.size aj ρ x u -> RA w w0.heap.size aj ρ i z ->
  ∃y,(Instr.lookup t u z false).run P w = .ok y w/\RA w w0.heap.size aj ρ v y:=by
 unfold HK at h;split at h
 ·rename_i rr n key;cases hb:(Nat.beq n p7&&D1 P t)with
  |false=>grind
  | true=>
   rw[hb,ak]at h;split at h
   ·rename_i l J
    refine⟨_,h,λX k=>by simp only[HK,hb,ak,J],λaj ρ a w hR u z T D=>?_⟩
    rw[aO]at hb;obtain⟨kt,U,ti,Y,E,hi,Z⟩:=ab8 hb.2;have hn:=cD hb.1;subst hn;obtain⟨b,dj,rfl⟩:=T;have D:z = .int .i64 key:=by
     have h2:=D.2;cases h2;rfl
    subst D;have L:=hR.root rr _ J;generalize C:aY.mp l=y at L;cases L with
    |aB=>cases C
    |sl=>cases C
    |gh=>cases C
    | mp b' c es l' O hl hh NR=>
     injection C with C;subst C;rw[dj]at O;injection O with e1 _;subst e1;refine⟨.bool (mP l key),?_,rfl,.bool _ _⟩;rw[Ue];unfold Instr.lookup;simp only[fm,gJ Y,ki,MapKept.run_getObj_map hh,Sem.run_pure];rw[MapKept.run_checkKey (k:=.int .i64 key) E rfl];simp only[ki];rcases VQ es.toList l key 0 NR with ⟨I,Q,_⟩|⟨i,v,I,Q,_⟩
     ·rw[NQ E I];have DG:(zeroValue U).run P w = .ok (.bool false) w:=by simp[zeroValue,typeInfo,hi,Z]
      simp_all
     ·rw[NQ E I];simp only[ Q,fm];rfl
   ·cases h
 ·cases h
def acd{t:TypeId}{x i v:A}{k:S -> ah X}(h:HL P σ t x i v k=some r):∃ L,k L=some r/\cA (λX k=>HL (X:=X) P σ t x i v k) L /\ ∀ aj ρ a w,Rl w0 N aj ρ σ a w -> ∀ u z y,RA w w0.heap.size aj ρ x u -> RA w w0.heap.size aj ρ i z -> RA w w0.heap.size aj ρ v y ->
  ∃w',(Instr.mapUpdate t u z y).run P w = .ok () w'/\Rl w0 N aj ρ L a w':=by
 unfold HL at h;split at h
 ·rename_i rr n key O;cases hb:(Nat.beq n p7&&D1 P t)with
  |false=>grind
  | true=>
   rw[hb,ak]at h;split at h
   ·rename_i l hm
    refine⟨_,h,λX k=>by simp only[HL,hb,ak,hm],λaj ρ a w hR u z y hu Q C=>?_⟩
    rw[aO]at hb;obtain⟨kt,et,ti,ht,T,hi,hz0⟩:=ab8 hb.2;have hn:=cD hb.1;subst hn;obtain⟨b,dj,rfl⟩:=hu;have Q:z = .int .i64 key:=by
     have U:=Q.2;cases U;rfl
    subst Q;have C:y = .bool O:=by
     have U:=C.2;cases U;rfl
    subst C;have gF:=hR.root rr _ hm;generalize D:aY.mp l=y at gF;cases gF with
    |aB=>cases D
    |sl=>cases D
    |gh=>cases D
    | mp b' c es l' mH hl J NR=>
     injection D with D;subst D;rw[dj]at mH;injection mH with e1 _;subst e1;have VF:b<w.heap.size:=(gd.1 J).1;have Nz:∀ (E:Array MapEntry) (I:Nat),E.toList.map (λe=>(e.key,e.val))=Br (nP l key O) -> Rl w0 N aj ρ ⟨σ.t,bW σ.m rr (some (.mp (nP l key O)))⟩ a { w with heap:=w.heap.setIfInBounds b (.map E I) }:=by
      intro E I aoH;have Y:uH w { w with heap:=w.heap.setIfInBounds b (.map E I) } b:=by
       refine⟨by simp,rfl,rfl,rfl,λk hk=>?_⟩
       show _[k]?=_;rw[Array.getElem?_setIfInBounds_ne (Ne.symm hk)]
      have hC:qV w { w with heap:=w.heap.setIfInBounds b (.map E I) } aj ρ:=by
       intro k ad v ha hv gi;obtain⟨j',i',s',q,rfl,hq,_,_,hh'⟩:=vY k ad ha;have eI:ad.block≠b:=by
        grind
       exact(kf (Y.block _ eI)).trans hv
      refine hR.wrote Y hl hC λr' y C=>?_
      by_cases Z:r'=rr
      ·subst Z;rw[ck]at C;injection C with C;subst C;refine .mp b I E _ dj hl ?_ aoH;simp_all
      ·rw[cB _ _ _ Z]at C;exact(hR.root r' y C).wrote Y hl hC (Ui Z)
     rw[Ue];unfold Instr.mapUpdate;simp only[fm,gJ ht,ki,MapKept.run_getObj_map J,Sem.run_pure];rw[MapKept.run_checkKey (k:=.int .i64 key) T rfl];simp only[ki];rcases VQ es.toList l key 0 NR with ⟨a1,a2,a3⟩|⟨i,v,a1,a2,HC,a3,a4⟩
     ·rw[NQ T a1];simp;rw[MapKept.run_setObj_map _ J];refine⟨_,rfl,Nz _ _ ?_⟩;rw[a3];simp only[Array.toList_push,List.map_append,NR,Br];rfl
     ·rw[NQ T a1];simp only[ki,fj];have Vw:(es[i]?.map (·.key)).getD (.int .i64 key) = .int .i64 key:=by
       grind
      rw[Vw];have ld:(Instr.keyThatStays (.int .i64 key) (.int .i64 key)).run P w = .ok (.int .i64 key) w:=by
       unfold Instr.keyThatStays;simp[Instr.sameBits]
      simp only[fm];rw[ld];simp only[ki];rw[MapKept.run_setObj_map _ J];refine⟨_,rfl,Nz _ _ ?_⟩;rw[a4];simp
   ·cases h
 ·cases h
end
def HM(t:TypeId)(d:Nat)(x:Operand):Bool:=[(55,26,22)].any λ(p:Nat×Nat×Nat)=>Nat.beq p.1 t&&Nat.beq p.2.1 d&&(match x with
 |.tmp n=>Nat.beq n p.2.2 ||Nat.beq p.2.2 1000000
 |_=>false)
def Bt(C:ah Tmp)(t:TypeId)(x:Operand):Bool:=match C with
 |some d=>HM t d x
 |none=>false
def Bu{X:Type}(P:Program)(N:Nat)(σ:S)(d:Nat)(t:TypeId)(x y:A)(k:S->ah X):ah X:=
 match uN P t with
 | some (e,C)=>bif Nat.beq (full C) 0&&(zeroOf P e).any (λz=>Nat.beq z.cells.size (aF C))then qa σ y λD=>(match D.M5 C with
  |none=>none
  | some l2=>match x with
   | .lf (.own [r])=>(match σ.m r with
    |some (.sl (.sl E (o+2) true l))=>if h:E=C then (bif !jc l2&&bC (l.length+l2.length)then iw N σ d (.sl (.sl C (o+2) false ((h ▸ l)++l2))) (.lf (.own [d])) k else none)else none
    |_=>none)
   |_=>none)else none
 |none=>none
section
variable {P:Program} {w w':World} {w0:Wd} {B N:Nat} {aj aE:bG} {ρ ρ':Nat->Loc} {σ:S} {a:Act} {X:Type} {d:Nat} {r:X}
def Rl.aoI{t e ty:TypeId}{C:TC}{i:TypeInfo}{z:Value}{rr o g:Nat}{qn:Bool}{l l2:aa (T C)}{u v:Value}{q':aa Nat}{Bx:Nat}{Uz:bG}(h:Rl w0 N aj ρ σ a w)(hF:w0.F d=none)(Y:P.underlying t=some (.slice e))(ht:tid C=e)(hi:P.info? e=some i)(Z:i.zero=some z)
  (Q:i.size=aF C) (kZ:i.bytes <= 65536) (o6:z.cells.size=aF C) (hf:full C=0) (hd:RV w w0.heap.size aj [rr] (.sl C (o+2) true l) u) (hs:RV w Bx Uz q' (.sl C g qn l2) v) (eI:l2≠[]) (hlen:l.length+l2.length<1073741824):
  ∃E w' aE,(Builtin.append_ #[t,t] ty #[u,v]).run P w = .ok E w'/\Rl w0 N aE (bW ρ d (.dM E)) ((σ.drop d).root d (.sl (.sl C (o+2) false (l++l2)))) a w'/\mF E=true:=by
 subst ht;obtain⟨xs,I,aDg,GX,jb⟩:=hd.aaZ hf (B':=0) (λb _=>Nat.zero_le b);obtain⟨A,c,news,rfl,U,o7,GY⟩:=hs.reads hf;have gX:(l.length+l2.length)*i.bytes <= 140737488355328:=by
  have h1:(l.length+l2.length)*i.bytes <= 1073741824*65536:=Nat.mul_le_mul (by omega) kZ;omega
 have tu:0<l2.length:=List.length_pos_iff.2 eI;obtain⟨E,w',dZ,ace,hgr,lW⟩:=Tg (P:=P) w 0 t ty (tid C) i z (aF C) i.bytes Y hi Z Q rfl o6 (oV C) u l.length xs I _ A l2.length c news U o7 (by unfold maxLen;omega) gX (Nat.zero_le _);have GZ:(l++l2).length=l.length+l2.length:=List.length_append;have hex:∃ b,u = .slice (some ⟨b,0,none⟩) l.length l.length:=by
  cases hd with
  |aD _ _ _ _ _ _ _ _ _ ho=>omega
  |de _ _ _ _ _ ho=>omega
  |own _ _ _ _ _ b cap cs us hl hh hs hn hm hc hr=>exact⟨b,by rw[hm.2 rfl]⟩
 obtain⟨b,rfl⟩:=hex;obtain⟨J,L,rfl,_,jN⟩:=U.2 tu;have aoJ:∀ j x,news[j]?=some x -> w.cell? ((⟨J,L,none⟩:Addr).add j)=some x:=by
  intro j x hx;have My:(⟨J,L,none⟩:Addr).add j=⟨J,L+j,none⟩:=by unfold Addr.add;split<;>simp_all
  grind
 have acf:=run_append_grow (P:=P) w t ty (tid C) i z Y hi Z ⟨b,0,none⟩ l.length l.length xs (by rw[Q];exact I.1) (I.cells (g:=b) rfl) ⟨J,L,none⟩ l2.length c news (by rw[Q];exact U.1) aoJ (by omega) (by omega) (growslice_fits (by omega) gX);rw[dZ]at acf;injection acf with e1 e2;have hold:∀ k,k<w.heap.size -> w'.heap[k]?=w.heap[k]?:=by
  intro k D;rw[e2];exact heap_alloc_old _ _ D
 have hvb:E.ownBlock=some w.heap.size:=by rw[e1];rfl
 have ei:w.heap.size<w'.heap.size:=by rw[e2];simp
 rw[<- GZ]at ace;have A3:=jb.append GY I.1;have gi:mF E=true:=by rw[e1];rfl
 have O:Below 0 w w':=(Below.refl 0 w).grown hgr (Nat.zero_le _) (λ_ _=>Nat.zero_le _);have su:ja w0 w w':=⟨O.os,O.tape,O.output,O.size,λk D hL=>hold k (kO D h.below.size)⟩
 refine⟨E,w',bW aj w.heap.size (some [d]),dZ,h.yM hF su ⟨hgr.size,λb hb _=>hold b hb,λb hb=>cB _ _ _ (by omega),λb hb=>(h.cX b [] hb).2.2 rfl⟩ (λb k hb D=>?_) (λr hr=>cB _ _ _ hr) (.sl E _ (ck _ _ _) (Uy ace A3 (λb hb=>?_))),gi⟩
 ·by_cases e:b=w.heap.size
  ·subst e;rw[ck]at D;injection D with D
   grind
  ·rw[cB _ _ _ e]at D;have:=(h.cX b k D).2.1;omega
 ·rw[hvb]at hb;injection hb with hb;subst hb;exact ck _ _ _
def aoK{t ty:TypeId}{x y:A}{k:S -> ah X}(h:Bu P N σ d t x y k=some r):∃ O,k O=some r /\ ∀ aj ρ a w,Rl w0 N aj ρ σ a w -> ∀ u v,RA w w0.heap.size aj ρ x u -> RA w w0.heap.size aj ρ y v ->
  ∃w' aE ρ' z,(Builtin.append_ #[t,t] ty #[u,v]).run P w = .ok z w'/\Rl w0 N aE ρ' O (a.put (some d) z) w':=by
 unfold Bu at h;split at h
 ·rename_i e Q Z;obtain⟨iO,ht,i,hi,ga,kZ⟩:=yN Z;cases E:(Nat.beq (full Q) 0&&(zeroOf P e).any (λz=>Nat.beq z.cells.size (aF Q)))with
  |false=>grind
  | true=>
   rw[E,ak]at h;rw[aO]at E;have hf:=cD E.1;obtain⟨z,T,J⟩:=(Option.any_eq_true _ _).1 E.2;have J:=cD J;have oZ:i.zero=some z:=by unfold zeroOf at T;simpa [hi]using T
   obtain⟨yv,M8,C⟩:=aa0 (w0:=w0) (N:=N) h;clear h;split at C
   ·cases C
   ·rename_i l2 lV;split at C
    ·rename_i rr;split at C
     ·rename_i t' o l hm;split at C
      ·rename_i lX;subst lX;cases I:(!jc l2&&bC (l.length+l2.length))with
       |false=>grind
       | true=>
        rw[I,ak]at C;rw[aO]at I;have eI:l2≠[]:=by rintro rfl;cases I.1
        have G0:l.length+l2.length<1073741824:=by simpa [bC]using I.2
        obtain⟨U,h3⟩:=oY C
        refine⟨_,h3,λaj ρ a w hR u v hu hv=>?_⟩
        obtain⟨q',_,_,L⟩:=M8 aj ρ a w hR v hv;obtain⟨g,qn,L⟩:=UB lV L;have Y:=hR.root rr _ hm;generalize D:aY.sl (.sl t' (o+2) true l)=x at Y;cases Y with
        |aB=>cases D
        |mp=>cases D
        |gh=>cases D
        | sl uu y dj hr=>
         injection D with D;subst D;have GV:uu=u:=by
          have h4:=hu.2;simp only[cN,dj]at h4;simp_all
         subst GV;obtain⟨v',w',aE,dZ,gA,gi⟩:=hR.aoI (ty:=ty) (d:=d) (hR.dx d (.inl U)) iO ht hi oZ ga kZ J hf hr L eI G0;exact⟨w',aE,_,v',dZ,gA.set ⟨gi,by simp[cN,ck]⟩ U⟩
      ·cases C
     ·cases C
    ·cases C
 ·cases h
def aoL{t:TypeId}{x y:A}{k:S -> ah X}(h:Bu P N σ d t x y k=some r):∃ I,k I=some r/\cA (λX k=>Bu (X:=X) P N σ d t x y k) I:=by
 unfold Bu at h;split at h
 ·rename_i e J L;cases D:(Nat.beq (full J) 0&&(zeroOf P e).any (λz=>Nat.beq z.cells.size (aF J)))with
  |false=>rw[D]at h;cases h
  | true=>
   rw[D,ak]at h;obtain⟨yv,C,O⟩:=Vx h;clear h;split at C
   ·cases C
   ·rename_i l2 Q;split at C
    ·rename_i rr;split at C
     ·rename_i t' o l T;split at C
      ·rename_i U;subst U;cases E:(!jc l2&&bC (l.length+l2.length))with
       |false=>rw[E]at C;cases C
       | true=>
        rw[E,ak]at C;obtain⟨Y,Z⟩:=wL C;exact⟨_,Y,λX k=>by
         simp[Bu,L,D];exact(O.at_ _).trans (by simp[Q,T,E];exact Z X k)⟩
      ·cases C
     ·cases C
    ·cases C
 ·cases h
def Bv{X:Type}(P:Program)(N:Nat)(σ:S)(d:Nat)(t:TypeId)(x y:A)(k:S->ah X):ah X:=
 match x with
 |.view q s i j=>A4 P N σ d t (.view q s i j) y k
 |x=>Bu P N σ d t x y k
def aoM{t ty:TypeId}{x y:A}{k:S->ah X}(h:Bv P N σ d t x y k=some r):∃ C,k C=some r/\∀ aj ρ a w,Rl w0 N aj ρ σ a w->∀ u v,RA w w0.heap.size aj ρ x u->RA w w0.heap.size aj ρ y v->
  ∃w' aE ρ' z,(Builtin.append_ #[t,t] ty #[u,v]).run P w = .ok z w'/\Rl w0 N aE ρ' C (a.put (some d) z) w':=by
 unfold Bv at h;split at h
 ·exact amW h
 ·exact aoK h
def aoN{t:TypeId}{x y:A}{k:S -> ah X}(h:Bv P N σ d t x y k=some r):∃ C,k C=some r/\cA (λX k=>Bv (X:=X) P N σ d t x y k) C:=by
 unfold Bv at h;split at h
 ·obtain⟨C,D,E⟩:=amX h;exact⟨C,D,λX k=>by simp;exact E X k⟩
 ·obtain⟨C,D,E⟩:=aoL h;exact⟨C,D,λX k=>by simp[Bv];exact E.at_ k⟩
end
end Go.Proofs.YtglnbhiaknohlaaGreat
