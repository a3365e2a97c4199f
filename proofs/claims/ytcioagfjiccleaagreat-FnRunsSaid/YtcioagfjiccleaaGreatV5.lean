/-
  Running the program over pure contents, and that it follows (part 5). Nothing here is a claim.
-/
import Derived.Test.YtcioagfjiccleaaGreatV4
set_option linter.unusedSimpArgs false
namespace Go.Proofs.YtcioagfjiccleaaGreat
open Go.RowKit
set_option linter.unusedVariables false
section
variable {P:Program} {w w':World} {w0:Wd} {B N:Nat} {ah aC:bE} {ρ ρ':Nat->Loc} {σ:S} {a:Act} {X:Type} {d:Nat} {r:X} {o:Oper} {Φ:eS} {p:Nat->Bool} {ops:Array Oper}
theorem aaH{i W j:Nat}{oj:Oper}(dM:ops[j]?=some oj)(h:IV ops i W j=true):∃ e∈oj.after,Region.binds .any e=true/\(e.on=i\/W.testBit e.on=true):=by
 unfold IV at h;rw[dM]at h;obtain⟨e,he,hb⟩:=List.any_eq_true.1 h;rw[aJ,eH]at hb
 refine⟨e,by simpa using he,hb.1,hb.2.imp (λh=>cz h) id⟩
theorem Uj{g:Oper->Bool}{oi:Oper}{i L W:Nat}:∀ (n j:Nat),IW g ops oi i L W n j=true->∀ k,j<=k->k<j+n->k=i\/L.testBit k=true\/(W.testBit k=true/\IV ops i W k=true)\/(W.testBit k=false/\∀ ok,ops[k]?=some ok->g ok=true/\oi.apart ops ok=true)
 |0,j,_,k,h1,h2=>by omega
 | n+1,j,h,k,h1,h2=>by
  unfold IW at h;rw[aJ,eH,eH]at h;by_cases hk:k=j
  ·subst hk;rcases h.1 with (h | h) | h
   ·exact .inl (cz h)
   ·exact .inr (.inl h)
   ·cases hw:W.testBit k with
    |true=>rw[hw,aq]at h;exact .inr (.inr (.inl ⟨rfl,h⟩))
    | false=>
     rw[hw,au]at h
     refine .inr (.inr (.inr ⟨rfl,λok eK=>?_⟩))
     rw[eK,aJ]at h;exact h
  ·exact Uj n (j+1) h.2 k (by omega) (by omega)
theorem q6{g:Oper->Bool}{i L W:Nat}:∀ (n j:Nat) (k:Nat),j<=k->k<j+n->k≠i->L.testBit k=false->W.testBit k=false->∀ ok,ops[k]?=some ok->g ok=true->jG g ops i L W n j=true
 |0,j,k,h1,h2,_,_,_,_,_,_=>by omega
 | n+1,j,k,h1,h2,hi,hL,hW,ok,eK,hm=>by
  unfold jG;rw[eH];by_cases hk:k=j
  ·subst hk;refine .inl ?_;have hb:Nat.beq k i=false:=by
    cases hb:Nat.beq k i with
    |false=>rfl
    |true=>exact absurd (cz hb) hi
   rw[eK,hb,hL,hW]
   simpa using hm
  ·exact .inr (q6 n (j+1) k (by omega) (by omega) hi hL hW ok eK hm)
theorem aaI{g:Oper->Bool}{i L W:Nat}:∀ (n j:Nat),jG g ops i L W n j=true->∃ k ok,ops[k]?=some ok/\k≠i/\L.testBit k=false/\W.testBit k=false/\g ok=true
 |0,j,h=>by cases h
 | n+1,j,h=>by
  unfold jG at h;rw[eH]at h;rcases h with h|h
  ·rw[aJ,hD,oX,oX]at h;obtain⟨⟨⟨h1,h2⟩,h3⟩,h4⟩:=h;split at h4
   next ok eK=>exact⟨j,ok,eK,(by rintro rfl;rw[Nat.beq_refl]at h1;cases h1),h2,h3,h4⟩
   ·cases h4
  ·exact aaI n (j+1) h
theorem akm[Inhabited Wd]{L i:Nat}{k:S->aj X}(hv:gH o.op=true\/gO σ ops o=some false)(hn:TJ σ (xl Φ ops i L (waits ops i ops.size 0 0) σ) (yR σ ops i L (waits ops i ops.size 0 0)) o=true)(h:A8 P N Φ ops L i σ o k=some r):
  ∃v,k (iq σ o.dst v)=some r/\oE P ops o (xl Φ ops i L (waits ops i ops.size 0 0) σ) (yR σ ops i L (waits ops i ops.size 0 0)) v σ/\∀σ:S,jM N σ o.dst v some=some (iq σ o.dst v):=by
 unfold A8 at h;unfold TJ at hn;rw[aJ]at hn;split at h
 ·rename_i hw;obtain⟨v,h1,hd,_⟩:=IZ (w0:=default) (N:=N) h;cases hc:v.mj (xl Φ ops i L (waits ops i ops.size 0 0) σ) (yR σ ops i L (waits ops i ops.size 0 0))with
  |false=>rw[hc]at h1;cases h1
  | true=>
   rw[hc,aq]at h1;obtain⟨h2,h3⟩:=mq h1;have hv:gH o.op=true:=hv.resolve_right (by rw[hw];simp)
   refine⟨v,h2,.inl ⟨hw,hv,hd,λy hy=>c9.1 hn.1 y (by simpa using hy),hc,λt y r j e hy=>?_⟩,λσ=>(h3 σ).at_ _⟩
   have h4:=hn.2;rw[e]at h4;simp only[hy]at h4
   simpa using h4
 next hw=>obtain⟨h2,h3⟩:=mq h;exact⟨.skip,h2,.inr ⟨hw,rfl⟩,λσ=>(h3 σ).at_ _⟩
 ·cases h
theorem Fj{i L W n:Nat}(h:A6 Φ ops i L W σ n=true):xl Φ ops i L W σ n=true:=by unfold xl;rw[h];rfl
theorem akn{i L W:Nat}(h:HP Φ ops i L W σ o=true):∃ ty t y,o.op = .store ty (.tmp t) y/\o.dst=none/\Nb Φ ops i L W σ t=true/\(∀ k,σ.t t ≠ .ptr k)/\∀ r j,σ.t t = .aG r j->A5 σ o=[r]:=by
 unfold HP at h;split at h
 ·rename_i ty t y ho;rw[aJ,aJ]at h
  refine⟨ty,t,y,ho,by simpa using h.1.1,h.1.2,λk hk=>?_,λr j hr=>by simp only[A5,ho,hr]⟩
  have h3:=h.2;rw[hk]at h3;cases h3
 ·cases h
theorem ako{i L W:Nat}(h:TH Φ ops i L W o=true):∃ x y t t',o.op = .call ⟨.builtin .append,⟨[.tmp x,y]⟩,⟨[t,t']⟩⟩/\oB Φ ops i L W x=true/\(qe t=false/\Nat.beq t t'=true/\C1 o.dst t (.tmp x)=false):=by
 unfold TH at h;split at h
 ·rw[aJ,aJ,aJ]at h;exact⟨_,_,_,_,by assumption,h.1,by simpa using h.2.1.1,h.2.1.2,by simpa using h.2.2⟩
 ·cases h
theorem akp{i L W:Nat}(h:TG Φ ops i L W σ o=true):∃ f args dV c,o.op = .call { callee:=.value (.func f),args:=args,argTypes:=dV }/\Φ f=some (.m c)/\M8 c=true/\tu (λt r=>!jG (mh t) ops i L W ops.size 0 && !jG (λok=>eF ok r) ops i L W ops.size 0 && !jG isApp ops i L W ops.size 0) σ c.ps args.toList=true/\qX Φ σ o=jS σ c.ps args.toList:=by
 unfold TG at h;split at h
 ·rename_i f args dV ho;split at h
  next c hc=>rw[aJ]at h;exact⟨f,args,dV,c,ho,hc,h.1,h.2,by simp only[qX,ho,hc]⟩
  ·cases h
 ·cases h
theorem Jc{p:Nat->Bool}:∀ (ps:af PK) (xs:af Operand),(∀ x∈xs,(aF σ x).nr p=true)->∀ n∈jS σ ps xs,p n=false
 |[],[],_,n,hn=>by cases hn
 |[],_::_,_,n,hn=>by cases hn
 |.v _ _::_,[],_,n,hn=>by cases hn
 |.p _ _ _::_,[],_,n,hn=>by cases hn
 |.s _ _::_,[],_,n,hn=>by cases hn
 |.v _ _::ps,x::xs,h,n,hn=>Jc ps xs (λy hy=>h y (.tail _ hy)) n hn
 |.s _ _::ps,x::xs,h,n,hn=>Jc ps xs (λy hy=>h y (.tail _ hy)) n hn
 | .p _ _ _ :: ps,x :: xs,h,n,hn=>by
  simp only[jS]at hn;split at hn
  ·rename_i r' j hr;rcases iL.1 hn with rfl | hn
   ·have h1:=h x (.head _);rw[hr]at h1;have h1:(!p n)=true:=h1
    simpa using h1
   ·exact Jc ps xs (λy hy=>h y (.tail _ hy)) n hn
  ·exact Jc ps xs (λy hy=>h y (.tail _ hy)) n hn
theorem Nz{dst:aj Tmp}{g:Bool}{k:S->aj X}(h:qf σ dst g k=some r):k σ=some r:=by
 unfold qf at h;cases g with
 |false=>exact h
 | true=>
  rw[aq]at h;split at h
  ·rename_i d;split at h
   ·rename_i b hb;have:∀ c,b=c->σ.set d (.lf (.v (.bool c)))=σ:=by
     rintro c rfl
     refine S.ext' (λk=>?_) λ_=>rfl
     show bP _ _ _ _=_;by_cases hk:k=d
     ·subst hk;rw[bY,hb]
     ·rw[cL _ _ _ hk]
    cases b with
    |true=>rw[aq,this true rfl]at h;exact h
    |false=>rw[au,this false rfl]at h;exact h
   ·exact h
  ·exact h
theorem aaJ{L j:Nat}(h:nO ops L j=true):j<ops.size:=by
 obtain⟨_,o,ho,_⟩:=I8.1 h;exact(gS.1 ho).1
theorem C8{L j:Nat}:j∈(List.range ops.size).filter (nO ops L) ↔ nO ops L j=true:=by
 rw[List.mem_filter,iA];exact⟨λh=>h.2,λh=>⟨aaJ h,h⟩⟩
structure aaK (ops:Array Oper) (p:Nat->Bool) (σ:S) (o:Oper):Prop where
 is:qg o=true
 want:gO σ ops o=some true
 avF:∀y∈o.op.operands,(aF σ y).gH=true/\∀t,y = .tmp t->p t=false
 guard:∀g c t,o.guard=some (g,c)->(ops[g]?).bind (·.dst)=some t->p t=false
theorem akq{x:A}{n:Nat}{z:V}(h:tv x n=some z)(X:Type)(k:A->aj X):ym x n k=k (.lf (.v z)):=by
 unfold tv at h;split at h
 ·split at h
  next xs _ _ hx=>injection h with h;subst h;simp only[ym,hx,Option.bind_some,sU]
  ·cases h
 ·cases h
theorem aaL{x:A}{n:Nat}{z:V}{g:Lf->Lf}{G:A->A}(hG:∀ xs,G (.cP xs) = .cP (xs.map λp=>(p.1,p.2.map g)))(hg:∀ z,g (.v z) = .v z)(h:tv x n=some z):tv (G x) n=some z:=by
 unfold tv at h;split at h
 ·split at h
  next xs _ _ hx=>injection h with h;subst h;rw[hG];simp only[tv,dH,hx,jU,kN,List.map_nil,hg]
  ·cases h
 ·cases h
theorem Uk{v:A}(hv:∀ q,v.drop q=v){rr d:Nat}{key:Nat->af Nat}:∀ (f j:Nat) (xs:af Lf) (σ:S),jE rr key f j xs (σ.set d v)=(jE rr key f j xs σ).map λp=>(p.1,p.2.set d v)
 |_,_,[],σ=>by simp[jE]
 |0,j,x::xs,σ=>by cases x<;>simp[jE]
 | f+1,j,.v x :: xs,σ=>by
  simp only[jE,Uk hv f];cases jE rr key f (j+1) xs σ<;>rfl
 | f+1,j,.own [q] :: xs,σ=>by
  simp only[jE];show (match σ.m q with
   |some (.sl z)=>_
   |_=>none)=_
  cases hq:σ.m q with
  |none=>rfl
  | some y=>
   cases y with
   | sl z=>
    simp only;cases Nat.beq q rr with
    |true=>rfl
    | false=>
     simp only[au];rw[S.drop_set q (hv q),Uk hv f];cases jE rr key f (j+1) (xs.map (Lf.drop q)) (σ.drop q)<;>rfl
   |_=>rfl
 |f+1,j,.own []::xs,σ=>rfl
 |f+1,j,.own (_::_::_)::xs,σ=>rfl
 |f+1,j,.dead::xs,σ=>rfl
theorem Ul{rr:Nat}{key:Nat->af Nat}{x n:Nat}{z:V}:∀ (f j:Nat) (xs:af Lf) (σ τ:S) (vs:af V),jE rr key f j xs σ=some (vs,τ)->tv (σ.t x) n=some z->tv (τ.t x) n=some z
 | _,_,[],σ,τ,vs,h,hz=>by
  simp only[jE]at h;injection h with h;injection h with _ h;subst h;exact hz
 |0,j,y::xs,σ,τ,vs,h,hz=>by cases y<;>simp[jE]at h
 | f+1,j,.v y :: xs,σ,τ,vs,h,hz=>by
  simp only[jE]at h;cases hr:jE rr key f (j+1) xs σ with
  |none=>rw[hr]at h;cases h
  | some p=>
   rw[hr]at h;injection h with h;injection h with _ h;subst h;exact Ul f (j+1) xs σ p.2 p.1 hr hz
 | f+1,j,.own [q] :: xs,σ,τ,vs,h,hz=>by
  simp only[jE]at h;split at h
  ·cases hb:Nat.beq q rr with
   |true=>rw[hb]at h;cases h
   | false=>
    rw[hb,au]at h;cases hr:jE rr key f (j+1) (xs.map (Lf.drop q)) (σ.drop q)with
    |none=>rw[hr]at h;cases h
    | some p=>
     rw[hr]at h;injection h with h;injection h with _ h;subst h;refine Ul f (j+1) _ (σ.drop q) p.2 p.1 hr ?_;exact aaL (G:=A.drop q) (g:=Lf.drop q) (λ_=>rfl) (λ_=>rfl) hz
  ·cases h
 |f+1,j,.own []::xs,σ,τ,vs,h,hz=>by cases h
 |f+1,j,.own (_::_::_)::xs,σ,τ,vs,h,hz=>by cases h
 |f+1,j,.dead::xs,σ,τ,vs,h,hz=>by cases h
theorem akr{d:Nat}{v:V}{t:TypeId}{x y:A}{τ:S}(h:tq P (σ.set d (.lf (.v v))) t x y some=some τ):∃ az,tq P σ t x y some=some az/\τ=az.set d (.lf (.v v))/\∀ (e n:Nat) (z:V),tv (σ.t e) n=some z->tv (az.t e) n=some z:=by
 unfold tq at h;split at h
 ·rename_i n xs j i s rr hn iQ;split at h
  ·rename_i hlen;cases jC:xs.all Lf.live with
   |false=>rw[jC]at h;cases h
   | true=>
    rw[jC,aq]at h;split at h
    ·rename_i vs τ1 qW;rw[Uk (v:=.lf (.v v)) (λ_=>rfl)]at qW;cases NA:jE rr (λm=>(j+m) :: i :: s :: [rr]) xs.length 0 xs σ with
     |none=>rw[NA]at qW;cases qW
     | some p=>
      rw[NA]at qW;obtain⟨vs0,τ0⟩:=p;injection qW with qW;injection qW with e1 e2;subst e1 e2;split at h
      ·rename_i t' o' qn l en;have aks:τ0.m rr=some (.sl (.sl t' (o'+2) qn l)):=en;split at h
       ·rename_i nD;split at h
        ·rename_i hi;split at h
         ·rename_i hj;split at h
          ·rename_i e he;injection h with h
           refine⟨τ0.bA [rr] [] [(rr,.sl (.sl t' (o'+2) qn (l.set i e)))],?_,?_,λex nx z hz=>?_⟩
           ·simp only[tq,hn,iQ,bu hlen,jC,aq,NA,aks,bu nD,aK hi,bu hj,he]
           ·rw[<-h];exact S.Nj _ rfl
           ·exact aaL (G:=A.bA [rr] []) (g:=Lf.bA [rr] []) (λ_=>rfl) (λ_=>rfl) (Ul _ _ _ _ _ _ NA hz)
          ·cases h
         ·cases h
        ·cases h
       ·cases h
      ·cases h
    ·cases h
  ·cases h
 ·cases h
theorem aaM{t:TypeId}{a b:Operand}(ho:o.op = .store t a b)(hd:o.dst=none)(hg:xg (aF σ a) (aF σ b)=true):dG P N Φ σ o some=tq P σ t (aF σ a) (aF σ b) some:=by
 unfold dG;rw[show gH o.op=false by rw[ho];rfl,au];simp only[jF,ho,hd,hg,aq]
theorem akt[Inhabited Wd](bS:ig P Φ){K:S->Prop}{f L i:Nat}{oi:Oper}{τ:S}(hi:ops[i]?=some oi)(hr:nO ops L i=true)(hc:TL ops L σ i=true)(en:dI P N Φ ops σ oi some=some τ)(H:Any P N Φ ops K f (L ||| 2 ^ i) τ):Any P N Φ ops K (f+1) L σ:=by
 unfold TL at hc;rw[hi]at hc;split at hc
 ·rename_i oi' j0 e1 aku;injection e1 with e1;subst e1;split at hc
  ·rename_i x n d oj iR oF Jd hj0;split at hc
   ·rename_i ty a b NB aaN aaO;rw[aJ,aJ]at hc;obtain⟨⟨c1,c2⟩,c3⟩:=hc;obtain⟨z,hz⟩:=Option.isSome_iff_exists.1 c1;obtain⟨a1,a2,a3⟩:=Oper.apart_spec c3;have hpd:∀ j,j<ops.size->j≠i->L.testBit j=false->j=j0:=by
     intro j hj eZ fU;have:j∈(List.range ops.size).filter (λj=>!(Nat.beq j i || L.testBit j)):=by
      rw[List.mem_filter];refine⟨iA.2 hj,?_⟩;rw[fU,Bool.or_false];cases hb:Nat.beq j i with
      |false=>rfl
      |true=>exact absurd (cz hb) eZ
     rw[aku]at this;exact List.mem_singleton.1 this
    have sk:∀ σ2:S,tv (σ2.t x) n=some z->dI P N Φ ops σ2 oi some=jM N σ2 (some d) (.lf (.v z)) some:=by
     intro σ2 h2;unfold dI;simp only[gO,Jd];unfold dG;rw[show gH oi.op=true by rw[iR];rfl,aq,iR];simp only[eU];rw[show aF σ2 (.tmp x)=σ2.t x from rfl,akq h2,oF]
    have hN:∀ σ2:S,jM N σ2 (some d) (.lf (.v z)) some=some (σ2.set d (.lf (.v z))):=by
     intro σ2;rw[sk σ hz]at en;obtain⟨_,g2⟩:=mq en;exact(g2 σ2).at_ _
    have hE:τ=σ.set d (.lf (.v z)):=by
     rw[sk σ hz,hN]at en;injection en with en;exact en.symm
    rw[hE]at H
    refine T4 (W:=0) hi (λj oj _ hj=>by rw[Nat.zero_testBit]at hj;cases hj) (λσ=>σ.set d (.lf (.v z)))
     (λL' az=>tv (az.t x) n=some z/\∀j,j<ops.size->j≠i->L'.testBit j=false->j=j0/\xg (aF az a) (aF az b)=true)
     (λL' az hI=>(sk az hI.1).trans (hN az)) (λL' az j oj' gv hI dM eZ fU _ Be=>?_) f L σ (λj hj=>by rw[Nat.zero_testBit]at hj;cases hj) hr
     ⟨hz,λj hj eZ fU=>⟨hpd j hj eZ fU,c2⟩⟩ H
    obtain⟨rfl,hg⟩:=hI.2 j (gS.1 dM).1 eZ fU;rw[hj0]at dM;injection dM with dM;subst dM;have ha:aF (az.set d (.lf (.v z))) a=aF az a:=Fb (a1 d oF) _ (by rw[NB];simp[Op.operands]);have hb:aF (az.set d (.lf (.v z))) b=aF az b:=Fb (a1 d oF) _ (by rw[NB];simp[Op.operands]);have jl:dI P N Φ ops (az.set d (.lf (.v z))) oj some=tq P (az.set d (.lf (.v z))) ty (aF az a) (aF az b) some:=by
     unfold dI;simp only[gO,aaO];rw[aaM NB aaN (by rw[ha,hb];exact hg),ha,hb]
    rw[jl]at Be;obtain⟨σ2,h1,h2,h3⟩:=akr Be
    refine⟨σ2,?_,h2,h3 _ _ _ hI.1,λk hk tF q5=>?_⟩
    ·unfold dI;simp only[gO,aaO];rw[aaM NB aaN hg];exact h1
    ·exfalso;rw[uH,oX]at q5;have:=(hI.2 k hk tF q5.1).1;subst this;simp at q5
   ·cases hc
  ·cases hc
 ·cases hc
theorem Je[Inhabited Wd](bS:ig P Φ):∀ (f L:Nat) (σ:S) (k:S->aj X),mm P N Φ ops f L σ k=some r->Any P N Φ ops (λτ=>k τ=some r) f L σ
 | 0,L,σ,k,h=>by
  unfold mm at h;split at h
  ·rename_i hr
   refine⟨λj=>?_,h⟩
   cases hj:nO ops L j with
   |false=>rfl
   |true=>have:=C8.2 hj;rw[hr]at this;cases this
  ·cases h
 | f+1,L,σ,k,h=>by
  unfold mm at h;split at h
  ·rename_i hr
   refine⟨λ_=>h,λj hj=>?_⟩
   have:=C8.2 hj;rw[hr]at this;cases this
  ·rename_i i hr;have hi:nO ops L i=true:=C8.1 (by rw[hr];exact .head _)
   refine⟨λh=>absurd (h i) (by rw[hi];simp),λj hj=>?_⟩
   have hj:=C8.2 hj;rw[hr]at hj;obtain rfl:=List.mem_singleton.1 hj;split at h
   next o ho=>obtain⟨τ,h1,h2⟩:=TS bS h;exact⟨o,τ,ho,h2,Je bS f _ τ k (Nz h1)⟩
   ·cases h
  ·rename_i rs hn hs;split at h
   ·rename_i i hf;have hc:=List.find?_some hf;have hm:=List.mem_of_find?_eq_some hf;have hi:=C8.1 hm;split at h
    ·rename_i o ho;unfold aac at hc;rw[ho,aJ,aJ,aJ]at hc;obtain⟨⟨⟨c1,c2⟩,c3⟩,c4⟩:=hc;have c1:gH o.op=true\/gO σ ops o=some false:=by
      rw[eH]at c1
      refine c1.imp id λc1=>?_
      split at c1
      next b hb=>rw[hb];cases b<;>first|rfl|cases c1
      ·cases c1
     obtain⟨v,h1,hF,hN⟩:=akm c1 c4 h;have sj:=Uj _ _ c3;have c2:=cz c2;have Jf:∀ j,(waits ops i ops.size 0 0).testBit j=true->(L ||| 2 ^ i).testBit j=false:=by
      intro j hj;have:((L |||2 ^ i) &&& waits ops i ops.size 0 0).testBit j=false:=by rw[c2];exact Nat.zero_testBit j
      rw[Nat.testBit_and,hj,Bool.and_true]at this;exact this
     have vL:∀ j,(waits ops i ops.size 0 0).testBit j=true->L.testBit j=false:=by
      intro j hj;have:=Jf j hj;rw[uH,oX]at this;exact this.1
     refine aj0 (W:=waits ops i ops.size 0 0) (ok:=λt r=>!jG (mh t) ops i L (waits ops i ops.size 0 0) ops.size 0 && !jG (λok=>eF ok r) ops i L (waits ops i ops.size 0 0) ops.size 0 && !jG isApp ops i L (waits ops i ops.size 0 0) ops.size 0) (tC:=Nb Φ ops i L (waits ops i ops.size 0 0) σ) (oC:=oC Φ ops i L (waits ops i ops.size 0 0) σ) (oB:=oB Φ ops i L (waits ops i ops.size 0 0)) bS ho hN (λj oj dM hj=>?_) f L σ (λt r eK j oj dM eZ fU gz=>?_) (λx hx j oj dM eZ fU gz=>?_) (λx hx=>?_) (λt eK j oj dM eZ fU gz=>?_) (λt eK j oj dM eZ fU gz=>?_) (λj oj dM eZ fU gz=>?_) vL hi hF (Je bS f _ _ k (Nz h1))
     ·have bC:=(gS.1 dM).1;rcases sj j (by omega) (by omega)with e | e | e | e
      ·subst e;have:=Jf j hj;rw[uH]at this;simp at this
      ·rw[vL j hj]at e;cases e
      ·exact aaH dM e.2
      ·rw[hj]at e;cases e.1
     ·have bC:=(gS.1 dM).1;rw[aJ,aJ,hD,hD,hD]at eK
      refine⟨λhd=>?_,?_,?_⟩
      ·have:=q6 (g:=mh t) ops.size 0 j (by omega) (by omega) eZ fU gz oj dM (by unfold mh;rw[hd];exact Nat.beq_refl t);rw[eK.1.1]at this;cases this
      ·cases hn:eF oj r with
       |false=>rfl
       | true=>
        have:=q6 (g:=λok=>eF ok r) ops.size 0 j (by omega) (by omega) eZ fU gz oj dM hn;rw[eK.1.2]at this;cases this
      ·cases hn:isApp oj with
       |false=>rfl
       | true=>
        have:=q6 (g:=isApp) ops.size 0 j (by omega) (by omega) eZ fU gz oj dM hn;rw[eK.2]at this;cases this
     ·have bC:=(gS.1 dM).1;unfold oC at hx;rw[aJ]at hx;intro hd;have:=q6 (g:=mh x) ops.size 0 j (by omega) (by omega) eZ fU gz oj dM (by unfold mh;rw[hd];exact Nat.beq_refl x);rw[this]at hx;cases hx.1
     ·unfold oC at hx;rw[aJ]at hx;have hx:=hx.2;cases hz:σ.t x with
      |aG r j=>rw[hz]at hx;exact hx
      |jB cs=>trivial
      |_=>rw[hz]at hx;cases hx
     ·have bC:=(gS.1 dM).1;by_cases hd:oj.dst=some t
      ·refine .inr ?_;have vI:mh t oj=true:=by unfold mh;rw[hd];exact Nat.beq_refl t
       cases Fg:xk oj with
       | false=>
        cases Jg:Na Φ ops i L (waits ops i ops.size 0 0) σ oj with
        | false=>
         have:=q6 (g:=λok=>mh t ok && !(xk ok ||Na Φ ops i L (waits ops i ops.size 0 0) σ ok)) ops.size 0 j (by omega) (by omega) eZ fU gz oj dM (by rw[vI,Fg,Jg];rfl);unfold Nb at eK;rw[this]at eK;cases eK
        | true=>
         unfold Na at Jg;split at Jg
         next s x f vO=>exact .inr ⟨s,x,f,vO,Jg⟩
         ·cases Jg
       | true=>
        refine .inl ⟨rfl,?_⟩;refine Fj ?_;unfold A6;rw[eH]
        refine .inl (q6 (g:=λo=>eF o t) _ 0 j (by omega) (by omega) eZ fU gz oj dM ?_)
        obtain⟨ty,e,h1,_,h3,_⟩:=aaq Fg;unfold eF;rw[hd,h1];exact Nat.beq_refl t
      ·exact .inl hd
     ·have bC:=(gS.1 dM).1;by_cases hd:oj.dst=some t
      ·refine .inr ?_;have vI:mh t oj=true:=by unfold mh;rw[hd];exact Nat.beq_refl t
       cases wT:qg oj with
       | false=>
        cases hma:isApp oj with
        |true=>exact .inr (.inl rfl)
        | false=>
         cases C5:A7 Φ oj with
         |true=>exact .inr (.inr rfl)
         | false=>
          have:=q6 (g:=λok=>mh t ok && !(qg ok ||isApp ok ||A7 Φ ok)) ops.size 0 j (by omega) (by omega) eZ fU gz oj dM (by rw[vI,wT,hma,C5];rfl);unfold oB at eK;rw[this]at eK;cases eK
       | true=>
        refine .inl ?_;have dR:eF oj t=true:=by
         unfold qg at wT;rw[aJ]at wT;have h1:=wT.1;unfold eF;rw[hd];split at h1
         next yG=>simp only[yG];exact Nat.beq_refl t
         next yG=>simp only[yG];exact Nat.beq_refl t
         next yG=>simp only[yG];exact Nat.beq_refl t
         ·cases h1
        have h9:=q6 (g:=λo=>eF o t) ops.size 0 j (by omega) (by omega) eZ fU gz oj dM dR;refine⟨rfl,?_,?_⟩
        ·refine Fj ?_;unfold A6;rw[eH];exact .inl h9
        ·unfold yR;rw[eH];exact .inl h9
      ·exact .inl hd
     ·have bC:=(gS.1 dM).1;rcases sj j (by omega) (by omega)with e | e | e | e
      ·exact absurd e eZ
      ·rw[fU]at e;cases e
      ·rw[gz]at e;cases e.1
      ·obtain⟨e1,e2⟩:=e.2 oj dM
       refine⟨e2,?_,λn hn=>?_⟩
       ·rw[eH,eH,eH]at e1;rcases e1 with ((e1 | e1) | e1) | e1
        ·exact .inl e1
        ·obtain⟨f',args,dV,c,g1,g2,g3,g4,g5⟩:=akp e1
         refine .inr (.inl ⟨f',args,dV,c,g1,g2,g3,g4,λn hn=>?_⟩)
         refine Fj ?_;unfold A6;rw[eH]
         refine .inr (q6 (g:=λo=>cc n (qX Φ σ o) ||cc n (A5 σ o)) _ 0 j (by omega) (by omega) eZ fU gz oj dM ?_)
         rw[g5,vD.2 hn];rfl
        ·obtain⟨ty,t,y,g1,g2,g3,g4,g5⟩:=akn e1;refine .inr (.inr (.inl ⟨ty,t,y,g1,g2,g3,?_⟩));cases hx:σ.t t with
         | aG r' j'=>
          show xl Φ ops i L (waits ops i ops.size 0 0) σ r'=true;refine Fj ?_;unfold A6;rw[eH]
          refine .inr (q6 (g:=λo=>cc r' (qX Φ σ o) ||cc r' (A5 σ o)) _ 0 j (by omega) (by omega) eZ fU gz oj dM ?_)
          rw[g5 r' j' hx,eH];exact .inr (vD.2 (.head _))
         |ptr k=>exact absurd hx (g4 k)
         |_=>trivial
        ·obtain⟨x,y,t1,t2,g1,g2,g3⟩:=ako e1
         refine .inr (.inr (.inr ⟨x,y,t1,t2,g1,g2,g3,λr' dA=>⟨?_,?_⟩⟩))
         ·refine Fj ?_;unfold A6;rw[eH]
          refine .inr (q6 (g:=λo=>cc r' (qX Φ σ o) ||cc r' (A5 σ o)) _ 0 j (by omega) (by omega) eZ fU gz oj dM ?_)
          have:A5 σ oj=[r']:=by simp only[A5,g1,dA]
          rw[this,eH];exact .inr (vD.2 (.head _))
         ·unfold yR;rw[eH]
          refine .inr (q6 (g:=λo=>cc r' (M9 σ o)) _ 0 j (by omega) (by omega) eZ fU gz oj dM ?_)
          have:M9 σ oj=[r']:=by simp only[M9,g1,dA]
          rw[this];exact vD.2 (.head _)
       ·have h9:=q6 (g:=λo=>eF o n) ops.size 0 j (by omega) (by omega) eZ fU gz oj dM hn;refine⟨?_,?_⟩
        ·refine Fj ?_;unfold A6;rw[eH];exact .inl h9
        ·unfold yR;rw[eH];exact .inl h9
    ·cases h
   ·split at h
    ·rename_i i hf;have hc:=List.find?_some hf;have hm:=List.mem_of_find?_eq_some hf;have hi:=C8.1 hm;split at h
     ·rename_i o ho;unfold aad at hc;rw[ho,aJ,aJ,aJ,aJ,aJ]at hc;obtain⟨⟨⟨⟨⟨c1,c2⟩,c3⟩,c4⟩,c5⟩,c6⟩:=hc;have sj:=Uj _ _ c3;have c2:=cz c2;have Jf:∀ j,(waits ops i ops.size 0 0).testBit j=true->(L ||| 2 ^ i).testBit j=false:=by
       intro j hj;have:((L |||2 ^ i) &&& waits ops i ops.size 0 0).testBit j=false:=by rw[c2];exact Nat.zero_testBit j
       rw[Nat.testBit_and,hj,Bool.and_true]at this;exact this
      have vL:∀ j,(waits ops i ops.size 0 0).testBit j=true->L.testBit j=false:=by
       intro j hj;have:=Jf j hj;rw[uH,oX]at this;exact this.1
      obtain⟨τ,h1,h2⟩:=TS bS h;generalize hp:(λn=>jG (λo=>E7 o n) ops i L (waits ops i ops.size 0 0) ops.size 0)=p at c4 c5;have hpe:∀ j oj e,ops[j]?=some oj->j≠i->L.testBit j=false->(waits ops i ops.size 0 0).testBit j=false->oj.dst=some e->p e=true:=by
       intro j oj e dM eZ fU gz hd;have bC:=(gS.1 dM).1;rw[<-hp];exact q6 (g:=λo=>E7 o e) _ 0 j (by omega) (by omega) eZ fU gz oj dM (by unfold E7 mh;rw[hd];exact Nat.beq_refl e)
      have C6:∀ j oj,ops[j]?=some oj->j≠i->L.testBit j=false->(waits ops i ops.size 0 0).testBit j=false->TK ops i L (waits ops i ops.size 0 0) σ oj=true/\o.apart ops oj=true:=by
       intro j oj dM eZ fU gz;have bC:=(gS.1 dM).1;rcases sj j (by omega) (by omega)with e|e|e|e
       ·exact absurd e eZ
       ·rw[fU]at e;cases e
       ·rw[gz]at e;cases e.1
       ·exact e.2 oj dM
      have wT:∀ j oj,ops[j]?=some oj->j≠i->L.testBit j=false->(waits ops i ops.size 0 0).testBit j=false->aaK ops p σ oj:=by
       intro j oj dM eZ fU gz;have hb:=(C6 j oj dM eZ fU gz).1;unfold TK at hb;rw[aJ,aJ,aJ]at hb;obtain⟨⟨⟨b1,b2⟩,b3⟩,b4⟩:=hb;have Nl:∀t,jG (mh t) ops i L (waits ops i ops.size 0 0) ops.size 0=false->p t=false:=λt ht=>by rw[<-hp];exact ht
       refine⟨b1,?_,λy hy=>?_,λg c t hg ht=>?_⟩
       ·split at b2
        next b ug=>rw[ug,b2]
        ·cases b2
       ·have:=c9.1 b3 y (by simpa using hy);rw[aJ]at this
        refine⟨this.1,λt ht=>?_⟩
        have h2:=this.2;rw[ht]at h2;exact Nl t (by simpa using h2)
       ·rw[hg]at b4;simp only[ht]at b4;exact Nl t (by simpa using b4)
      have C7:∀ n,20000<=n->p n=false:=by
       intro n hn;cases kD:p n with
       |false=>rfl
       | true=>
        rw[<-hp]at kD;obtain⟨k',tE,eO,fV,ni,tJ,oG⟩:=aaI _ _ kD;have hm:=(wT k' tE eO fV ni tJ).is;unfold qg at hm;rw[aJ]at hm;have hm:=hm.2;unfold E7 mh at oG;split at oG
        next e he=>rw[he]at hm;have h1:e=n:=cz oG;subst h1;exact absurd (cH hm) (Nat.not_le_of_gt (Nat.lt_succ_of_le hn))
        ·cases oG
      have hE:τ=(dI P N Φ ops σ o some).getD σ:=by rw[h2];rfl
      refine T4 (W:=waits ops i ops.size 0 0) ho (λj oj dM hj=>?_) (λσ=>(dI P N Φ ops σ o some).getD σ)
       (λL' az=>((dI P N Φ ops az o some).isSome=true/\TI az p o=true/\(qX Φ az o).all (yT az p)=true/\yS az o=true)/\(∀ j,L'.testBit j=false->L.testBit j=false)/\
        ∀j oj,ops[j]?=some oj->j≠i->L'.testBit j=false->(waits ops i ops.size 0 0).testBit j=false->aaK ops p az oj)
       (λL' az hI=>?_) (λL' az j oj gv hI dM eZ fU gz en=>?_) f L σ vL hi ⟨⟨by rw[h2];rfl,c4,c5,c6⟩,λ_ h=>h,wT⟩ (by rw[<-hE];exact Je bS f _ τ k (Nz h1))
      ·have bC:=(gS.1 dM).1;rcases sj j (by omega) (by omega)with e | e | e | e
       ·subst e;have:=Jf j hj;rw[uH]at this;simp at this
       ·rw[vL j hj]at e;cases e
       ·exact aaH dM e.2
       ·rw[hj]at e;cases e.1
      ·obtain⟨z,hz⟩:=Option.isSome_iff_exists.1 hI.1.1;rw[hz];rfl
      ·obtain⟨⟨i1,i2,i3,i6⟩,i4,i5⟩:=hI;have ap:=(C6 j oj dM eZ (i4 j fU) gz).2;obtain⟨m1,m2,m3,m4⟩:=i5 j oj dM eZ fU gz;obtain⟨a1,a2,a3⟩:=Oper.apart_spec ap;obtain⟨z,hz⟩:=Option.isSome_iff_exists.1 i1;have hEz:(dI P N Φ ops az o some).getD az=z:=by rw[hz];rfl
       have en:dI P N Φ ops z oj some=some gv:=by rw[<-hEz];exact en
       have aaP:∀ t,(az.t t).gH=true->o.dst≠some t->z.t t=az.t t:=by
        intro t ht hd;unfold dI at hz;split at hz
        ·exact akl bS c1 i6 hz ht hd
        ·obtain⟨g1,_⟩:=mq hz;injection g1 with g1;rw[<-g1];cases oF:o.dst with
         |none=>rfl
         |some d=>exact cL _ _ _ (by rintro rfl;exact hd oF)
        ·cases hz
       have akv:∀ g c t,oj.guard=some (g,c)->(ops[g]?).bind (·.dst)=some t->(az.t t).gH=true\/az.t t = .skip:=by
        intro g c t hg ht;unfold gO at m2;rw[hg]at m2;simp only[ht]at m2;split at m2
        next b hb=>left;rw[hb];rfl
        next hb=>exact .inr hb
        ·cases m2
       have Jd:∀ g c t,oj.guard=some (g,c)->(ops[g]?).bind (·.dst)=some t->o.dst≠some t:=by
        intro g c t hg ht hd;refine a1 t hd (List.mem_append_right _ ?_);rw[hg];simp only[ht];simp
       have Um:gO z ops oj=some true:=by
        rw[Bb (σ:=az) λg c t hg ht=>?_]
        ·exact m2
        ·rcases akv g c t hg ht with h | h
         ·exact aaP t h (Jd g c t hg ht)
         ·exfalso;unfold gO at m2;rw[hg]at m2;simp only[ht,h]at m2;cases m2
       have akw:∀ y∈oj.op.operands,aF z y=aF az y:=by
        intro y hy;cases y with
        | tmp t=>
         refine aaP t (m3 _ hy).1 λhd=>?_
         exact a1 t hd (List.mem_append_left _ (List.mem_filterMap.2 ⟨.tmp t,by simpa using hy,rfl⟩))
        |_=>rfl
       obtain⟨e,x,u,hd,he,hx,hu,Be,ir⟩:=Nm m1 Um en;have C9:=hpe j oj e dM eZ (i4 j fU) gz hd;have ur:=a3 e hd;have cw:∀ y∈o.op.operands,(aF az y).nr p=true/\y ≠ .tmp e:=by
        intro y hy;refine⟨c9.1 i2 y (by simpa using hy),?_⟩;rintro rfl;exact ur (List.mem_append_left _ (List.mem_filterMap.2 ⟨.tmp e,by simpa using hy,rfl⟩))
       have oF:o.dst≠some e:=λh=>a2 e h hd
       have Fk:gO (cW e x u az) ops o=gO az ops o:=by
        have hw:∃ b,gO az ops o=some b:=by
         unfold dI at hz;cases hw:gO az ops o with
         |none=>rw[hw]at hz;cases hz
         |some b=>exact⟨b,rfl⟩
        obtain⟨b,hw⟩:=hw
        refine Bb λg c t' vm ht'=>?_
        rw[tH,bJ ?_]
        ·exact A.uF (p:=p) (pb:=p) (TT hw g c t' vm ht') C9 C9
        ·rintro rfl;refine ur (List.mem_append_right _ ?_);rw[vm];simp only[ht'];simp
       have sk:dI P N Φ ops (cW e x u az) o some=some (cW e x u z):=by
        unfold dI at hz ⊢;rw[Fk];split at hz
        next hw=>exact akk bS hx hu he C9 C7 c1 i6 oF cw (λn hn=>c9.1 i3 n hn) hz
        next hw=>obtain⟨g1,g2⟩:=mq hz;injection g1 with g1;refine((g2 (cW e x u az)).at_ _).trans ?_;rw[<-g1,aj1 oF rfl]
        ·cases hz
       have Un:∀y∈o.op.operands,aF (cW e x u az) y=aF az y:=λy hy=>yW (cw y hy).1 C9 (cw y hy).2
       have hL:∀ k,(L' ||| 2 ^ j).testBit k=false->L'.testBit k=false/\k≠j:=by
        intro k hk;rw[uH,oX]at hk;refine⟨hk.1,?_⟩;rintro rfl;simp at hk
       refine⟨cW e x u az,ir az m2 (λy hy=>(akw y hy).symm),?_,⟨by rw[sk];rfl,?_,?_,?_⟩,λk hk=>i4 k (hL k hk).1,λk tE hk tF q5 vM=>?_⟩
       ·rw[Be,sk];rfl
       ·unfold TI;rw[c9];intro y hy;rw[Un y (by simpa using hy)];exact(cw y (by simpa using hy)).1
       ·have hrj:qX Φ (cW e x u az) o=qX Φ az o:=by
         unfold qX;split
         ·rename_i f' args dV vO;split
          ·refine I5 _ _ λy hy=>Un y ?_
           rw[vO];simp only[Op.operands,Call.operands];simp only[Array.mem_append]
           first
            |exact .inr (by simpa using hy)
            |exact .inl (by simpa using hy)
          ·rfl
         ·rfl
        rw[hrj,c9];intro n hn;have h3:=c9.1 i3 n hn;have bg:n≠e:=by
         rintro rfl;have kD:p n=false:=by
          unfold qX at hn;split at hn
          ·rename_i f' args dV vO;split at hn
           ·refine Jc _ _ (λy hy=>(cw y ?_).1) n hn
            rw[vO];simp only[Op.operands,Call.operands];simp only[Array.mem_append]
            first
             |exact .inr (by simpa using hy)
             |exact .inl (by simpa using hy)
           ·cases hn
          ·cases hn
         rw[C9]at kD;cases kD
        unfold yT at h3 ⊢;rw[pK,bJ bg];cases hm:az.m n with
        |none=>rfl
        | some y=>
         cases y with
         |sl=>rfl
         |mp=>rfl
         |gh=>rfl
         | ax cs=>
          rw[hm]at h3;simp only[jU,aW.drop,oA.nN h3 C9];exact h3
       ·unfold yS at i6 ⊢;split
        next ty t y vO=>rw[vO]at i6;have e1:(cW e x u az).t t=az.t t:=Un (.tmp t) (by rw[vO];simp[Op.operands]);rw[e1];exact i6
        ·rfl
       ·obtain⟨n1,n2,n3,n4⟩:=i5 k tE hk tF (hL k q5).1 vM;have akx:∀ t,p t=false->t≠e:=by rintro t ht rfl;rw[C9]at ht;cases ht
        have aaQ:∀ t,(az.t t).gH=true->p t=false->(cW e x u az).t t=az.t t:=by
         intro t ht htp;rw[tH,bJ (akx t htp)];exact A.Ny ht e
        refine⟨n1,?_,λy hy=>?_,n4⟩
        ·rw[Bb (σ:=az) λg c t hg ht=>?_]
         ·exact n2
         ·unfold gO at n2;rw[hg]at n2;simp only[ht]at n2;split at n2
          next b hb=>exact aaQ t (by rw[hb];rfl) (n4 g c t hg ht)
          next hb=>cases n2
          ·cases n2
        ·refine⟨?_,(n3 y hy).2⟩;cases y with
         | tmp t=>
          show ((cW e x u az).t t).gH=true;rw[aaQ t (n3 _ hy).1 ((n3 _ hy).2 t rfl)];exact(n3 _ hy).1
         |const v=>exact(n3 _ hy).1
         |global g=>exact(n3 _ hy).1
         |func f=>exact(n3 _ hy).1
     ·cases h
    ·split at h
     ·rename_i i hf;have hc:=List.find?_some hf;have hm:=List.mem_of_find?_eq_some hf;have hi:=C8.1 hm;split at h
      next o ho=>obtain⟨τ,h1,h2⟩:=TS bS h;exact akt bS ho hi hc h2 (Je bS f _ τ k (Nz h1))
      ·cases h
     ·cases h
theorem Fl{b:Bool}(h:gO σ ops o=some b)(hR:Rl w0 N ah ρ σ a w):Region.wanted o (yielded ops a.tmps)=b:=by
 unfold gO at h;split at h
 next hg=>injection h with h;subst h;simp[Region.wanted,hg]
 ·rename_i j want hg;split at h
  ·rename_i t ht;have Fm:=hR.tmp t;rw[jy]at Fm;split at h
   ·rename_i c hc;rw[hc]at Fm;have hv:=Fm.2.Ay;injection h with h;subst h;cases hx:a.tmps[t]? with
    |none=>rw[hx]at hv;cases hv
    | some v=>
     rw[hx]at hv;have hv:v = .bool c:=hv;subst hv;simp only[Region.wanted,hg,yielded,ht,Option.bind_some,hx];cases c<;>cases want<;>rfl
   ·rename_i hc;rw[hc]at Fm;injection h with h;subst h;cases hx:a.tmps[t]? with
    |none=>simp[Region.wanted,hg,yielded,ht,hx]
    | some v=>
     rw[hx]at Fm;have hv:v=undef:=Fm;subst hv;simp only[Region.wanted,hg,yielded,ht,Option.bind_some,hx,undef];cases want<;>rfl
   ·cases h
  ·cases h
structure vP (ops:Array Oper) (qh:Array Bool) (L:Nat):Prop where
 size:qh.size=ops.size
 bit:∀j,j<ops.size->qh[j]?=some (L.testBit j)
 out:∀j,ops.size<=j->L.testBit j=false
theorem vP.aaR{qh:Array Bool}{L:Nat}(h:vP ops qh L)(j:Nat):qh.getD j false=L.testBit j:=by
 rw[jy];by_cases hj:j<ops.size
 ·rw[h.bit j hj];rfl
 ·rw[h.out j (by omega),Array.getElem?_eq_none (by rw[h.size];omega)];rfl
theorem vP.ready{qh:Array Bool}{L:Nat}(h:vP ops qh L)(j:Nat):j∈Region.ready .any ops qh ↔ nO ops L j=true:=by
 rw[mem_ready,I8];constructor
 ·rintro⟨h0,o,ho,ir⟩;have hj:=(gS.1 ho).1;rw[jy,h.bit j hj]at h0;exact⟨h0,o,ho,λe he hb=>by rw[<-h.aaR];exact ir e he hb⟩
 ·rintro⟨h0,o,ho,ir⟩;have hj:=(gS.1 ho).1;exact⟨by rw[jy,h.bit j hj];exact h0,o,ho,λe he hb=>by rw[h.aaR];exact ir e he hb⟩
theorem vP.set{qh:Array Bool}{L i:Nat}(h:vP ops qh L)(hi:i<ops.size):vP ops (qh.setIfInBounds i true) (L ||| 2 ^ i):=by
 refine⟨by simp[h.size],λj hj=>?_,λj hj=>?_⟩
 ·rw[uH];by_cases qU:i=j
  ·subst qU;rw[Array.getElem?_setIfInBounds_self_of_lt (by rw[h.size];exact hi)];simp
  ·rw[Array.getElem?_setIfInBounds_ne qU,h.bit j hj];simp[qU]
 ·rw[uH,h.out j hj];have:i≠j:=by omega
  simpa using this
theorem vP.start:vP ops (Array.replicate ops.size false) 0:=
 ⟨by simp,λj hj=>by simp[hj],λj _=>Nat.zero_testBit j⟩
theorem aky(bS:ig P Φ){k:S->aj X}{i:Nat}(hi:ops[i]?=some o)(h:dI P N Φ ops σ o k=some r):∃ τ,k τ=some r/\∀ a w (K:Act->World->Prop) (Q:Exit->Act->World->Prop),R w0 N σ a w->(∀ a' w',R w0 N τ a' w'->K a' w')->wpOp P ops Q i K a w:=by
 unfold dI at h;split at h
 ·rename_i hw;obtain⟨τ,h1,iR⟩:=TM (w0:=w0) bS h
  refine⟨τ,h1,λa w K Q hR hK=>?_⟩
  obtain⟨ah,ρ,aO⟩:=hR;unfold wpOp;rw[hi];simp only[Fl hw aO,if_true];exact .inl (iR a w K Q ⟨ah,ρ,aO⟩ hK)
 ·rename_i hw;unfold jM at h;split at h
  ·rename_i hd
   refine⟨σ,h,λa w K Q hR hK=>?_⟩
   obtain⟨ah,ρ,aO⟩:=hR;unfold wpOp;rw[hi];simp only[Fl hw aO,hd];exact hK _ _ ⟨ah,ρ,aO⟩
  ·rename_i d hd;cases hN:Nat.blt d N with
   |false=>rw[hN]at h;cases h
   | true=>
    rw[hN,aq]at h
    refine⟨_,h,λa w K Q hR hK=>?_⟩
    obtain⟨ah,ρ,aO⟩:=hR;unfold wpOp;rw[hi];simp only[Fl hw aO,hd];exact hK _ _ ⟨ah,ρ,aO.set rfl (by have:=cH hN;omega)⟩
 ·cases h
theorem aaS(bS:ig P Φ){K:S->Prop}{Q:Exit->Act->World->Prop}(hQ:∀ τ,K τ->∀ a w,R w0 N τ a w->Q .normal a w):
  ∀(f L:Nat) (σ:S) (qh:Array Bool),Any P N Φ ops K f L σ->vP ops qh L->∀a w,R w0 N σ a w->wpAny P .any ops Q f qh a w
 | 0,L,σ,qh,h,hs,a,w,hR=>by
  refine⟨List.eq_nil_iff_forall_not_mem.2 λj hj=>?_,hQ σ h.2 a w hR⟩
  rw[hs.ready,h.1 j]at hj;cases hj
 | f+1,L,σ,qh,h,hs,a,w,hR=>by
  refine⟨λhr=>hQ σ (h.1 λj=>?_) a w hR,λj hj=>?_⟩
  ·cases hj:nO ops L j with
   |false=>rfl
   | true=>
    have:=(hs.ready j).2 hj;rw[hr]at this;cases this
  ·have qD:=(hs.ready j).1 hj;obtain⟨o,τ,ho,hd,hA⟩:=h.2 j qD;obtain⟨gv,h1,hw⟩:=aky (w0:=w0) bS ho hd;injection h1 with h1;subst h1;exact hw a w _ Q hR λa' w' aO=>aaS bS hQ f (L |||2 ^ j) _ _ hA (hs.set (aaJ qD)) a' w' aO
theorem R.drawn(hR:R w0 N σ a w):R w0 N σ a { w with drawn:=w.drawn+1 }:=by
 obtain⟨ah,ρ,h⟩:=hR;exact⟨ah,ρ,h.grow ⟨rfl,rfl,rfl,gZ _,λ_ _=>rfl⟩ (λ_ _=>rfl) (λb k hb hl=>absurd (h.dn b k hl).2.1 (Nat.not_lt.2 hb))⟩
theorem akz[Inhabited Wd](bS:ig P Φ){id:Nat}{k:S->aj X}(hm:P.follows .mixedOrders=true)(h:mm P N Φ ops ops.size 0 σ k=some r){Q:Exit->Act->World->Prop}(hQ:∀ τ,k τ=some r->∀ a w,R w0 N τ a w->Q .normal a w)(hR:R w0 N σ a w):
  (Code.region id ops true).wp P Q a w:=
 wp_region_any hm (aaS bS hQ _ _ _ _ (Je bS _ _ _ _ h) vP.start a _ hR.drawn)
end
end Go.Proofs.YtcioagfjiccleaaGreat
namespace Go.Proofs.YtcioagfjiccleaaGreat
open Go.RowKit
set_option linter.unusedVariables false
section
variable {P:Program} {w w':World} {w0:Wd} {B N:Nat} {ah aC:bE} {ρ ρ':Nat->Loc} {σ:S} {a:Act} {X:Type} {d e:Nat} {r:X} {o:Oper} {Φ:eS} {x:aW} {u:A}
/-! Values. -/
end
end Go.Proofs.YtcioagfjiccleaaGreat
namespace Go.Proofs.YtcioagfjiccleaaGreat
open Go.RowKit
set_option linter.unusedVariables false
section
variable {P:Program} {w w':World} {w0:Wd} {B N:Nat} {ah aC:bE} {ρ ρ':Nat->Loc} {σ:S} {a:Act} {X:Type} {d:Nat} {r:X} {o:Oper} {Φ:eS} {Λ:oD}
theorem akA{dst:aj Tmp}{g:Bool}{k:S->aj X}(h:qf σ dst g k=some r):∃ az,k az=some r/\∀ a w,R w0 N σ a w->R w0 N az a w:=by
 unfold qf at h;cases g with
 |false=>exact⟨σ,h,λ_ _ h=>h⟩
 | true=>
  rw[aq]at h;split at h
  ·rename_i d;split at h
   ·rename_i b hb;have key:∀ c:Bool,b=c->∀ a w,R w0 N σ a w->R w0 N (σ.set d (.lf (.v (.bool c)))) a w:=by
     rintro c rfl a w ⟨ah,ρ,hR⟩
     refine⟨ah,ρ,hR.below,hR.dn,hR.root,λk=>?_,hR.size,hR.defers,hR.fix,hR.dQ⟩
     show RA w w0.heap.size ah ρ (bP σ.t d (.lf (.v (.bool b))) k) _;by_cases hk:k=d
     ·subst hk;rw[bY,<-hb];exact hR.tmp k
     ·rw[cL _ _ _ hk];exact hR.tmp k
    cases b with
    |true=>exact⟨_,h,key true rfl⟩
    |false=>exact⟨_,h,key false rfl⟩
   ·exact⟨σ,h,λ_ _ h=>h⟩
  ·exact⟨σ,h,λ_ _ h=>h⟩
theorem NC(bS:ig P Φ)(ops:Array Oper):∀ (rest:af Oper) (j:Nat) (σ:S) (k:S->aj X),xj P N Φ ops j rest σ k=some r->∃ az,k az=some r/\∀ a w,R w0 N σ a w->∀ Q,(∀ a' w',R w0 N az a' w'->Q Exit.normal a' w')->wpList P ops Q rest a w
 |[],j,σ,k,h=>⟨σ,h,λa w hR Q hQ=>hQ a w hR⟩
 | o :: rest,j,σ,k,h=>by
  unfold xj at h;split at h
  ·rename_i Fk;obtain⟨nc,h1,iR⟩:=ajt (w0:=w0) bS h;obtain⟨σ2,h2,sQ⟩:=akA (w0:=w0) (N:=N) h1;obtain⟨Jh,h3,lA⟩:=NC bS ops rest (j+1) σ2 k h2
   refine⟨Jh,h3,λa w hR Q hQ=>?_⟩
   obtain⟨ah,ρ,aO⟩:=hR;simp only[wpList,Fl Fk aO,if_true];exact .inl (iR a w _ Q ⟨ah,ρ,aO⟩ λa' w' r8=>lA a' w' (sQ a' w' r8) Q hQ)
  ·rename_i Fk;unfold jM at h;split at h
   ·rename_i hd;obtain⟨Jh,h3,lA⟩:=NC bS ops rest (j+1) σ k h
    refine⟨Jh,h3,λa w hR Q hQ=>?_⟩
    obtain⟨ah,ρ,aO⟩:=hR;simp only[wpList,Fl Fk aO,hd];exact lA a w ⟨ah,ρ,aO⟩ Q hQ
   ·rename_i d hd;cases hN:Nat.blt d N with
    |false=>rw[hN]at h;cases h
    | true=>
     rw[hN,aq]at h;obtain⟨Jh,h3,lA⟩:=NC bS ops rest (j+1) _ k h
     refine⟨Jh,h3,λa w hR Q hQ=>?_⟩
     obtain⟨ah,ρ,aO⟩:=hR;simp only[wpList,Fl Fk aO,hd];exact lA _ w ⟨ah,ρ,aO.set rfl (by have:=cH hN;omega)⟩ Q hQ
  ·cases h
theorem Fo(bS:ig P Φ):∀ (c:Code) (σ:S) (k:Exit->S->aj X),iT P N Φ Λ c σ k=some r->qY P N Λ (occs c)->AW P w0 N c σ λe az=>k e az=some r:=by
 intro c
 induction c with
 |skip=>exact λσ k h _ a w hR=>wp_skip ⟨σ,h,hR⟩
 |label l=>exact λσ k h _ a w hR=>wp_label ⟨σ,h,hR⟩
 |ret=>exact λσ k h _ a w hR=>wp_ret ⟨σ,h,hR⟩
 |exit id=>exact λσ k h _ a w hR=>wp_exit ⟨σ,h,hR⟩
 | region id ops draw=>
  intro σ k h _ a w hR;cases draw with
  | true=>
   simp only[iT]at h;cases hm:P.follows .mixedOrders with
   |false=>rw[hm]at h;cases h
   | true=>
    rw[hm,aq]at h
    haveI:Inhabited Wd:=⟨w0⟩
    exact akz bS hm h (λτ en a w hR=>⟨τ,en,hR⟩) hR
  | false=>
   simp only[iT]at h;obtain⟨az,h',hw⟩:=NC (w0:=w0) bS ops _ _ _ _ h;exact wp_region_list (hw a w hR _ λa' w' aO=>⟨az,h',aO⟩)
 | seq x y Da Db=>
  intro σ k h iV a w hR;simp only[iT]at h;have h1:=Da σ _ h (λp hp=>iV p (List.mem_append_left _ hp))
  refine wp_seq (wp_mono (h1 a w hR) λe a' w' he=>?_)
  obtain⟨az,hk,aO⟩:=he;cases e with
  |normal=>exact Db az k hk (λp hp=>iV p (List.mem_append_right _ hp)) a' w' aO
  |_=>exact⟨az,hk,aO⟩
 | cond c x y Da Db=>
  intro σ k h iV a w hR;simp only[iT]at h;split at h
  ·rename_i b hb;obtain⟨ah,ρ,aO⟩:=hR;have hc:=aO.aF c;rw[hb]at hc;have hcv:=hc.2.Ay;cases b with
   |true=>exact wp_cond_true hcv (Da σ k h (λp hp=>iV p (List.mem_append_left _ hp)) a w ⟨ah,ρ,aO⟩)
   |false=>exact wp_cond_false hcv (Db σ k h (λp hp=>iV p (List.mem_append_right _ hp)) a w ⟨ah,ρ,aO⟩)
  ·cases h
 | block id c ih=>
  intro σ k h iV a w hR;simp only[iT]at h;split at h
  next b hb=>exact iV (id,c) (.head _) b hb X σ k r w0 h a w hR
  ·have h1:=ih σ _ h (λp hp=>iV p (.tail _ hp))
   refine wp_block (wp_mono (h1 a w hR) λe a' w' he=>?_)
   obtain⟨az,hk,aO⟩:=he;cases e with
   | exit tw=>
    simp only[Exit.inBlock];by_cases hid:tw=id
    ·simp only[hid,if_true]at hk ⊢;exact⟨az,hk,aO⟩
    ·simp only[hid,if_false]at hk ⊢;exact⟨az,hk,aO⟩
   |_=>exact⟨az,hk,aO⟩
 |_=>exact λσ k h=>by simp[iT]at h
end
/-! What a loop carries. -/
inductive Lm where
 |int (k:IntKind)
 |bool
 |str
 |own (r:Nat)
 |aA (t:TC) (o:Nat)
def Lm.T:Lm->Type
 |.int _=>Int
 |.bool=>Bool
 |.str=>ByteArray
 |.own _=>ak
 |.aA t _=>af (Proofs.YtcioagfjiccleaaGreat.T t)
def Lm.mk:(m:Lm)->m.T->Lf
 |.int k,n=>.v (.int k n)
 |.bool,b=>.v (.bool b)
 |.str,s=>.v (.str s)
 |.own r,_=>.own [r]
 |.aA t o,l=>.v (.sl t o false l)
def Lm.rd:(m:Lm)->Lf->aj m.T
 |.int k,.v (.int k' n)=>if k'=k then some n else none
 |.bool,.v (.bool b)=>some b
 |.str,.v (.str s)=>some s
 |.own r,.own [r']=>bif Nat.beq r' r then some ()else none
 |.aA t o,.v x=>bif Nat.blt o 2 then x.dX t o else none
 |_,_=>none
inductive Tm where
 |lf (m:Lm)
 |aG (r j:Nat)
 |fp (t:TC) (o:Nat)
 |fc (f:Nat) (t:TC)
 |ag (t:TC)
 |pk (r n:Nat)
def Tm.T:Tm->Type
 |.lf m=>m.T
 |.aG _ _=>ak
 |.fp t _=>Proofs.YtcioagfjiccleaaGreat.T t
 |.fc _ t=>Proofs.YtcioagfjiccleaaGreat.T t
 |.ag t=>Proofs.YtcioagfjiccleaaGreat.T t
 |.pk _ _=>ak
def Tm.mk:(m:Tm)->m.T->A
 |.lf m,x=>.lf (m.mk x)
 |.aG r j,_=>.aG r j
 |.fp t o,x=>.jB (enc t o x)
 |.fc f t,x=>.mK f (enc t 0 x)
 |.ag t,x=>.agg ((enc t 0 x).map .v)
 |.pk r n,_=>.pk r n
def Tm.rd:(m:Tm)->A->aj m.T
 |.lf m,.lf x=>m.rd x
 |.aG r j,.aG r' j'=>bif Nat.beq r' r&&Nat.beq j' j then some ()else none
 |.fp t o,.jB cs=>bif Nat.blt o 2 then dec t o cs else none
 |.fc f t,.mK f' cs=>bif Nat.beq f' f then dec t 0 cs else none
 | .ag t,.agg cs=>(match wO cs with
  |some vs=>dec t 0 vs
  |none=>none)
 |.pk r n,.pk r' n'=>bif Nat.beq r' r&&Nat.beq n' n then some ()else none
 |_,_=>none
def Ji:af Lm->Type
 |[]=>ak
 |m::ms=>m.T×Ji ms
def yX:(ms:af Lm)->Ji ms->af Lf
 |[],_=>[]
 |m::ms,x=>m.mk x.1::yX ms x.2
def Fp:(ms:af Lm)->af Lf->aj (Ji ms)
 |[],[]=>some ()
 | m :: ms,x :: xs=>match m.rd x,Fp ms xs with
  |some y,some ys=>some (y,ys)
  |_,_=>none
 |_,_=>none
inductive Rm where
 |sl (t:TC) (o:Nat)
 |st (t:TC)
 |ax (ms:List Lm)
 |mp
def Rm.T:Rm->Type
 |.sl t _=>af (Proofs.YtcioagfjiccleaaGreat.T t)
 |.st t=>Proofs.YtcioagfjiccleaaGreat.T t
 |.ax ms=>Ji ms
 |.mp=>af (Int×Bool)
def Rm.mk:(m:Rm)->m.T->aW
 |.sl t o,l=>.sl (.sl t o false l)
 |.st t,x=>.ax ((enc t 0 x).map .v)
 |.ax ms,x=>.ax (yX ms x)
 |.mp,l=>.mp l
def Rm.rd:(m:Rm)->aW->aj m.T
 |.sl t o,.sl y=>y.dX t o
 | .st t,.ax cs=>(match wO cs with
  |some vs=>dec t 0 vs
  |none=>none)
 |.ax ms,.ax cs=>Fp ms cs
 |.mp,.mp l=>some l
 |_,_=>none
def Fq:af (Nat×Tm)->Type
 |[]=>ak
 |(_,m)::ms=>m.T×Fq ms
def yY:(ms:af (Nat×Tm))->Fq ms->Nat->A
 |[],_,_=>.undef
 |(n,m)::ms,x,k=>bif Nat.beq k n then m.mk x.1 else yY ms x.2 k
def Jj:(ms:af (Nat×Tm))->(Nat->A)->aj (Fq ms)
 |[],_=>some ()
 | (n,m) :: ms,t=>match m.rd (t n),Jj ms t with
  |some x,some xs=>some (x,xs)
  |_,_=>none
def yZ:af (Nat×Rm)->Type
 |[]=>ak
 |(_,m)::ms=>m.T×yZ ms
def za:(ms:af (Nat×Rm))->yZ ms->Nat->aj aW
 |[],_,_=>none
 |(n,m)::ms,x,k=>bif Nat.beq k n then some (m.mk x.1)else za ms x.2 k
def Fs:(ms:af (Nat×Rm))->(Nat->aj aW)->aj (yZ ms)
 |[],_=>some ()
 | (n,m) :: ms,t=>match (t n).bind m.rd,Fs ms t with
  |some x,some xs=>some (x,xs)
  |_,_=>none
structure lH where
 ts:List (Nat×Tm)
 rs:List (Nat×Rm)
def lH.St(τ:lH):Type:=Fq τ.ts×yZ τ.rs
def lH.mk'(τ:lH)(x:τ.St):S:=⟨yY τ.ts x.1,za τ.rs x.2⟩
def lH.ND(τ:lH)(σ:S):aj τ.St:=match Jj τ.ts σ.t,Fs τ.rs σ.m with
 |some x,some y=>some (x,y)
 |_,_=>none
/-! Roots by other names. -/
abbrev Rn:=af (Nat×Nat)
def Rn.inv(rs:Rn)(n:Nat):aj Nat:=(rs.find? λp=>Nat.beq p.2 n).map (·.1)
def Rn.add(rs:Rn)(r n:Nat):Rn:=bif rs.any (λp=>Nat.beq p.1 r&&Nat.beq p.2 n)then rs else (r,n)::rs
def Uo(n:Nat):aj Nat->Bool
 |some m=>Nat.beq m n
 |none=>false
def Rn.ok(rs:Rn):Bool:=rs.all λp=>(Nat.beq p.1 p.2 ||Nat.ble 60000 p.2)&&Uo p.2 (rs.lookup p.1)&&Uo p.1 (rs.inv p.2)
def Lf.eR(rs:Rn):Lf->Lf
 |.v x=>.v x
 | .own [r]=>(match rs.lookup r with
  |some n=>.own [n]
  |none=>.dead)
 |_=>.dead
def A.eR(rs:Rn):A->A
 |.lf x=>.lf (x.eR rs)
 | .aG r j=>(match rs.lookup r with
  |some n=>.aG n j
  |none=>.undef)
 |.jB cs=>.jB cs
 |.mK f cs=>.mK f cs
 |.agg cs=>.agg (cs.map (Lf.eR rs))
 |_=>.undef
def aW.eR(rs:Rn):aW->aW
 |.ax cs=>.ax (cs.map (Lf.eR rs))
 |.sl y=>.sl y
 |.mp l=>.mp l
 |.gh _=>.gh []
def S.eR(rs:Rn)(σ:S):S:=⟨λk=>(σ.t k).eR rs,λn=>match rs.inv n with
 |some r=>(σ.m r).map (aW.eR rs)
 |none=>none⟩
def rnL:Lm->Lf->Rn->Rn
 |.own n,.own [r],rs=>rs.add r n
 |_,_,rs=>rs
def Up:af Lm->af Lf->Rn->Rn
 |m::ms,x::xs,rs=>Up ms xs (rnL m x rs)
 |_,_,rs=>rs
def rnT:Tm->A->Rn->Rn
 |.lf m,.lf x,rs=>rnL m x rs
 |.aG n j,.aG r j',rs=>rs.add r n
 |_,_,rs=>rs
def aaT(t:Nat->A):af (Nat×Tm)->Rn->Rn
 |[],rs=>rs
 |(k,m)::ms,rs=>aaT t ms (rnT m (t k) rs)
def aaU(m:Nat->aj aW):af (Nat×Rm)->Rn->Rn
 |[],rs=>rs
 | (n,x) :: xs,rs=>aaU m xs (match x,rs.inv n with
  | .ax ms,some r=>(match m r with
   |some (.ax cs)=>Up ms cs rs
   |_=>rs)
  | .ax ms,none=>(match m n with
   |some (.ax cs)=>Up ms cs (rs.add n n)
   |_=>rs)
  |_,some _=>rs
  |_,none=>rs.add n n)
def lH.rn(τ:lH)(σ:S):Rn:=aaU σ.m τ.rs (aaT σ.t τ.ts [])
def Uq(rs:af (Nat×Rm))(p:Nat×Tm)(σ:S):S:=match p.2,σ.t p.1 with
 | .lf (.own n),.lf (.v .nil)=>(match rs.lookup n with
  |some (.sl t o)=>bif Nat.ble 60000 n then ⟨bP ((σ.drop n).root n (.sl (.sl t o false []))).t p.1 (.lf (.own [n])),((σ.drop n).root n (.sl (.sl t o false []))).m⟩else σ
  |_=>σ)
 |_,_=>σ
def NF(rs:af (Nat×Rm)):af (Nat×Tm)->S->S
 |[],σ=>σ
 |p::ps,σ=>NF rs ps (Uq rs p σ)
def Ur(n j r:Nat)(σ:S):S:=match σ.m r with
 | some (.ax cs)=>(match cs[j]? with
  |some (.v .nil)=>⟨σ.t,bP σ.m r (some (.ax (cs.set j (.own [n]))))⟩
  |_=>σ)
 |_=>σ
def Us(rs:af (Nat×Rm))(n j r:Nat)(σ:S):S:=match rs.lookup n with
 |some (.sl t o)=>bif Nat.ble 60000 n then Ur n j r ((σ.drop n).root n (.sl (.sl t o false [])))else σ
 |_=>σ
def Dc(rs:af (Nat×Rm))(r:Nat):Nat->af Lm->af Lf->S->S
 |j,.own n::ms,.v .nil::cs,σ=>Dc rs r (j+1) ms cs (Us rs n j r σ)
 |j,_::ms,_::cs,σ=>Dc rs r (j+1) ms cs σ
 |_,_,_,σ=>σ
def Jk(rs:af (Nat×Rm)):af (Nat×Rm)->S->S
 |[],σ=>σ
 | (r,.ax ms) :: ps,σ=>Jk rs ps (match σ.m r with
  |some (.ax cs)=>Dc rs r 0 ms cs σ
  |_=>σ)
 |_::ps,σ=>Jk rs ps σ
def lH.rd1(τ:lH)(σ:S):aj τ.St:=bif (τ.rn σ).ok then τ.ND (Jk τ.rs τ.rs (σ.eR (τ.rn σ)))else none
def lH.rd(τ:lH)(σ:S):aj τ.St:=match τ.ND σ with
 |some x=>some x
 |none=>τ.rd1 (NF τ.rs τ.ts σ)
section
variable {P:Program} {w w':World} {w0:Wd} {B N:Nat} {ah aC:bE} {ρ ρ':Nat->Loc} {σ:S} {a:Act} {X:Type} {d:Nat} {r:X} {o:Oper} {Φ:eS} {Λ:oD}
theorem Lm.sn{m:Lm}{x:Lf}{y:m.T}(h:m.rd x=some y){u:Value}(hu:dN w B ah ρ x u):dN w B ah ρ (m.mk y) u:=by
 unfold Lm.rd at h;split at h
 ·split at h
  next hk=>subst hk;injection h with h;subst h;exact hu
  ·cases h
 ·injection h with h;subst h;exact hu
 ·injection h with h;subst h;exact hu
 ·rename_i r' r'';cases hb:Nat.beq r'' r' with
  |false=>rw[hb]at h;cases h
  |true=>obtain rfl:=cz hb;exact hu
 ·rename_i t o x;cases hb:Nat.blt o 2 with
  |false=>rw[hb]at h;cases h
  | true=>
   rw[hb]at h;have h:V.dX t o x=some y:=h;have:=cH hb;exact⟨by simp[V.aA];omega,hu.2.wk (V.eJ h)⟩
 ·cases h
theorem Tm.sn{m:Tm}{x:A}{y:m.T}(h:m.rd x=some y){u:Value}(hu:RA w B ah ρ x u):RA w B ah ρ (m.mk y) u:=by
 cases m with
 | lf m=>
  cases x with
  |lf x=>exact Lm.sn (m:=m) h hu
  |_=>cases h
 | aG r j=>
  cases x with
  | aG r' j'=>
   have h:(bif Nat.beq r' r&&Nat.beq j' j then some ()else none)=some y:=h;cases hb:(Nat.beq r' r&&Nat.beq j' j)with
   |false=>rw[hb]at h;cases h
   | true=>
    rw[aJ]at hb;obtain rfl:=cz hb.1;obtain rfl:=cz hb.2;exact hu
  |_=>cases h
 | fp t o=>
  cases x with
  | jB cs=>
   have h:(bif Nat.blt o 2 then dec t o cs else none)=some y:=h;cases hb:Nat.blt o 2 with
   |false=>rw[hb]at h;cases h
   | true=>
    rw[hb,aq]at h;have ho:=cH hb;have hk:=nB t o cs y h;obtain⟨b,off,h1,h2,h3,h4⟩:=hu
    refine⟨b,off,h1,h2,h3,λj z hz=>?_⟩
    have hj:j<cs.length:=by rw[hk.1];exact(dJ.1 hz).1
    have hv:=bT hj;obtain⟨g1,v,g2,g3⟩:=h4 j _ hv;exact⟨lQ t o y (by omega) j z hz,v,g2,g3.wk (hk.2 j _ z hv hz)⟩
  |_=>cases h
 | fc f t=>
  cases x with
  | mK f' cs=>
   have h:(bif Nat.beq f' f then dec t 0 cs else none)=some y:=h;cases hb:Nat.beq f' f with
   |false=>rw[hb]at h;cases h
   | true=>
    rw[hb,aq]at h;obtain rfl:=cz hb;have hk:=nB t 0 cs y h;obtain⟨pv,e0,b,off,h1,h2,h3,h4⟩:=hu
    refine⟨pv,e0,b,off,h1,h2,h3,λj z hz=>?_⟩
    have hj:j<cs.length:=by rw[hk.1];exact(dJ.1 hz).1
    have hv:=bT hj;obtain⟨g1,v,g2,g3⟩:=h4 j _ hv;exact⟨lQ t 0 y (by omega) j z hz,v,g2,g3.wk (hk.2 j _ z hv hz)⟩
  |_=>cases h
 | ag t=>
  cases x with
  | agg cs=>
   have h:(match wO cs with|some vs=>dec t 0 vs|none=>none)=some y:=h;cases ia:wO cs with
   |none=>rw[ia]at h;cases h
   | some vs=>
    rw[ia]at h;have h:dec t 0 vs=some y:=h;have dL:=Mz _ _ ia;have hk:=nB t 0 vs y h;obtain⟨us,h1,h2,h3⟩:=hu
    refine⟨us,h1,?_,λj x hx=>?_⟩
    ·rw[h2,dL,eV,eV,hk.1]
    ·rw[dH]at hx;cases hz:(enc t 0 y)[j]? with
     |none=>rw[hz]at hx;cases hx
     | some z=>
      rw[hz]at hx;injection hx with hx;subst hx;have hj:j<vs.length:=by rw[hk.1];exact(dJ.1 hz).1
      have hv:=bT hj;obtain⟨v,g1,g2⟩:=h3 j (.v vs[j]) (by rw[dL,dH,hv];rfl);exact⟨v,g1,lQ t 0 y (by omega) j z hz,g2.2.wk (hk.2 j _ z hv hz)⟩
  |_=>cases h
 | pk r n=>
  cases x with
  | pk r' n'=>
   have h:(bif Nat.beq r' r&&Nat.beq n' n then some ()else none)=some y:=h;cases hb:(Nat.beq r' r&&Nat.beq n' n)with
   |false=>rw[hb]at h;cases h
   | true=>
    rw[aJ]at hb;obtain rfl:=cz hb.1;obtain rfl:=cz hb.2;exact hu
  |_=>cases h
theorem aaV:∀ (ms:af Lm) (cs:af Lf) (y:Ji ms),Fp ms cs=some y->(yX ms y).length=cs.length/\∀ (j:Nat) x,(yX ms y)[j]?=some x->∃ z,cs[j]?=some z/\(∀ (w:World) (B:Nat) (ah:bE) (ρ:Nat->Loc) (u:Value),dN w B ah ρ z u->dN w B ah ρ x u)
 |[],[],y,h=>⟨rfl,λj x hx=>by simp[yX]at hx⟩
 | m :: ms,c :: cs,y,h=>by
  unfold Fp at h;split at h
  ·rename_i y1 ys h1 h2;injection h with h;subst h;obtain⟨k1,k2⟩:=aaV ms cs ys h2
   refine⟨by simp[yX,k1],λj x hx=>?_⟩
   cases j with
   |zero=>simp[yX]at hx;subst hx;exact⟨c,rfl,λw B ah ρ u hu=>Lm.sn h1 hu⟩
   |succ j=>exact k2 j x (by simpa [yX]using hx)
  ·cases h
 |[],_::_,y,h=>by simp[Fp]at h
 |_::_,[],y,h=>by simp[Fp]at h
theorem Rm.sn{m:Rm}{x:aW}{y:m.T}(h:m.rd x=some y){n:Nat}(hx:fj w B ah ρ n x):fj w B ah ρ n (m.mk y):=by
 cases m with
 | sl t o=>
  cases hx with
  |sl v y' aM hr=>exact .sl v _ aM (hr.wk (V.eJ h))
  |ax=>cases h
  |mp=>cases h
  |gh=>cases h
 | mp=>
  cases hx with
  |gh=>cases h
  |sl=>cases h
  |ax=>cases h
  |mp b c es l aM hl hh he=>injection h with h;subst h;exact .mp b c es _ aM hl hh he
 | st t=>
  cases hx with
  |sl=>cases h
  |mp=>cases h
  |gh=>cases h
  | ax b off cells e cs us aM hl hh hs hc=>
   have h:(match wO cs with|some vs=>dec t 0 vs|none=>none)=some y:=h;cases ia:wO cs with
   |none=>rw[ia]at h;cases h
   | some vs=>
    rw[ia]at h;have h:dec t 0 vs=some y:=h;have dL:=Mz _ _ ia;have hk:=nB t 0 vs y h
    refine .ax b off cells e _ us aM hl hh (by rw[eV,<-hk.1];rw[dL,eV]at hs;exact hs) λj x hx=>?_
    rw[dH]at hx;cases hz:(enc t 0 y)[j]? with
    |none=>rw[hz]at hx;cases hx
    | some z=>
     rw[hz]at hx;injection hx with hx;subst hx;have hj:j<vs.length:=by rw[hk.1];exact(dJ.1 hz).1
     have hv:=bT hj;obtain⟨h1,h2⟩:=hc j (.v vs[j]) (by rw[dL,dH,hv];rfl);exact⟨h1,lQ t 0 y (by omega) j z hz,h2.2.wk (hk.2 j _ z hv hz)⟩
 | ax ms=>
  cases hx with
  |sl=>cases h
  |mp=>cases h
  |gh=>cases h
  | ax b off cells e cs us aM hl hh hs hc=>
   obtain⟨k1,k2⟩:=aaV ms cs y h
   refine .ax b off cells e _ us aM hl hh (by show off+(yX ms y).length<=_;rw[k1];exact hs) λj x hx=>?_
   obtain⟨z,hz,hm⟩:=k2 j x hx;exact⟨(hc j z hz).1,hm _ _ _ _ _ (hc j z hz).2⟩
theorem Ut:∀ (ms:af (Nat×Tm)) (t:Nat->A) (y:Fq ms),Jj ms t=some y->∀ k,yY ms y k = .undef\/∃ m z,(Tm.rd m (t k)=some z/\yY ms y k=m.mk z)
 |[],t,y,h,k=>.inl rfl
 | (n,m) :: ms,t,y,h,k=>by
  unfold Jj at h;split at h
  ·rename_i x xs h1 h2;injection h with h;subst h;by_cases hk:k=n
   ·subst hk;exact .inr ⟨m,x,h1,by simp[yY]⟩
   ·have hb:Nat.beq k n=false:=by
     cases hb:Nat.beq k n with
     |false=>rfl
     |true=>exact absurd (cz hb) hk
    simp only[yY,hb,au];exact Ut ms t xs h2 k
  ·cases h
theorem Uu:∀ (ms:af (Nat×Rm)) (t:Nat->aj aW) (y:yZ ms),Fs ms t=some y->∀ k,za ms y k=none\/∃ m x z,t k=some x/\Rm.rd m x=some z/\za ms y k=some (m.mk z)
 |[],t,y,h,k=>.inl rfl
 | (n,m) :: ms,t,y,h,k=>by
  unfold Fs at h;split at h
  ·rename_i x xs h1 h2;injection h with h;subst h;by_cases hk:k=n
   ·subst hk;cases ht:t k with
    |none=>rw[ht]at h1;cases h1
    |some z=>rw[ht]at h1;exact .inr ⟨m,z,x,rfl,h1,by simp[za]⟩
   ·have hb:Nat.beq k n=false:=by
     cases hb:Nat.beq k n with
     |false=>rfl
     |true=>exact absurd (cz hb) hk
    simp only[za,hb,au];exact Uu ms t xs h2 k
  ·cases h
theorem lH.aaW{τ:lH}{x:τ.St}(h:τ.ND σ=some x)(hR:R w0 N σ a w):R w0 N (τ.mk' x) a w:=by
 unfold lH.ND at h;split at h
 ·rename_i u v h1 h2;injection h with h;subst h;obtain⟨ah,ρ,hR⟩:=hR
  refine⟨ah,ρ,hR.below,hR.dn,λn y hy=>?_,λk=>?_,hR.size,hR.defers,hR.fix,hR.dQ⟩
  ·have hy:za τ.rs v n=some y:=hy;rcases Uu τ.rs σ.m v h2 n with e | ⟨m,x,z,e1,e2,e3⟩
   ·rw[e]at hy;cases hy
   ·rw[e3]at hy;injection hy with hy;subst hy;exact Rm.sn e2 (hR.root n x e1)
  ·show RA _ _ _ _ (yY τ.ts u k) _;rcases Ut τ.ts σ.t u h1 k with e | ⟨m,z,e1,e2⟩
   ·rw[e];trivial
   ·rw[e2];exact Tm.sn e1 (hR.tmp k)
 ·cases h
theorem aaX{n:Nat}{o:aj Nat}(h:Uo n o=true):o=some n:=by
 cases o with
 |none=>cases h
 |some m=>rw[cz h]
theorem aaY{rs:Rn}{r n:Nat}(h:rs.lookup r=some n):(r,n)∈rs:=by
 induction rs with
 |nil=>cases h
 | cons p rs ih=>
  obtain⟨x,y⟩:=p;rw[List.lookup_cons]at h;split at h
  next hb=>injection h with h;subst h;rw[eq_of_beq hb];exact .head _
  ·exact .tail _ (ih h)
theorem aaZ{rs:Rn}{r n:Nat}(h:rs.inv n=some r):(r,n)∈rs:=by
 unfold Rn.inv at h;cases hf:rs.find? (λp=>Nat.beq p.2 n)with
 |none=>rw[hf]at h;cases h
 | some p=>
  rw[hf]at h;injection h with h;subst h;have h1:=List.find?_some hf;have h2:=List.mem_of_find?_eq_some hf;rw[<-cz h1];exact h2
def Rn.eW(rs:Rn)(ρ:Nat->Loc):Nat->Loc:=λn=>match rs.inv n with
 |some r=>ρ r
 |none=>ρ n
theorem Rn.NG{rs:Rn}(h:rs.ok=true){r n:Nat}(hm:(r,n)∈rs):(r=n\/60000<=n)/\rs.lookup r=some n/\rs.inv n=some r:=by
 have:=c9.1 h _ hm;rw[aJ,aJ,eH]at this;refine⟨?_,aaX this.1.2,aaX this.2⟩;rcases this.1.1 with h|h
 ·exact .inl (cz h)
 ·exact .inr (cH h)
theorem dN.eR{rs:Rn}(gj:rs.ok=true){x:Lf}{u:Value}(h:dN w B ah ρ x u):dN w B (fl ah rs id) (rs.eW ρ) (x.eR rs) u:=by
 unfold Lf.eR;split
 ·exact⟨h.1,h.2.Iq h.1 λb=>yJ⟩
 ·rename_i r;split
  next n hn=>have hi:=(Rn.NG gj (aaY hn)).2.2;refine⟨h.1,?_⟩;have h2:=h.2;simp only[cE]at h2 ⊢;unfold Rn.eW;rw[hi];exact h2
  ·trivial
 ·trivial
theorem Rl.eR{rs:Rn}(gj:rs.ok=true)(h:Rl w0 N ah ρ σ a w):Rl w0 N (fl ah rs id) (rs.eW ρ) (σ.eR rs) a w:=by
 have hl:∀ b r n,ah b=some [r]->rs.lookup r=some n->fl ah rs id b=some [n]:=by
  intro b r n h1 h2;simp[fl,h1,h2]
 refine⟨h.below,λb k hk=>?_,λn x hx=>?_,λk=>?_,h.size,h.defers,λr l hr=>?_,h.dQ⟩
 ·unfold fl at hk;split at hk
  ·cases hk
  ·rename_i k0 E2;split at hk
   ·cases hk
   ·rename_i r hr;cases hn:rs.lookup r with
    |none=>rw[hn]at hk;cases hk
    | some n=>
     rw[hn]at hk;injection hk with hk;subst hk;obtain⟨h1,h2,_⟩:=h.dn b k0 E2;exact⟨h1,h2,by simp⟩
 ·have hx:(match rs.inv n with | some r=>(σ.m r).map (aW.eR rs) | none=>none)=some x:=hx;cases hi:rs.inv n with
  |none=>rw[hi]at hx;cases hx
  | some r=>
   rw[hi]at hx;have hx:(σ.m r).map (aW.eR rs)=some x:=hx;have vz:=(Rn.NG gj (aaZ hi)).2.1;have aM:rs.eW ρ n=ρ r:=by unfold Rn.eW;rw[hi]
   cases hm:σ.m r with
   |none=>rw[hm]at hx;cases hx
   | some y=>
    rw[hm]at hx;injection hx with hx;subst hx;cases h.root r y hm with
    | ax b off cells e cs us h1 h2 hh hs hc=>
     refine .ax b off cells e _ us (aM.trans h1) (hl b r n h2 vz) hh (by rw[eV];exact hs) λj x hx=>?_
     rw[dH]at hx;cases hz:cs[j]? with
     |none=>rw[hz]at hx;cases hx
     | some z=>
      rw[hz]at hx;injection hx with hx;subst hx;exact⟨(hc j z hz).1,(hc j z hz).2.eR gj⟩
    | sl v y h1 h2=>
     exact .sl v y (aM.trans h1) (RV.fl (p:=[]) (nm:=id) h2 vz)
    |mp b c es l h1 h2 hh he=>exact .mp b c es l (aM.trans h1) (hl b r n h2 vz) hh he
    |gh us xs h1 hx=>exact .gh us _ (aM.trans h1) λj x hj=>by simp at hj
 ·show RA _ _ _ _ ((σ.t k).eR rs) _;have hk:=h.tmp k;generalize σ.t k=x at hk;unfold A.eR;split
  ·exact hk.eR gj
  ·rename_i r j;split
   next n hn=>have hi:=(Rn.NG gj (aaY hn)).2.2;obtain⟨b,off,h1,h2⟩:=hk;exact⟨b,off,by unfold Rn.eW;rw[hi];exact h1,h2⟩
   ·trivial
  ·obtain⟨b,off,g1,g2,g3,g4⟩:=hk
   refine⟨b,off,g1,g2,yJ g3,λj x hx=>?_⟩
   obtain⟨f1,v,f2,f3⟩:=g4 j x hx;exact⟨f1,v,f2,f3.Iq f1 λb=>yJ⟩
  ·obtain⟨pv,e0,b,off,g1,g2,g3,g4⟩:=hk
   refine⟨pv,e0,b,off,g1,g2,yJ g3,λj x hx=>?_⟩
   obtain⟨f1,v,f2,f3⟩:=g4 j x hx;exact⟨f1,v,f2,f3.Iq f1 λb=>yJ⟩
  ·obtain⟨us,g1,g2,g3⟩:=hk
   refine⟨us,g1,by rw[eV];exact g2,λj x hx=>?_⟩
   rw[dH]at hx;rename_i cs;cases hz:cs[j]? with
   |none=>rw[hz]at hx;cases hx
   | some z=>
    rw[hz]at hx;injection hx with hx;subst hx;obtain⟨v,f1,f2⟩:=g3 j z hz;exact⟨v,f1,f2.eR gj⟩
  ·trivial
 ·show rs.eW ρ r=l;unfold Rn.eW;split
  ·rename_i r0 hi;rcases(Rn.NG gj (aaZ hi)).1 with e | e
   ·rw[e];exact h.fix r l hr
   ·rw[h.dQ r (.inr e)]at hr;cases hr
  ·exact h.fix r l hr
theorem akB{rs:af (Nat×Rm)}{p:Nat×Tm}(hR:R w0 N σ a w):R w0 N (Uq rs p σ) a w:=by
 unfold Uq;split
 ·rename_i n hp hk;split
  ·rename_i t o hl;cases hb:Nat.ble 60000 n with
   |false=>exact hR
   | true=>
    have hn:=cH hb;obtain⟨ah,ρ,hR⟩:=hR;have hu:=hR.tmp p.1;rw[hk]at hu;have qO:a.tmps.getD p.1 undef = .slice none 0 0:=by
     have h2:=hu.2;generalize a.tmps.getD p.1 undef=u at h2;cases h2;rfl
    have h1:=hR.new (d:=n) (x:=.sl (.sl t o false [])) (.dP (.slice none 0 0)) (.sl _ _ (bY _ _ _) (.dc _ _ _)) (hR.dQ n (.inr hn))
    refine⟨ah,_,h1.below,h1.dn,h1.root,λk=>?_,h1.size,h1.defers,h1.fix,h1.dQ⟩
    show RA _ _ _ _ (bP ((σ.drop n).root n (.sl (.sl t o false []))).t p.1 (.lf (.own [n])) k) _;by_cases M4:k=p.1
    ·subst M4;rw[bY,qO];exact⟨rfl,by simp only[cE,bY]⟩
    ·rw[cL _ _ _ M4];exact h1.tmp k
  ·exact hR
 ·exact hR
theorem akC{n j r:Nat}{y:V}(hR:Rl w0 N ah ρ σ a w)(hn:ρ n = .dP (.slice none 0 0)):Rl w0 N ah ρ (Ur n j r σ) a w:=by
 unfold Ur;split
 ·rename_i cs hm;split
  ·rename_i hj
   refine⟨hR.below,hR.dn,λr' x hx=>?_,hR.tmp,hR.size,hR.defers,hR.fix,hR.dQ⟩
   have hx:bP σ.m r (some (.ax (cs.set j (.own [n])))) r'=some x:=hx;by_cases hr:r'=r
   ·subst hr;rw[bY]at hx;injection hx with hx;subst hx;cases hR.root r' _ hm with
    | ax b off cells e cs us h1 h2 hh hs hc=>
     refine .ax b off cells e _ us h1 h2 hh (by rw[kM];exact hs) λi z hz=>?_
     rw[List.getElem?_set]at hz;by_cases hi:j=i
     ·subst hi;have bC:j<cs.length:=(dJ.1 hj).1;rw[bu rfl,bu bC]at hz;injection hz with hz;subst hz;obtain⟨k1,k2⟩:=hc j _ hj;refine⟨k1,?_⟩;have hu:us j = .slice none 0 0:=by
       have h2:=k2.2;generalize us j=u at h2;cases h2;rfl
      rw[hu];exact⟨rfl,by simp only[cE,hn]⟩
     ·rw[bJ hi]at hz;exact hc i z hz
   ·rw[cL _ _ _ hr]at hx;exact hR.root r' x hx
  ·exact hR
 ·exact hR
theorem akD{rs:af (Nat×Rm)}{n j r:Nat}(hR:R w0 N σ a w):R w0 N (Us rs n j r σ) a w:=by
 unfold Us;split
 ·rename_i t o hl;cases hb:Nat.ble 60000 n with
  |false=>exact hR
  | true=>
   have hn:=cH hb;obtain⟨ah,ρ,hR⟩:=hR;exact⟨ah,_,akC (y:=.nil) (hR.new (d:=n) (x:=.sl (.sl t o false [])) (.dP (.slice none 0 0)) (.sl _ _ (bY _ _ _) (.dc _ _ _)) (hR.dQ n (.inr hn))) (bY _ _ _)⟩
 ·exact hR
theorem Uv{rs:af (Nat×Rm)}{r:Nat}:∀ (ms:af Lm) (cs:af Lf) (j:Nat) (σ:S),R w0 N σ a w->R w0 N (Dc rs r j ms cs σ) a w
 |[],cs,j,σ,h=>by unfold Dc;exact h
 | m :: ms,[],j,σ,h=>by
  unfold Dc;split<;>first|exact h|contradiction
 | m :: ms,c :: cs,j,σ,h=>by
  unfold Dc;split
  next e1 e2=>cases e1;cases e2;exact Uv ms cs _ _ (akD h)
  next e1 e2=>cases e1;cases e2;exact Uv ms cs _ _ h
  ·exact h
theorem Jl{rs:af (Nat×Rm)}:∀ (ps:af (Nat×Rm)) (σ:S),R w0 N σ a w->R w0 N (Jk rs ps σ) a w
 |[],σ,h=>h
 |(r,.sl t o)::ps,σ,h=>Jl ps σ h
 |(r,.st t)::ps,σ,h=>Jl ps σ h
 |(r,.mp)::ps,σ,h=>Jl ps σ h
 | (r,.ax ms) :: ps,σ,h=>by
  unfold Jk;refine Jl ps _ ?_;split
  ·exact Uv ms _ 0 σ h
  ·exact h
theorem aa0{rs:af (Nat×Rm)}:∀ (ps:af (Nat×Tm)) (σ:S),R w0 N σ a w->R w0 N (NF rs ps σ) a w
 |[],σ,h=>h
 |p::ps,σ,h=>aa0 ps _ (akB h)
theorem lH.sn{τ:lH}{x:τ.St}(h:τ.rd σ=some x)(hR:R w0 N σ a w):R w0 N (τ.mk' x) a w:=by
 unfold lH.rd at h;split at h
 next y hy=>injection h with h;subst h;exact lH.aaW hy hR
 ·have hR:=aa0 (rs:=τ.rs) τ.ts σ hR;revert h hR;generalize NF τ.rs τ.ts σ=az;intro h hR;unfold lH.rd1 at h;cases hb:(τ.rn az).ok with
  |false=>rw[hb]at h;cases h
  | true=>
   rw[hb,aq]at h;obtain⟨ah,ρ,hR⟩:=hR;exact lH.aaW h (Jl τ.rs _ ⟨_,_,hR.eR hb⟩)
end
end Go.Proofs.YtcioagfjiccleaaGreat
namespace Go.Proofs.YtcioagfjiccleaaGreat
open Go.RowKit
set_option linter.unusedVariables false
def zb:af V->af Nat->af Lf
 |[],_=>[]
 | x :: xs,ns=>bif x.plain then .v x :: zb xs ns else (match ns with
  |n::ns=>.own [n]::zb xs ns
  |[]=>.dead::zb xs [])
def Dd:af V->af Nat->(Nat->aj aW)->Nat->aj aW
 |[],_,m,k=>m k
 | x :: xs,ns,m,k=>bif x.plain then Dd xs ns m k else (match ns with
  |n::ns=>bif Nat.beq k n then some (.sl x)else Dd xs ns m k
  |[]=>Dd xs [] m k)
def mP(m:Nat->aj aW):af Lf->af Nat->aj (af V)
 |[],[]=>some []
 | .v x :: cs,ns=>bif x.plain then (match mP m cs ns with
  |some vs=>some (x::vs)
  |none=>none)else none
 | .own [r] :: cs,n :: ns=>bif Nat.beq r n then (match m n with
  | some (.sl y)=>bif y.plain then none else (match mP m cs ns with
   |some vs=>some (y::vs)
   |none=>none)
  |_=>none)else none
 |_,_=>none
abbrev Gp:=Nat×TC×Nat×af Nat
def Jm:af Gp->Type->Type
 |[],X=>X
 |g::gs,X=>T g.2.1×Jm gs X
def NH:(gs:af Gp)->(rs:af (Nat×Rm))->Jm gs (yZ rs)->Nat->aj aW
 |[],rs,x,k=>za rs x k
 |(n,t,o,ns)::gs,rs,x,k=>bif Nat.beq k n then some (.ax (zb (enc t o x.1) ns))else Dd (enc t o x.1) ns (NH gs rs x.2) k
def NI:(gs:af Gp)->(rs:af (Nat×Rm))->(Nat->aj aW)->aj (Jm gs (yZ rs))
 |[],rs,m=>Fs rs m
 | (n,t,o,ns) :: gs,rs,m=>match m n with
  | some (.ax cs)=>(match mP m cs ns with
   | some vs=>(match dec t o vs,NI gs rs m with
    |some x,some y=>some (x,y)
    |_,_=>none)
   |none=>none)
  |_=>none
def Ft:af V->af Nat->af Lm
 |[],_=>[]
 |.int k _::xs,ns=>.int k::Ft xs ns
 |.bool _::xs,ns=>.bool::Ft xs ns
 |.str _::xs,ns=>.str::Ft xs ns
 |_::xs,n::ns=>.own n::Ft xs ns
 |_::xs,[]=>.bool::Ft xs []
def Uw:af V->af Nat->af (Nat×Rm)
 |.sl t o _ _::xs,n::ns=>(n,.sl t o)::Uw xs ns
 |_::xs,ns=>Uw xs ns
 |[],_=>[]
def Ux:af Gp->af (Nat×Rm)->af (Nat×Rm)
 |[],rs=>rs
 |(n,t,o,ns)::gs,rs=>(n,.ax (Ft (Yt t o) ns))::(Uw (Yt t o) ns++Ux gs rs)
structure cG where
 ts:List (Nat×Tm)
 rs:List (Nat×Rm)
 gs:List Gp
def cG.St(τ:cG):Type:=Fq τ.ts×Jm τ.gs (yZ τ.rs)
def cG.mk'(τ:cG)(x:τ.St):S:=⟨yY τ.ts x.1,NH τ.gs τ.rs x.2⟩
def cG.NJ(τ:cG)(σ:S):aj τ.St:=match Jj τ.ts σ.t,NI τ.gs τ.rs σ.m with
 |some x,some y=>some (x,y)
 |_,_=>none
def cG.rd(τ:cG)(σ:S):aj τ.St:=match τ.NJ σ with
 |some x=>some x
 | none=>match lH.rd ⟨τ.ts,Ux τ.gs τ.rs⟩ σ with
  |some z=>τ.NJ (lH.mk' ⟨τ.ts,Ux τ.gs τ.rs⟩ z)
  |none=>none
section
variable {P:Program} {w w':World} {w0:Wd} {B N:Nat} {ah aC:bE} {ρ ρ':Nat->Loc} {σ:S} {a:Act} {m:Nat->aj aW}
theorem bW.inv{x:V}{xs ys:af V}(k:bW (x :: xs) ys):∃ y zs,ys=y :: zs/\Wk x y/\bW xs zs:=by
 obtain⟨k1,k2⟩:=k;cases ys with
 |nil=>simp at k1
 |cons y zs=>exact⟨y,zs,rfl,k2 0 x y rfl rfl,by simpa using k1,λj a b ha hb=>k2 (j+1) a b (by simpa using ha) (by simpa using hb)⟩
theorem Wk.aa1{x y:V}(h:Wk x y)(hp:x.plain=true):y=x:=by
 cases h<;>first|rfl|cases hp
theorem Wk.aa2{x y:V}(h:Wk x y)(hp:x.plain=false):y.plain=false:=by
 cases h<;>first|exact hp|rfl
theorem Uy:∀ (cs:af Lf) (ns:af Nat) (vs ys:af V),mP m cs ns=some vs->bW vs ys->(zb ys ns).length=cs.length/\∀ (j:Nat) z,(zb ys ns)[j]?=some z->cs[j]?=some z
 | [],[],vs,ys,h,hw=>by
  simp only[mP,gp]at h;subst h;have:ys=[]:=List.eq_nil_of_length_eq_zero hw.1.symm;subst this;exact⟨rfl,λj z hz=>by simp[zb]at hz⟩
 | .v x :: cs,ns,vs,ys,h,hw=>by
  unfold mP at h;cases hp:x.plain with
  |false=>rw[hp]at h;cases h
  | true=>
   rw[hp,aq]at h;split at h
   ·rename_i us gD;injection h with h;subst h;obtain⟨y,zs,rfl,k1,k2⟩:=hw.inv;obtain rfl:=k1.aa1 hp;obtain⟨e1,e2⟩:=Uy cs ns us zs gD k2;simp only[zb,hp,aq]
    refine⟨by simp[e1],λj z hz=>?_⟩
    cases j with
    |zero=>simpa using hz
    |succ j=>exact e2 j z (by simpa using hz)
   ·cases h
 | .own [r] :: cs,n :: ns,vs,ys,h,hw=>by
  unfold mP at h;cases hb:Nat.beq r n with
  |false=>rw[hb]at h;cases h
  | true=>
   rw[hb,aq]at h;obtain rfl:=cz hb;split at h
   ·rename_i y hy;cases hp:y.plain with
    |true=>rw[hp]at h;cases h
    | false=>
     rw[hp,au]at h;split at h
     ·rename_i us gD;injection h with h;subst h;obtain⟨y',zs,rfl,k1,k2⟩:=hw.inv;have hq:=k1.aa2 hp;obtain⟨e1,e2⟩:=Uy cs ns us zs gD k2;simp only[zb,hq,au]
      refine⟨by simp[e1],λj z hz=>?_⟩
      cases j with
      |zero=>simpa using hz
      |succ j=>exact e2 j z (by simpa using hz)
     ·cases h
   ·cases h
 |[],_::_,vs,ys,h,_=>by simp[mP]at h
 |.dead::_,_,vs,ys,h,_=>by simp[mP]at h
 |.own []::_,_,vs,ys,h,_=>by simp[mP]at h
 |.own (_::_::_)::_,_,vs,ys,h,_=>by simp[mP]at h
 |.own [_]::_,[],vs,ys,h,_=>by simp[mP]at h
theorem Uz{f:Nat->aj aW}{k:Nat}{x:aW}:∀ (cs:af Lf) (ns:af Nat) (vs ys:af V),mP m cs ns=some vs->bW vs ys->Dd ys ns f k=some x->f k=some x\/∃ v y,m k=some (.sl v)/\x = .sl y/\Wk v y
 | [],[],vs,ys,h,hw,hx=>by
  simp only[mP,gp]at h;subst h;have:ys=[]:=List.eq_nil_of_length_eq_zero hw.1.symm;subst this;exact .inl hx
 | .v x' :: cs,ns,vs,ys,h,hw,hx=>by
  unfold mP at h;cases hp:x'.plain with
  |false=>rw[hp]at h;cases h
  | true=>
   rw[hp,aq]at h;split at h
   next us gD=>injection h with h;subst h;obtain⟨y,zs,rfl,k1,k2⟩:=hw.inv;obtain rfl:=k1.aa1 hp;simp only[Dd,hp,aq]at hx;exact Uz cs ns us zs gD k2 hx
   ·cases h
 | .own [r] :: cs,n :: ns,vs,ys,h,hw,hx=>by
  unfold mP at h;cases hb:Nat.beq r n with
  |false=>rw[hb]at h;cases h
  | true=>
   rw[hb,aq]at h;obtain rfl:=cz hb;split at h
   ·rename_i y hy;cases hp:y.plain with
    |true=>rw[hp]at h;cases h
    | false=>
     rw[hp,au]at h;split at h
     ·rename_i us gD;injection h with h;subst h;obtain⟨y',zs,rfl,k1,k2⟩:=hw.inv;have hq:=k1.aa2 hp;simp only[Dd,hq,au]at hx;cases hk:Nat.beq k r with
      | true=>
       rw[hk,aq]at hx;injection hx with hx;obtain rfl:=cz hk;exact .inr ⟨y,y',hy,hx.symm,k1⟩
      | false=>
       rw[hk,au]at hx;exact Uz cs ns us zs gD k2 hx
     ·cases h
   ·cases h
 |[],_::_,vs,ys,h,_,_=>by simp[mP]at h
 |.dead::_,_,vs,ys,h,_,_=>by simp[mP]at h
 |.own []::_,_,vs,ys,h,_,_=>by simp[mP]at h
 |.own (_::_::_)::_,_,vs,ys,h,_,_=>by simp[mP]at h
 |.own [_]::_,[],vs,ys,h,_,_=>by simp[mP]at h
theorem aa3:∀ (gs:af Gp) (rs:af (Nat×Rm)) (y:Jm gs (yZ rs)),NI gs rs m=some y->∀ k x,NH gs rs y k=some x->∃ x0,m k=some x0/\∀ (w:World) (B:Nat) (ah:bE) (ρ:Nat->Loc),fj w B ah ρ k x0->fj w B ah ρ k x
 | [],rs,y,h,k,x,hx=>by
  have h:Fs rs m=some y:=h;have hx:za rs y k=some x:=hx;rcases Uu rs m y h k with e|⟨m',x0,z,e1,e2,e3⟩
  ·rw[e]at hx;cases hx
  ·rw[e3]at hx;injection hx with hx;subst hx;exact⟨x0,e1,λw B ah ρ hr=>Rm.sn e2 hr⟩
 | (n,t,o,ns) :: gs,rs,y,h,k,x,hx=>by
  unfold NI at h;split at h
  ·rename_i cs hm;split at h
   ·rename_i vs ia;split at h
    ·rename_i x1 y1 h1 h2;injection h with h;subst h;have hw:=nB t o vs x1 h1;simp only[NH]at hx;cases hk:Nat.beq k n with
     | true=>
      rw[hk,aq]at hx;injection hx with hx;subst hx;obtain rfl:=cz hk;obtain⟨e1,e2⟩:=Uy cs ns vs _ ia hw
      refine⟨_,hm,λw B ah ρ hr=>?_⟩
      cases hr with
      |ax b off cells e _ us aM hl hh hs hc=>exact .ax b off cells e _ us aM hl hh (by rw[e1];exact hs) λj z hz=>hc j z (e2 j z hz)
     | false=>
      rw[hk,au]at hx;rcases Uz cs ns vs _ ia hw hx with e|⟨v,y',e1,rfl,e2⟩
      ·exact aa3 gs rs y1 h2 k x e
      ·refine⟨_,e1,λw B ah ρ hr=>?_⟩
       cases hr with
       |sl u _ aM hr=>exact .sl u _ aM (hr.wk e2)
    ·cases h
   ·cases h
  ·cases h
theorem cG.aa4{τ:cG}{x:τ.St}(h:τ.NJ σ=some x)(hR:R w0 N σ a w):R w0 N (τ.mk' x) a w:=by
 unfold cG.NJ at h;split at h
 ·rename_i u v h1 h2;injection h with h;subst h;obtain⟨ah,ρ,hR⟩:=hR
  refine⟨ah,ρ,hR.below,hR.dn,λn y hy=>?_,λk=>?_,hR.size,hR.defers,hR.fix,hR.dQ⟩
  ·obtain⟨x0,e1,e2⟩:=aa3 τ.gs τ.rs v h2 n y hy;exact e2 _ _ _ _ (hR.root n x0 e1)
  ·show RA _ _ _ _ (yY τ.ts u k) _;rcases Ut τ.ts σ.t u h1 k with e | ⟨m,z,e1,e2⟩
   ·rw[e];trivial
   ·rw[e2];exact Tm.sn e1 (hR.tmp k)
 ·cases h
theorem cG.sn{τ:cG}{x:τ.St}(h:τ.rd σ=some x)(hR:R w0 N σ a w):R w0 N (τ.mk' x) a w:=by
 unfold cG.rd at h;split at h
 next y hy=>injection h with h;subst h;exact cG.aa4 hy hR
 ·split at h
  next z hz=>exact cG.aa4 h (lH.sn hz hR)
  ·cases h
end
end Go.Proofs.YtcioagfjiccleaaGreat
namespace Go.Proofs.YtcioagfjiccleaaGreat
open Go.RowKit
set_option linter.unusedVariables false
def Bg:Exit->aj Nat
 |.normal=>some 0
 |.ret=>some 1
 |.exit n=>some (n+2)
 |_=>none
def UA:Nat->Exit
 |0=>.normal
 |1=>.ret
 |n+2=>.exit n
theorem uI{e:Exit}{n:Nat}(h:Bg e=some n):e=UA n:=by
 cases e<;>simp[Bg]at h<;>subst h<;>rfl
def vQ:af (Nat×cG)->Type
 |[]=>Empty
 |(_,τ)::r=>τ.St⊕vQ r
def NK:(l:af (Nat×cG))->Nat->S->aj (vQ l)
 |[],_,_=>none
 | (n,τ) :: r,e,σ=>bif Nat.beq n e then (match τ.rd σ with
  |some x=>some (.inl x)
  |none=>none)else (match NK r e σ with
  |some x=>some (.inr x)
  |none=>none)
def UB{X:Type}:(l:af (Nat×cG))->vQ l->(Exit->S->aj X)->aj X
 |[],z,_=>nomatch z
 | (n,τ) :: r,z,k=>match z with
  |.inl x=>k (UA n) (τ.mk' x)
  |.inr z=>UB r z k
def iter{α β:Type}(step:α->aj (α⊕β)):Nat->α->aj β
 |0,_=>none
 | n+1,x=>match step x with
  |some (.inl y)=>iter step n y
  |some (.inr z)=>some z
  |none=>none
def Fu(P:Program)(N:Nat)(Φ:eS)(Λ:oD)(body:Code)(τ:cG)(kF:af (Nat×cG))(x:τ.St):aj (τ.St⊕vQ kF):=
 iT P N Φ Λ body (τ.mk' x) λe σ=>match Bg e with
  | some 0=>(match τ.rd σ with
   |some x=>some (.inl x)
   |none=>none)
  | some n=>(match NK kF n σ with
   |some x=>some (.inr x)
   |none=>none)
  |none=>none
def UC{X:Type}(id:Nat)(k:Exit->S->aj X)(e:Exit)(σ:S):aj X:=
 match e with
 |.exit tw=>if tw=id then k .normal σ else k (.exit tw) σ
 |e=>k e σ
def NL(id:Nat)(τ:cG)(kF:af (Nat×cG))(F:τ.St->aj (τ.St⊕vQ kF))(fuel:τ.St->Nat):uE:=
 ⟨λX σ k=>match τ.rd σ with
  | some x=>(match iter F (fuel x) x with
   |some z=>UB kF z (UC id k)
   |none=>none)
  |none=>none⟩
def pL:af (Bool×TC)->Type
 |[]=>ak
 |(_,t)::r=>T t×pL r
def jo:(l:af (Bool×TC))->pL l->af Pt
 |[],_=>[]
 |(b,t)::r,x=>(b,enc t 0 x.1)::jo r x.2
def Bh:(l:af (Bool×TC))->af Pt->aj (pL l)
 |[],[]=>some ()
 | (b,t) :: r,(b',vs) :: ps=>bif b==b' then (match dec t 0 vs,Bh r ps with
  |some x,some xs=>some (x,xs)
  |_,_=>none)else none
 |_,_=>none
def aZ(ai:af (Bool×TC))(ro:af (Bool×TC×Nat))(F:pL ai->aj (mg ro)):mb:=
 ⟨λX args k=>match Bh ai args with
  | some x=>(match F x with
   |some y=>k (fK ro y)
   |none=>none)
  |none=>none⟩
def UD:Pt->A
 |(false,[x])=>.lf (.v x)
 |(true,xs)=>.agg (xs.map .v)
 |(false,.bool true::c::cs)=>.jB (c::cs)
 |(false,.bool false::.int .i64 (.ofNat g)::c::cs)=>.mK g (c::cs)
 |_=>.undef
def aa5(args:af Pt):S:=⟨λk=>match args[k]? with
 |some p=>UD p
 |none=>.undef,λ_=>none⟩
def uJ{X:Type}(P:Program)(N:Nat)(Φ:eS)(Λ:oD)(code:Code)(rv:Array ResultVar)(args:af Pt)(k:iF->aj X):aj X:=
 iT P N Φ Λ code (aa5 args) λe σ=>match Bg e with
  |some 0=>Il P σ rv k
  |some 1=>Il P σ rv k
  |_=>none
section
variable {P:Program} {w w':World} {w0:Wd} {B N:Nat} {ah aC:bE} {ρ ρ':Nat->Loc} {σ:S} {a:Act} {X:Type} {d:Nat} {r:X} {o:Oper} {Φ:eS} {Λ:oD}
theorem aa6:∀ (l:af (Nat×cG)) (e:Nat) (z:vQ l),NK l e σ=some z->∀ (X:Type) (k:Exit->S->aj X),∃ az,UB l z k=k (UA e) az/\∀ a w,R w0 N σ a w->R w0 N az a w
 |[],e,z,h=>by cases h
 | (n,τ) :: l,e,z,h=>by
  intro X k;unfold NK at h;cases hb:Nat.beq n e with
  | true=>
   obtain rfl:=cz hb;rw[hb,aq]at h;split at h
   next x hx=>injection h with h;subst h;exact⟨τ.mk' x,rfl,λa w hR=>cG.sn hx hR⟩
   ·cases h
  | false=>
   rw[hb,au]at h;split at h
   next x hx=>injection h with h;subst h;exact aa6 l e x hx X k
   ·cases h
theorem akE{id:Nat}{body:Code}{τ:cG}{kF:af (Nat×cG)}{F:τ.St->aj (τ.St⊕vQ kF)}{fuel:τ.St->Nat}(bS:ig P Φ)(iV:qY P N Λ (occs body))(hF:∀ x,Fu P N Φ Λ body τ kF x=F x):C3 P N (.block id (.loop body)) (NL id τ kF F fuel):=by
 intro X σ k r w0 h a w hR;simp only[NL]at h;split at h
 ·rename_i x hx;split at h
  ·rename_i z hz;refine wp_block ?_;have key:∀ (n:Nat) (x:τ.St),iter F n x=some z->∀ (a:Act) (w:World),R w0 N (τ.mk' x) a w->∀ (b:Frame) (kk:af Item) (cs:af Frame),
     ∃e a' w',Exit.inBlock id (λe a' w'=>∃az,k e az=some r/\R w0 N az a' w') e a' w'/\Arrives P (lone (b.at a (.code body::.inLoop body::kk)) cs w) b kk cs e a' w':=by
    intro n
    induction n with
    |zero=>intro x hx;simp[iter]at hx
    | succ n ih=>
     intro x hx a w hR b kk cs;simp only[iter]at hx;have jl:∃ y,Fu P N Φ Λ body τ kF x=some y/\(match y with | .inl y=>iter F n y=some z | .inr z'=>z'=z):=by
      rw[hF];split at hx
      next y hy=>exact⟨_,hy,hx⟩
      next y hy=>exact⟨_,hy,by injection hx⟩
      ·cases hx
     obtain⟨y,hy,NM⟩:=jl;unfold Fu at hy;have hwp:=Fo (w0:=w0) bS body _ _ hy iV a w hR;obtain⟨e,a1,w1,⟨nc,eO,r8⟩,NN⟩:=hwp b (.inLoop body::kk) cs;split at eO
     ·rename_i he;have he:=uI he;subst he;split at eO
      next x1 o8=>injection eO with eO;subst eO;obtain⟨e2,a2,w2,qM,akF⟩:=ih x1 NM a1 w1 (cG.sn o8 r8) b kk cs;exact⟨e2,a2,w2,qM,.of_steps (Steps.trans NN (.one step_inLoop)) akF⟩
      ·cases eO
     ·rename_i n' bg he;have he:=uI he;split at eO
      ·rename_i z1 Jn;injection eO with eO;subst eO;have NM:z1=z:=NM;subst NM;obtain⟨σ2,jt,ki⟩:=aa6 (w0:=w0) (N:=N) kF n' z1 Jn X (UC id k);rw[jt]at h;rw[<-he]at h;refine⟨e,a1,w1,?_,?_⟩
       ·cases e with
        | exit tw=>
         simp only[UC]at h;simp only[Exit.inBlock];split at h
         next hid=>rw[bu hid];exact⟨σ2,h,ki a1 w1 r8⟩
         next hid=>rw[bJ hid];exact⟨σ2,h,ki a1 w1 r8⟩
        |_=>exact⟨σ2,h,ki a1 w1 r8⟩
       ·refine .pass (x:=.inLoop body) rfl (λ_ _=>.inl ?_) NN
        intro e';rw[e']at he
        match n',bg,he with
        |0,bg,_=>exact bg rfl
        |1,_,he=>cases he
        |n+2,_,he=>cases he
      ·cases eO
     ·cases eO
   intro b kk cs;obtain⟨e,a',w',hq,NN⟩:=key (fuel x) x hz a w (cG.sn hx hR) b kk cs;exact⟨e,a',w',hq,.of_steps (.one step_loop) NN⟩
  ·cases h
 ·cases h
theorem PV.tj{key:Nat->af Nat}{b:Bool}{xs ys:af V}{u:Value}(h:PV w B ah key (b,xs) u)(k:bW xs ys):PV w B ah key (b,ys) u:=by
 obtain⟨us,hu,hs,hr⟩:=h
 refine⟨us,hu,hs.trans k.1,λj y hy=>?_⟩
 have hj:j<xs.length:=by rw[k.1];exact(dJ.1 hy).1
 obtain⟨v,hv,dA⟩:=hr j _ (bT hj);exact⟨v,hv,dA.wk (k.2 j _ y (bT hj) hy)⟩
theorem AL.tj{cs ds:af V}{u:Value}(h:AL w cs u)(k:bW cs ds):AL w ds u:=by
 obtain⟨b,off,hu,hb,hr⟩:=h
 refine⟨b,off,hu,hb,λj y hy=>?_⟩
 have hj:j<cs.length:=by rw[k.1];exact(dJ.1 hy).1
 obtain⟨v,hv,dA⟩:=hr j _ (bT hj);exact⟨v,hv,dA.wk (k.2 j _ y (bT hj) hy)⟩
theorem PA.tj{b:Bool}{xs ys:af V}{u:Value}(h:PA w (b,xs) u)(k:bW xs ys):PA w (b,ys) u:=by
 cases h with
 |v _ _ h=>exact .v _ _ (h.tj k)
 | p c cs _ h=>
  obtain⟨y,zs,rfl,k1,k2⟩:=k.inv;cases k1;have h:=h.tj k2;obtain⟨c',fO,rfl,_,_⟩:=k2.inv;exact .p _ _ _ h
 | f g c cs u h=>
  obtain⟨y,zs,rfl,k1,k2⟩:=k.inv;cases k1;obtain⟨y,zs,rfl,k1,k3⟩:=k2.inv;cases k1;have h:=h.tj k3;obtain⟨c',fO,rfl,_,_⟩:=k3.inv;exact .f _ _ _ _ h
theorem PA.ra{p:Pt}{u:Value}(h:PA w p u)(hf:∀ y∈p.2,y.aA=true):RA w w.heap.size (λ_=>none) ρ (UD p) u:=by
 have hFP:∀ {cs:af V} {u:Value},AL w cs u->(∀ y∈cs,y.aA=true)->RF w w.heap.size (λ_=>none) cs u:=by
  rintro cs u ⟨b,off,rfl,hb,hr⟩ hf
  refine⟨b,off,rfl,hb,rfl,λj x hx=>⟨hf x (iy hx),hr j x hx⟩⟩
 cases h with
 | v _ _ h=>
  obtain⟨us,hu,hs,hr⟩:=h;obtain⟨b,xs⟩:=p;cases b with
  | true=>
   refine⟨us,hu,by rw[eV];exact hs,λi y hy=>?_⟩
   rw[dH]at hy;cases hz:xs[i]? with
   |none=>rw[hz]at hy;cases hy
   | some z=>
    rw[hz]at hy;injection hy with hy;subst hy;obtain⟨v,hv,dA⟩:=hr i z hz;exact⟨v,hv,hf z (iy hz),dA⟩
  | false=>
   have hu:us = #[u]:=hu;subst hu;have h1:xs.length=1:=hs.symm;obtain⟨x,rfl⟩:=List.length_eq_one_iff.1 h1;obtain⟨v,hv,dA⟩:=hr 0 x rfl;have:u=v:=by simpa using hv
   subst this;exact⟨hf x (by simp),dA⟩
 |p c cs _ h=>exact hFP h λy hy=>hf y (.tail _ hy)
 |f g c cs u h=>exact⟨u,rfl,hFP h λy hy=>hf y (.tail _ (.tail _ hy))⟩
theorem Jo:∀ (l:af (Bool×TC)) (ps:af Pt) (x:pL l),Bh l ps=some x->(jo l x).length=ps.length/\∀ (i:Nat) p,(jo l x)[i]?=some p->∃ q,ps[i]?=some q/\q.1=p.1/\bW q.2 p.2
 |[],[],x,h=>⟨rfl,λi p hp=>by simp[jo]at hp⟩
 | (b,t) :: r,(b',vs) :: ps,x,h=>by
  unfold Bh at h;cases hb:b==b' with
  |false=>rw[hb]at h;cases h
  | true=>
   rw[hb,aq]at h;have hb:b=b':=by simpa using hb
   subst hb;split at h
   ·rename_i y ys h1 h2;injection h with h;subst h;obtain⟨k1,k2⟩:=Jo r ps ys h2
    refine⟨by simp[jo,k1],λi p hp=>?_⟩
    cases i with
    |zero=>simp[jo]at hp;subst hp;exact⟨(b,vs),rfl,rfl,nB t 0 vs y h1⟩
    |succ i=>exact k2 i p (by simpa [jo]using hp)
   ·cases h
 |[],_::_,x,h=>by simp[Bh]at h
 |_::_,[],x,h=>by simp[Bh]at h
def q7(l:af (Bool×TC×Nat)):Bool:=l.all λp=>Nat.ble (full p.2.1) p.2.2
theorem aa7(t:TC)(g:Nat)(x:T t)(h:full t<=g):(enc t g x).all V.loc=true:=by
 rw[c9];intro y hy;have hg:=yc t g x y hy;have hl:=Md t g x y hy;cases y with
 | sl t' o' q l=>
  have ho:o'=g:=by simpa [V.gr]using hg
  subst ho;have hl:full t'+2<=full t:=cH hl;show AM t' o'=true
  match o',h with
  |0,h=>omega
  |1,h=>omega
  | n+2,h=>
   simp only[AM,eH];left;exact jV (by omega)
 |_=>rfl
theorem UE:∀ (l:af (Bool×TC×Nat)) (ps:af Pt) (x:mg l),q7 l=true->ou l ps=some x->(vA l x).length=ps.length/\∀ (nm:Nat->Nat) (off:Nat) (vs:af Value),lC w B ah nm off ps vs->lC w B ah nm off (vA l x) vs
 |[],[],x,_,h=>⟨rfl,λnm off vs hr=>hr⟩
 | [(b,t,g)],[(b',vs)],x,ho,h=>by
  unfold ou at h;cases hb:b==b' with
  |false=>rw[hb]at h;cases h
  | true=>
   rw[hb]at h;have h:dec t g vs=some x:=h;have hb:b=b':=by simpa using hb
   subst hb;have hg:full t<=g:=by simpa [q7]using ho
   refine⟨rfl,λnm off us hr=>?_⟩
   match us,hr with
   |[u],⟨⟨_,h1⟩,_⟩=>exact⟨⟨aa7 t g x hg,h1.tj (nB t g vs x h)⟩,trivial⟩
 | (b,t,g) :: q :: r,(b',vs) :: ps,x,ho,h=>by
  unfold ou at h;cases hb:b==b' with
  |false=>rw[hb]at h;cases h
  | true=>
   rw[hb,aq]at h;have hb:b=b':=by simpa using hb
   subst hb;have vO:full t<=g/\q7 (q :: r)=true:=by
    simp only[q7,List.all_cons,aJ]at ho ⊢;exact⟨cH ho.1,ho.2⟩
   split at h
   ·rename_i y ys h1 h2;injection h with h;subst h;obtain⟨k1,k2⟩:=UE (q :: r) ps ys vO.2 h2
    refine⟨by simp[vA,k1],λnm off us hr=>?_⟩
    match us,hr with
    | u :: us,⟨⟨_,hp⟩,lA⟩=>
     have hlen:vs.length=(enc t g y).length:=(nB t g vs y h1).1;refine⟨⟨aa7 t g y vO.1,hp.tj (nB t g vs y h1)⟩,?_⟩;have Ct:off+vs.length=off+(enc t g y).length:=by rw[hlen]
     have lA:lC w B ah nm (off+vs.length) ps us:=lA;rw[Ct]at lA;exact k2 nm _ us lA
   ·cases h
 |[],_::_,x,_,h=>by simp[ou]at h
 |[_],[],x,_,h=>by simp[ou]at h
 |[_],_::_::_,x,_,h=>by simp[ou]at h
 |_::_::_,[],x,_,h=>by simp[ou]at h
theorem aa8{l:af (Bool×TC×Nat)}{res:iF}{x:mg l}(ho:q7 l=true)(h:pF l res=some x){nm:Nat->Nat}{v:Value}(hr:sY w B ah nm res v):sY w B ah nm (fK l x) v:=by
 cases res with
 | one p=>
  obtain⟨k1,k2⟩:=UE (w:=w) (B:=B) (ah:=ah) l [p] x ho h;have hr:lC w B ah nm 0 [p] [v]:=hr;have:=k2 nm 0 [v] hr;unfold fK
  match hm:vA l x,k1,this with
  |[q],_,this=>exact this
  |[],k1,_=>cases k1
  |_::_::_,k1,_=>simp at k1
 | cP ps=>
  simp only[pF]at h;cases hb:Nat.beq ps.length 1 with
  |true=>rw[hb]at h;cases h
  | false=>
   rw[hb,au]at h;obtain⟨k1,k2⟩:=UE (w:=w) (B:=B) (ah:=ah) l ps x ho h;obtain⟨vs,e,hr⟩:=hr;have:=k2 nm 0 _ hr;unfold fK
   match hm:vA l x,k1,this with
   |[q],k1,this=>simp only[rF]at k1;rw[<-k1]at hb;cases hb
   |[],_,this=>exact⟨vs,e,this⟩
   |_::_::_,_,this=>exact⟨vs,e,this⟩
theorem aa9:∀ (l:af (Bool×TC)) (x:pL l),(jo l x).length=l.length
 |[],x=>rfl
 |(b,t)::l,x=>by simp[jo,aa9 l]
theorem aba:∀ (l:af (Bool×TC)) (x:pL l) (j:Nat) (p:Pt),(jo l x)[j]?=some p->∀ y∈p.2,y.aA=true
 |[],x,j,p,hp,_,_=>by simp[jo]at hp
 | (b,t) :: l,x,0,p,hp,y,hy=>by
  simp[jo]at hp;subst hp;obtain⟨i,hi⟩:=List.mem_iff_getElem?.1 hy;exact lQ t 0 x.1 (by omega) i y hi
 |(b,t)::l,x,j+1,p,hp,y,hy=>aba l x.2 j p (by simpa [jo]using hp) y hy
theorem Jp{f:Nat}{fn:Func}{code:Code}{vR:af Pt}{ro:af (Bool×TC×Nat)}{y:mg ro}(hf:P.funcs[f]?=some fn)(hb:fn.body=some code)(hN:fn.ntmps=N)(hle:vR.length<=N)(cQ:q7 ro=true)
  (bS:ig P Φ) (iV:qY P N Λ (occs code)) (akG:∀(j:Nat) p,vR[j]?=some p->∀y∈p.2,y.aA=true) (hy:uJ P N Φ Λ code fn.results vR (pF ro)=some y) (nm:Nat->Nat) (w:World) (bQ:Array Value) (jn:wS w vR bQ) (hQ:Hd w (λ_=>none)):
  Calls P f bQ w λe w'=>∃v aC,e = .returned v/\Below w.heap.size w w'/\(∀b k,aC b=some k->w.heap.size<=b/\b<w'.heap.size/\k≠[])/\sY w' w.heap.size aC nm (fK ro y) v:=by
 have hle:bQ.size<=N:=by rw[jn.1];exact hle
 refine calls_of_wp hf hb ?_;unfold uJ at hy;have hR:R (.of w hQ) N (aa5 vR) { tmps:=bQ++Array.replicate (fn.ntmps-bQ.size) undef,defers:=[] } w:=by
  refine⟨λ_=>none,λ_=>.ax 0 0,.of (Below.refl w.heap.size w) (gZ _),(λb k hk=>by cases hk),(λn y hy=>by cases hy),λj=>?_,by simp[hN];omega,rfl,(λr l h=>by cases h),(λ_ _=>rfl)⟩
  show RA w w.heap.size _ _ (match vR[j]? with|some p=>UD p|none=>.undef) _;cases hp:vR[j]? with
  |none=>trivial
  | some p=>
   obtain⟨u,hu,qc⟩:=jn.2 j p hp;have hj:j<bQ.size:=(gS.1 hu).1;have e:(bQ++Array.replicate (fn.ntmps-bQ.size) undef).getD j undef=u:=by rw[jy,Array.getElem?_append_left hj,hu];rfl
   rw[e];exact qc.ra (akG j p hp)
 refine wp_mono (Fo (w0:=.of w hQ) bS code _ _ hy iV _ w hR) λe a' w' he=>?_
 obtain⟨az,hk,ah,ρ,aO⟩:=he;have fin:Il P az fn.results (pF ro)=some y->a'.defers=[]/\∃ v,(results fn a'.tmps).run P w' = .ok v w'/\∃ Bi aC,Ending.returned v=Ending.returned Bi/\Below w.heap.size w w'/\(∀ b k,aC b=some k->w.heap.size<=b/\b<w'.heap.size/\k≠[])/\sY w' w.heap.size aC nm (fK ro y) Bi:=by
  intro jH;obtain⟨res,iS,bq⟩:=ahZ (w0:=.of w hQ) (N:=N) (fn:=fn) jH;obtain⟨v,aC,h1,h2,h3⟩:=bq ah ρ a' w' aO nm;exact⟨aO.defers,v,h1,v,aC,rfl,⟨aO.below.os,aO.below.tape,aO.below.output,aO.below.size,λk hk=>aO.below.block k hk rfl⟩,λb k hb=>⟨(h2 b k hb).1.resolve_right (λh=>h rfl),(h2 b k hb).2⟩,aa8 cQ iS h3⟩
 split at hk
 next he=>have he:=uI he;subst he;exact fin hk
 next he=>have he:=uI he;subst he;exact fin hk
 ·cases hk
theorem akH{f:Nat}{fn:Func}{code:Code}{ai:af (Bool×TC)}{ro:af (Bool×TC×Nat)}{F:pL ai->aj (mg ro)}(hf:P.funcs[f]?=some fn)(hb:fn.body=some code)(hN:fn.ntmps=N)(kV:(fn.name == "runtime.NumGoroutine")=false)(nR:Nat.ble ai.length N=true)(cQ:q7 ro=true)
  (bS:ig P Φ) (iV:qY P N Λ (occs code)) (hF:∀x,uJ P N Φ Λ code fn.results (jo ai x) (pF ro)=F x):enters P f/\lD P f (aZ ai ro F):=by
 refine⟨⟨fn,hf,kV,by rw[hb];rfl⟩,λX args k r h=>?_⟩
 simp only[aZ]at h;split at h
 ·rename_i x hx;split at h
  ·rename_i y hy
   refine⟨_,h,λX' k'=>by simp only[aZ,hx,hy],λnm w bQ jn hQ=>?_⟩
   obtain⟨k1,k2⟩:=Jo ai args x hx
   refine Jp hf hb hN (by rw[aa9];exact cH nR) cQ bS iV (aba ai x) ((hF x).trans hy) nm w bQ ⟨jn.1.trans k1.symm,λj p hp=>?_⟩ hQ
   obtain⟨q,hq,pX,qM⟩:=k2 j p hp;obtain⟨u,hu,qc⟩:=jn.2 j q hq;refine⟨u,hu,?_⟩;obtain⟨b,ys⟩:=p;obtain⟨b',xs⟩:=q;simp only at pX;subst pX;exact qc.tj qM
  ·cases h
 ·cases h
theorem akI{f:Nat}{fn:Func}{code:Code}{t:TC}{g:Nat}{F:af (T t)->aj (af (T t))}(hf:P.funcs[f]?=some fn)(hb:fn.body=some code)(hN:fn.ntmps=N)(kV:(fn.name == "runtime.NumGoroutine")=false)(nR:Nat.ble 1 N=true)(cQ:q7 [(false,.sl t,g)]=true)
  (bS:ig P Φ) (iV:qY P N Λ (occs code)) (hF:∀x:af (T t),uJ P N Φ Λ code fn.results [(false,[.sl t 0 false x])] (pF [(false,.sl t,g)])=F x)
  (h0:uJ P N Φ Λ code fn.results [(false,[.nil])] (pF [(false,.sl t,g)])=some ([]:af (T t))) (h1:uJ P N Φ Λ code fn.results [(false,[.sl t 0 true []])] (pF [(false,.sl t,g)])=some ([]:af (T t))):
  enters P f/\lD P f (aZ [(false,.sl t)] [(false,.sl t,g)] λx=>bif kT x.1 then some ([]:af (T t))else F x.1):=by
 refine⟨⟨fn,hf,kV,by rw[hb];rfl⟩,λX args k r h=>?_⟩
 simp only[aZ]at h;split at h
 ·rename_i x hx;split at h
  ·rename_i y hy
   refine⟨_,h,λX' k'=>by simp only[aZ,hx,hy],λnm w bQ jn hQ=>?_⟩
   obtain⟨k1,k2⟩:=Jo _ args x hx;obtain⟨l,_⟩:=x;have UF:wS w [(false,[.sl t 0 false l])] bQ:=⟨jn.1.trans k1.symm,λj p hp=>by
    obtain⟨q,hq,pX,qM⟩:=k2 j p hp;obtain⟨u,hu,qc⟩:=jn.2 j q hq;refine⟨u,hu,?_⟩;obtain⟨b,ys⟩:=p;obtain⟨b',xs⟩:=q;simp only at pX;subst pX;exact qc.tj qM⟩
   have hle:1<=N:=cH nR;have NO:∀ (v:V),v.aA=true->∀ (j:Nat) p,([(false,[v])]:af Pt)[j]?=some p->∀ y∈p.2,y.aA=true:=by
    intro v hv j p hp y hy;rcases j with _|j
    ·injection hp with hp;subst hp;rw[List.mem_singleton.1 hy];exact hv
    ·cases hp
   obtain⟨u,hu,hp⟩:=UF.2 0 _ rfl;obtain⟨us,e,_,hv⟩:=hp.pv;have e:us = #[u]:=e;subst e;obtain⟨v,g1,hr⟩:=hv 0 _ rfl;have g1:u=v:=by simpa using g1
   subst g1;have one:∀ v:V,RV w w.heap.size (λ_=>none) [] v u->wS w [(false,[v])] bQ:=λv hr=>⟨UF.1,λj p hp=>by
    rcases j with _|j
    ·injection hp with hp;subst hp;exact⟨u,hu,.v _ _ ⟨#[u],rfl,rfl,λi x hx=>by
      rcases i with _|i
      ·injection hx with hx;subst hx;exact⟨u,rfl,hr⟩
      ·cases hx⟩⟩
    ·cases hp⟩
   cases l with
   |cons a l=>exact Jp (vR:=[(false,[.sl t 0 false (a::l)])]) hf hb hN hle cQ bS iV (NO _ rfl) ((hF _).trans hy) nm w bQ UF hQ
   | nil=>
    have hy:some ([]:af (T t))=some y:=hy;injection hy with hy;subst hy;cases hr with
    |dc=>exact Jp (vR:=[(false,[.nil])]) hf hb hN hle cQ bS iV (NO _ rfl) h0 nm w bQ (one _ (.nil _)) hQ
    |dg _ _ _ A c ho=>exact Jp (vR:=[(false,[.sl t 0 true []])]) hf hb hN hle cQ bS iV (NO _ rfl) h1 nm w bQ (one _ (.dz _ _ _ _ _ ho)) hQ
    |aA _ _ _ qn l b off cap us ho hl rV hB ey hc kY=>exact Jp (vR:=[(false,[.sl t 0 true []])]) hf hb hN hle cQ bS iV (NO _ rfl) h1 nm w bQ (one _ (.dz _ _ _ _ _ ho)) hQ
  ·cases h
 ·cases h
end
end Go.Proofs.YtcioagfjiccleaaGreat
namespace Go.Proofs.YtcioagfjiccleaaGreat
open Go.RowKit
set_option linter.unusedVariables false
def Jq(N:Nat)(σ:S)(t:Nat):S:=match σ.t t with
 | .view [q] s 0 j=>bif Nat.blt t N then (match σ.m q with
  |some (.sl (.sl tc (o+2) qn l))=>bif Nat.beq (full tc) 0 then (((σ.drop q).drop t).root t (.sl (.sl tc 2 false (l.take j)))).set t (.lf (.own [t]))else σ
  |_=>σ)else σ
 |_=>σ
def xm(N:Nat)(σ:S):af ResultVar->S
 |[]=>σ
 |.tmp t::r=>xm N (Jq N σ t) r
 |_::r=>xm N σ r
def Jr{X:Type}(P:Program)(N:Nat)(Φ:eS)(Λ:oD)(code:Code)(rv:Array ResultVar)(ins:af In)(args:af Ar)(k:af In->iF->aj X):aj X:=
 iT P N Φ Λ code (wW ins args) λe σ=>match Bg e with
  |some 0=>Iu P (xm N σ rv.toList) rv ins k
  |some 1=>Iu P (xm N σ rv.toList) rv ins k
  |_=>none
section
variable {P:Program} {w w':World} {w0:Wd} {B N:Nat} {ah aC:bE} {ρ ρ':Nat->Loc} {σ:S} {a:Act} {X:Type} {d:Nat} {r:X} {o:Oper} {Φ:eS} {Λ:oD}
theorem Rl.Jq{t:Nat}(h:Rl w0 N ah ρ σ a w):∃ aC ρ',Rl w0 N aC ρ' (Proofs.YtcioagfjiccleaaGreat.Jq N σ t) a w:=by
 unfold Proofs.YtcioagfjiccleaaGreat.Jq;split
 ·rename_i q s j ht;cases hN:Nat.blt t N with
  |false=>exact⟨ah,ρ,h⟩
  | true=>
   have hN:t<N:=by have:=cH hN;omega
   rw[aq];split
   ·rename_i tc g qn l hm;cases hf:Nat.beq (full tc) 0 with
    |false=>exact⟨ah,ρ,h⟩
    | true=>
     have hf:=cz hf;rw[aq];have hv:=h.tmp t;rw[ht]at hv;obtain⟨A,n,c,fG,_,hj,hu⟩:=hv;have gM:sliced A 0 j c s = .slice A j c:=by cases A<;>simp[sliced,Addr.add]
     rw[gM]at hu;let ic:bE:=λb=>match ah b with
      |some k=>bif bH q k then (bif Nat.beq k.length 1 then some [t]else none)else some k
      |none=>none
     have hrel:Rel q ah ic:=⟨h.yu,λb hb=>by simp[ic,hb],λb k hb hk=>by simp[ic,hb,hk]⟩
     have h1:=h.rel hrel (λb k hk=>by
      simp only[ic]at hk;cases hl:ah b with
      |none=>rw[hl]at hk;cases hk
      | some k'=>
       rw[hl]at hk;simp only at hk;refine⟨⟨_,rfl⟩,?_⟩;cases hq:bH q k' with
       | true=>
        rw[hq,aq]at hk;cases hlen:Nat.beq k'.length 1 with
        |true=>rw[hlen,aq]at hk;injection hk with hk;rw[<-hk];simp
        |false=>rw[hlen,au]at hk;cases hk
       | false=>
        rw[hq,au]at hk;injection hk with hk;subst hk;exact(h.dn b k' hl).2.2)
     have cQ:=h.root q _ hm;generalize he:aW.sl (.sl tc (g+2) qn l)=z at cQ;cases cQ with
     |ax=>cases he
     |mp=>cases he
     |gh=>cases he
     | sl v y aM hr=>
      injection he with he;subst he;simp only[cE,aM]at fG;injection fG with fG;subst fG;have hn:n=l.length:=by cases hr<;>rfl
      have akJ:RV w w0.heap.size ic [t] (.sl tc 2 false (l.take j)) (.slice A j c):=by
       cases hr with
       | dc=>
        have:j=0:=by simpa using hj
        subst this;exact .dc _ _ _
       |dg _ _ _ _ _ ho=>omega
       |dz _ _ _ _ _ ho=>omega
       |aA _ _ _ _ _ _ _ _ _ ho=>omega
       | own _ _ _ _ _ b cap cs us dB hh hs n8 uj hc hr=>
        have hl:(l.take j).length=j:=by rw[lM];omega
        have hle:∀i (hi:i<(l.take j).length),∃vF:i<l.length,(l.take j)[i]=l[i]:=λi hi=>⟨by omega,List.getElem_take⟩
        have:=RV.own (w:=w) (B:=w0.heap.size) (ah:=ic) [t] tc 0 false (l.take j) b c cs us (by simp[ic,dB,bH]) hh hs (by omega) ⟨uj.1,λh=>by cases h⟩ (λi hi k x hx=>by
         obtain⟨vF,e⟩:=hle i hi;rw[e,ES tc hf 0 g]at hx;exact hc i vF k x hx) (λi hi k x hx=>by
         obtain⟨vF,e⟩:=hle i hi;rw[e,ES tc hf 0 g]at hx;exact(hr i vF k x hx).vj (Aw tc g _ hf x (iy hx)))
        rw[hl]at this;exact this
      have hrm:wK w w ic ic t:=⟨gZ _,λ_ _ _=>rfl,λ_ _=>rfl,h1.yu⟩
      have h2:=h1.AA (d:=t) (ρ':=bP ρ t (.dP (.slice A j c))) (x:=.sl (.sl tc 2 false (l.take j))) (h.dQ t (.inl hN)) ⟨rfl,rfl,rfl,gZ _,λ_ _ _=>rfl⟩ hrm (λb k hb hk=>by
       have:=(h1.dn b k hk).2.1;omega) (λr hr=>cL _ _ _ hr) (.sl _ _ (bY _ _ _) akJ)
      refine⟨_,_,h2.below,h2.dn,h2.root,λk=>?_,h2.size,h2.defers,h2.fix,h2.dQ⟩
      show RA w w0.heap.size ic _ (bP _ t _ k) _;by_cases hk:k=t
      ·subst hk;rw[bY,hu];exact⟨rfl,by simp only[cE,bY]⟩
      ·rw[cL _ _ _ hk];exact h2.tmp k
   ·exact⟨ah,ρ,h⟩
 ·exact⟨ah,ρ,h⟩
theorem Rl.xm:∀ (l:af ResultVar) (σ:S) (ah:bE) (ρ:Nat->Loc),Rl w0 N ah ρ σ a w->∃ aC ρ',Rl w0 N aC ρ' (Proofs.YtcioagfjiccleaaGreat.xm N σ l) a w
 |[],_,ah,ρ,h=>⟨ah,ρ,h⟩
 | .tmp t :: r,_,_,_,h=>by
  obtain⟨ic,r6,h1⟩:=h.Jq (t:=t);exact Rl.xm r _ ic r6 h1
 |.cell _ _::r,_,ah,ρ,h=>Rl.xm r _ ah ρ h
theorem fnM_core{f:Nat}{fn:Func}{code:Code}{ins:af In}{args:af Ar}{k:af In->iF->aj X}(hf:P.funcs[f]?=some fn)(hb:fn.body=some code)(hN:fn.ntmps=N)(uK:N<=20000)(hlen:args.length<=N)
  (bS:ig P Φ) (iV:qY P N Λ (occs code)) (h:Jr P N Φ Λ code fn.results ins args k=some r) (nm:Nat->Nat) (w:World) (ah:bE) (ρ:Nat->Loc) (bQ:Array Value)
  (hE:qQ w w.heap.size ah ρ 0 ins) (lE:∀b k,ah b=some k->b<w.heap.size/\k≠[]) (dx:bQ.size=args.length) (hv:∀i,RA w w.heap.size ah ρ ((wW ins args).t i) (bQ.getD i undef)) (hQ:Hd w ah):
  Calls P f bQ w λe w'=>∃v aC outs res,k outs res=some r/\e = .returned v/\kQ ⟨w,ah,λ_=>none,hQ,λ_ _=>rfl⟩ w w'/\(∀b k,aC b=some k->(w.heap.size<=b\/ah b≠none)/\b<w'.heap.size/\k≠[])/\sY w' w.heap.size aC nm res v/\td w w' aC ρ nm 0 res.len ins outs:=by
 let W:Wd:=⟨w,ah,λr=>if 20000<=r/\r<60000 then some (ρ r)else none,hQ,λr hr=>bJ (by omega)⟩
 refine calls_of_wp hf hb ?_;unfold Jr at h;have hR:R W N (wW ins args) { tmps:=bQ++Array.replicate (fn.ntmps-bQ.size) undef,defers:=[] } w:=by
  refine⟨ah,ρ,.of (Below.refl w.heap.size w) (gZ _),λb k hb=>⟨.inr (by rw[show W.L b=ah b from rfl,hb];simp),lE b k hb⟩,qQ.roots ins 0 _ hE (λr x hx=>by cases hx),λj=>?_,by simp[hN];omega,rfl,λr l hr=>?_,λr hr=>?_⟩
  ·by_cases hj:j<bQ.size
   ·have e:(bQ++Array.replicate (fn.ntmps-bQ.size) undef).getD j undef=bQ.getD j undef:=by
     rw[jy,Array.getElem?_append_left hj,jy]
    show RA w w.heap.size ah ρ _ ((bQ++Array.replicate (fn.ntmps-bQ.size) undef).getD j undef);rw[e];exact hv j
   ·have e:(wW ins args).t j = .undef:=by
     simp only[wW,List.getElem?_eq_none (by omega:args.length<=j)]
    rw[e];trivial
  ·have hr:(if 20000<=r/\r<60000 then some (ρ r)else none)=some l:=hr;split at hr
   ·injection hr
   ·cases hr
  ·show (if 20000<=r/\r<60000 then some (ρ r)else none)=none;rw[bJ (by omega)]
 refine wp_mono (Fo (w0:=W) bS code _ _ h iV _ w hR) λe a' w' he=>?_
 obtain⟨az,hk,ic,r6,aO⟩:=he;have fin:Iu P (Proofs.YtcioagfjiccleaaGreat.xm N az fn.results.toList) fn.results ins k=some r->a'.defers=[]/\∃ v,(results fn a'.tmps).run P w' = .ok v w'/\∃ Bi aC outs res,k outs res=some r/\Ending.returned v=Ending.returned Bi/\kQ ⟨w,ah,λ_=>none,hQ,λ_ _=>rfl⟩ w w'/\(∀ b k,aC b=some k->(w.heap.size<=b\/ah b≠none)/\b<w'.heap.size/\k≠[])/\sY w' w.heap.size aC nm res Bi/\td w w' aC ρ nm 0 res.len ins outs:=by
  intro jH;obtain⟨outs,res,hko,bq⟩:=ah1 (w0:=W) (N:=N) (fn:=fn) (w1:=w) (wY:=ρ) rfl (λr h1 h2=>bu ⟨h1,h2⟩) (qQ.S3 ins 0 hE) jH;obtain⟨dD,eX,ki⟩:=Rl.xm fn.results.toList az ic r6 aO;obtain⟨v,aC,h1,h2,h3,h4⟩:=bq dD eX a' w' ki nm;exact⟨aO.defers,v,h1,v,aC,outs,res,hko,rfl,⟨aO.below.os,aO.below.tape,aO.below.output,aO.below.size,λk hk=>aO.below.block k hk⟩,h2,h3,h4⟩
 split at hk
 next he=>have he:=uI he;subst he;exact fin hk
 next he=>have he:=uI he;subst he;exact fin hk
 ·cases hk
end
end Go.Proofs.YtcioagfjiccleaaGreat
namespace Go.Proofs.YtcioagfjiccleaaGreat
open Go.RowKit
set_option linter.unusedVariables false
def tK:(l:af (Bool×TC×Nat))->af In->aj (vB l)
 |[],[]=>some ()
 | (true,t,g) :: r,.ax cs :: is=>match dec t g cs,tK r is with
  |some x,some xs=>some (x,xs)
  |_,_=>none
 | (false,t,g) :: r,.sl y :: is=>match (bif Nat.ble 1000000 g then (bif y.l5 then none else y.dX t (g+2))else bif y.l5 then y.dX t (g+2)else none),tK r is with
  |some x,some xs=>some (x,xs)
  |_,_=>none
 |_,_=>none
def NP:af In->af In->af In->Prop
 |[],[],[]=>True
 |.ax NQ::r0,.ax cs::r,.ax fO::r'=>(bW cs fO/\NQ.map (λv=>(v.plain,v.aA))=fO.map (λv=>(v.plain,v.aA))/\∀x∈fO,x.l5=true)/\NP r0 r r'
 |.sl _::r0,.sl y::r,.sl y'::r'=>(Wk y y'/\(y = .nil->y' = .nil))/\NP r0 r r'
 |_,_,_=>False
theorem NR:∀ (ps:af PK) (x0:nL ps) (is:af In) (x:vB (fC ps)),tK (fC ps) is=some x->NP (qR ps x0) is (jQ (fC ps) x)
 |[],_,[],x,_=>trivial
 |[],_,_::_,x,h=>by simp[tK,fC]at h
 |.v b t::ps,x0,is,x,h=>NR ps x0.2 is x h
 |.p t g off::ps,x0,[],x,h=>by simp[tK,fC]at h
 |.s t g::ps,x0,[],x,h=>by simp[tK,fC]at h
 |.p t g off::ps,x0,.sl _::_,x,h=>by simp[tK,fC]at h
 |.s t g::ps,x0,.ax _::_,x,h=>by simp[tK,fC]at h
 | .p t g off :: ps,x0,.ax cs :: is,x,h=>by
  have h:tK ((true,t,g)::fC ps) (.ax cs::is)=some x:=h;unfold tK at h;split at h
  next y ys h1 h2=>injection h with h;subst h;exact⟨⟨nB t g cs y h1,ag8 t g x0.1 y,λz hz=>R4 t g y z hz⟩,NR ps x0.2 is ys h2⟩
  ·cases h
 | .s t g :: ps,x0,.sl y :: is,x,h=>by
  have h:tK ((false,t,g)::fC ps) (.sl y::is)=some x:=h;unfold tK at h;split at h
  ·rename_i z zs h1 h2;injection h with h;subst h;refine⟨?_,NR ps x0.2 is zs h2⟩;cases hb:Nat.ble 1000000 g with
   | true=>
    cases hy:y.l5 with
    |true=>rw[hb,hy]at h1;cases h1
    | false=>
     have:y = .nil:=by cases y<;>first|rfl|cases hy
     subst this;exact⟨.same _,λ_=>rfl⟩
   | false=>
    cases hy:y.l5 with
    |false=>rw[hb,hy]at h1;cases h1
    | true=>
     rw[hb,hy]at h1;exact⟨V.eJ h1,λe=>by subst e;cases hy⟩
  ·cases h
theorem td.typed{w w':World}{aC:bE}{ρ:Nat->Loc}{nm:Nat->Nat}:∀ (ins:af In) (i pos:Nat) (outs Fv:af In),td w w' aC ρ nm i pos ins outs->NP ins outs Fv->It w w' aC ρ nm i pos ins Fv
 |[],i,pos,[],[],h,hk=>trivial
 | .ax NQ :: ins,i,pos,.ax cs1 :: outs,.ax Fi :: Fv,h,hk=>by
  obtain⟨⟨b,off,cells,pE,e,e',h1,h2,h3,h4,h5,h6,h7⟩,hr⟩:=h;obtain⟨⟨hw,Fw,hnn⟩,dU⟩:=hk
  refine⟨⟨b,off,cells,pE,e,e',h1,h2,h3,h4,by rw[<-hw.1];exact h5,by rw[<-hw.1];exact h6,λj x hx=>?_⟩,td.typed ins _ _ outs Fv hr dU⟩
  have hj:j<cs1.length:=by rw[hw.1];exact(dJ.1 hx).1
  obtain⟨u,hu,hc⟩:=h7 j _ (bT hj);have hk:=hw.2 j _ x (bT hj) hx;have Js:∀ x0,NQ[j]?=some x0->x0.plain=x.plain/\x0.aA=x.aA:=by
   intro x0 h0;have e1:(NQ.map (λv=>(v.plain,v.aA)))[j]?=(Fi.map (λv=>(v.plain,v.aA)))[j]?:=by rw[Fw]
   rw[dH,dH,h0,hx]at e1
   simpa using e1
  have hxn:=hnn x (iy hx);generalize cs1[j]=y at hc hk;refine⟨u,hu,?_⟩;rcases hc with ⟨c1,c2⟩|⟨c1,c2,x0,c3,c4⟩|⟨c1,c2,c6,⟨x0,c3,c4⟩,c5⟩|⟨c1,c2⟩
  ·cases hk with
   |same=>exact .inl ⟨c1,c2⟩
   |nil t o=>cases c1
   |q t o l=>cases c1
   |gr=>cases c1
  ·subst c1 c2;have hf:x.aA=false:=by rw[<-(Js x0 c3).2];exact c4
   cases hk with
   |same=>cases hxn
   |nil t o=>exact .inr (.inr ⟨hf,.dc _ _ _⟩)
  ·cases hk with
   |same=>exact .inr (.inl ⟨c1,c2,c5⟩)
   |nil t o=>cases c6
   |q t o l=>exact .inr (.inl ⟨rfl,c2,c5⟩)
   |gr t o o' qn l h1 h2=>simp[V.aA]at c2;omega
  ·have hf:=hk.S8 c1;exact .inr (.inr ⟨hf,c2.wk hk⟩)
 | .sl y0 :: ins,i,pos,.sl y1 :: outs,.sl y2 :: Fv,h,hk=>by
  obtain⟨h,hr⟩:=h;obtain⟨⟨hw,hn⟩,dU⟩:=hk;exact⟨h.imp hn (λ⟨v,h1,h2⟩=>⟨v,h1,h2.wk hw⟩),td.typed ins _ _ outs Fv hr dU⟩
 |[],_,_,_::_,_,h,_=>h.elim
 |[],_,_,[],_::_,_,h=>h.elim
 |.ax _::_,_,_,[],_,h,_=>h.elim
 |.sl _::_,_,_,[],_,h,_=>h.elim
 |.ax _::_,_,_,.sl _::_,_,h,_=>h.elim
 |.sl _::_,_,_,.ax _::_,_,h,_=>h.elim
 |.ax _::_,_,_,.ax _::_,[],_,h=>h.elim
 |.ax _::_,_,_,.ax _::_,.sl _::_,_,h=>h.elim
 |.sl _::_,_,_,.sl _::_,[],_,h=>h.elim
 |.sl _::_,_,_,.sl _::_,.ax _::_,_,h=>h.elim
theorem abb:∀ (l:af (Bool×TC×Nat)) (ps:af Pt) (x:mg l),ou l ps=some x->(ps.map λp=>p.2.length)=((vA l x).map λp=>p.2.length)
 |[],[],x,h=>rfl
 | [(b,t,g)],[(b',vs)],x,h=>by
  unfold ou at h;cases hb:b==b' with
  |false=>rw[hb]at h;cases h
  | true=>
   rw[hb]at h;have h:dec t g vs=some x:=h;simp[vA,(nB t g vs x h).1]
 | (b,t,g) :: q :: r,(b',vs) :: ps,x,h=>by
  unfold ou at h;cases hb:b==b' with
  |false=>rw[hb]at h;cases h
  | true=>
   rw[hb,aq]at h;split at h
   next y ys h1 h2=>injection h with h;subst h;simp only[vA,kN];rw[abb (q::r) ps ys h2,(nB t g vs y h1).1]
   ·cases h
 |[],_::_,x,h=>by simp[ou]at h
 |[_],[],x,h=>by simp[ou]at h
 |[_],_::_::_,x,h=>by simp[ou]at h
 |_::_::_,[],x,h=>by simp[ou]at h
theorem akK{l:af (Bool×TC×Nat)}{res:iF}{x:mg l}(h:pF l res=some x):res.len=(fK l x).len:=by
 have key:∀ ps,ou l ps=some x->(ps.map λp=>p.2.length).sum=(fK l x).len:=by
  intro ps h;rw[abb l ps x h];unfold fK
  match hm:vA l x with
  |[q]=>simp[iF.len]
  |[]=>rfl
  |_::_::_=>rfl
 cases res with
 |one p=>have:=key [p] h;simpa [iF.len]using this
 | cP ps=>
  simp only[pF]at h;cases hb:Nat.beq ps.length 1 with
  |true=>rw[hb]at h;cases h
  |false=>rw[hb,au]at h;exact key ps h
section
variable {P:Program} {w w':World} {w0:Wd} {B N:Nat} {ah aC:bE} {ρ ρ':Nat->Loc} {σ:S} {a:Act} {X:Type} {d:Nat} {r:X} {o:Oper} {Φ:eS} {Λ:oD}
def NS(l ro:af (Bool×TC×Nat))(outs:af In)(res:iF):aj (mg ro×vB l):=
 match pF ro res,tK l outs with
 |some x,some y=>some (x,y)
 |_,_=>none
theorem abc{f:Nat}{fn:Func}{code:Code}{ps:af PK}{ro:af (Bool×TC×Nat)}{F:nL ps->aj (mg ro×vB (fC ps))}(hf:P.funcs[f]?=some fn)(hb:fn.body=some code)(hN:fn.ntmps=N)(kV:(fn.name == "runtime.NumGoroutine")=false)(nR:Nat.ble ps.length N=true)(uK:Nat.ble N 20000=true)(cQ:q7 ro=true)
  (bS:ig P Φ) (iV:qY P N Λ (occs code)) (hF:∀x,Jr P N Φ Λ code fn.results (qR ps x) (m8 ps 0 x) (NS (fC ps) ro)=F x):enters P f/\wX P f ⟨ps,ro,F⟩:=by
 refine⟨⟨fn,hf,kV,by rw[hb];rfl⟩,λx y h nm w ah ρ bQ hE lE dx hv hQ=>?_⟩
 have h:F x=some y:=h;rw[<-hF x]at h;have hlen:∀ (ps:af PK) (i:Nat) (x:nL ps),(m8 ps i x).length=ps.length:=by
  intro ps
  induction ps with
  |nil=>intro i x;rfl
  | cons p ps ih=>
   intro i x;cases p with
   |v=>exact cA (· + 1) (ih _ _)
   |p=>exact cA (· + 1) (ih _ _)
   |s=>exact cA (· + 1) (ih _ _)
 have dx:bQ.size=(m8 ps 0 x).length:=by rw[hlen];exact dx
 refine(fnM_core hf hb hN (cH uK) (by rw[hlen];exact cH nR) bS iV h nm w ah ρ bQ hE lE dx hv hQ).mono λe w' s8=>?_
 obtain⟨v,aC,outs,res,hk,he,iE,hl,iS,Ti⟩:=s8;unfold NS at hk;split at hk
 next y1 y2 h1 h2=>injection hk with hk;subst hk;refine⟨v,aC,he,iE,hl,aa8 cQ h1 iS,?_⟩;rw[<-akK h1];exact td.typed _ _ _ _ _ Ti (NR ps x outs y2 h2)
 ·cases hk
end
end Go.Proofs.YtcioagfjiccleaaGreat
namespace Go.Proofs.YtcioagfjiccleaaGreat
open Go.RowKit
set_option linter.unusedVariables false
set_option maxRecDepth 100000
def NT(σ:S)(rv:Array ResultVar):aj Int:=
 match rv.toList with
 | [.tmp t]=>(match σ.t t with
  | .aG r 0=>(match σ.m r with
   |some (.ax [.own [n],.v (.int .i64 z),.v (.int .i64 h)])=>bif Nat.beq n 20000&&z==0 then some h else none
   |_=>none)
  |_=>none)
 |_=>none
def abd(P:Program)(N:Nat)(Φ:eS)(Λ:oD)(code:Code)(rv:Array ResultVar)(l:af (T .u8)):aj Int:=
 iT P N Φ Λ code (wW [.sl (.sl .u8 0 false l)] [.mut 0 0]) λe σ=>match Bg e with
  |some 0=>NT σ rv
  |some 1=>NT σ rv
  |_=>none
section
variable {P:Program} {w w':World} {w0:Wd} {B N:Nat} {ah aC:bE} {ρ ρ':Nat->Loc} {σ:S} {a:Act} {X:Type} {d:Nat} {r:X} {o:Oper} {Φ:eS} {Λ:oD}
theorem akL{f:Nat}{fn:Func}{code:Code}{F:af Int->aj Int}(hf:P.funcs[f]?=some fn)(hb:fn.body=some code)(hN:fn.ntmps=N)(kV:(fn.name == "runtime.NumGoroutine")=false)(hN1:Nat.ble 1 N=true)(uK:Nat.ble N 20000=true)
  (bS:ig P Φ) (iV:qY P N Λ (occs code)) (hF:∀l,abd P N Φ Λ code fn.results l=F l):enters P f/\MY P f F:=by
 refine⟨⟨fn,hf,kV,by rw[hb];rfl⟩,λw l h v hh hv hQ=>?_⟩
 rw[<-hF l]at hh;unfold abd at hh;have hN1:=cH hN1;have uK:=cH uK;let W:Wd:=⟨w,λ_=>none,λr=>if 20000<=r/\r<60000 then some (.dP v)else none,hQ,λr hr=>bJ (by omega)⟩
 refine calls_of_wp hf hb ?_;have hR:R W N (wW [.sl (.sl .u8 0 false l)] [.mut 0 0]) { tmps:=#[v]++Array.replicate (fn.ntmps-(#[v]:Array Value).size) undef,defers:=[] } w:=by
  refine⟨λ_=>none,λ_=>.dP v,.of (Below.refl w.heap.size w) (gZ _),(λb k hb=>by cases hb),λn y hy=>?_,λj=>?_,by simp[hN];omega,rfl,λr l hr=>?_,λr hr=>?_⟩
  ·have hy:bP (λ_=>none) (nF 0) (some (.sl (.sl .u8 0 false l))) n=some y:=hy;by_cases hn:n=nF 0
   ·subst hn;rw[bY]at hy;injection hy with hy;subst hy;exact .sl v _ rfl (hv.key rfl)
   ·rw[cL _ _ _ hn]at hy;cases hy
  ·cases j with
   | zero=>
    have e:(#[v]++Array.replicate (fn.ntmps-(#[v]:Array Value).size) undef).getD 0 undef=v:=by
     rw[jy,Array.getElem?_append_left (by simp)];rfl
    show RA w w.heap.size _ _ (.lf (.own [nF 0])) ((#[v]++Array.replicate (fn.ntmps-(#[v]:Array Value).size) undef).getD 0 undef);rw[e];exact⟨hv.oe rfl rfl,rfl⟩
   |succ j=>exact trivial
  ·have hr:(if 20000<=r/\r<60000 then some (Loc.dP v)else none)=some l:=hr;split at hr
   ·injection hr
   ·cases hr
  ·show (if 20000<=r/\r<60000 then some (Loc.dP v)else none)=none;rw[bJ (by omega)]
 refine wp_mono (Fo (w0:=W) bS code _ _ hh iV _ w hR) λe a' w' he=>?_
 obtain⟨az,hk,ic,r6,aO⟩:=he;have fin:NT az fn.results=some h->a'.defers=[]/\∃ u,(results fn a'.tmps).run P w' = .ok u w'/\∃ b off cells t,Ending.returned u = .returned (.pointer (some ⟨b,off,none⟩))/\Below w.heap.size w w'/\w.heap.size<=b/\w'.heap[b]?=some (.cells cells t (0,0))/\cells[off]?=some v/\cells[off+1]?=some (.int .i64 0)/\cells[off+2]?=some (.int .i64 h):=by
  intro jH;unfold NT at jH;split at jH
  ·rename_i t ht;split at jH
   ·rename_i r hr;split at jH
    ·rename_i n z h' hm;cases hb:(Nat.beq n 20000&&z==0)with
     |false=>rw[hb]at jH;cases jH
     | true=>
      rw[hb,aq]at jH;injection jH with jH;subst jH;rw[aJ]at hb;have hn:=cz hb.1;have hz:z=0:=by simpa using hb.2
      subst hn hz;have h1:=aO.tmp t;rw[hr]at h1;obtain⟨b,off,e1,e2⟩:=h1;have h2:=aO.root r _ hm;generalize hx:aW.ax _=x at h2;cases h2 with
      |sl=>cases hx
      |mp=>cases hx
      |gh=>cases hx
      | ax b' pQ cells e cs us aM hl wR hs hc=>
       injection hx with hx;subst hx;rw[aM]at e1;injection e1 with e3 e4;subst e3 e4;obtain⟨c0,d0⟩:=hc 0 _ rfl;obtain⟨c1,d1⟩:=hc 1 _ rfl;obtain⟨c2,d2⟩:=hc 2 _ rfl;have d0:=d0.2;have wZ:=aO.fix 20000 (.dP v) rfl;simp only[cE,wZ]at d0;injection d0 with d0;rw[<-d0]at c0;rw[d1.2.jk]at c1;rw[d2.2.jk]at c2
       refine⟨aO.defers,_,?_,b',pQ,cells,e,rfl,⟨aO.below.os,aO.below.tape,aO.below.output,aO.below.size,λk hk=>aO.below.block k hk rfl⟩,?_,wR,c0,c1,c2⟩
       ·have iS:results fn a'.tmps=(do let vs <-fn.results.mapM (s9 a'.tmps);pure (if h:vs.size=1 then vs[0]else .tuple vs)):=by
         unfold results;congr 1
        have sj:fn.results = #[.tmp t]:=by apply Array.ext';exact ht
        rw[iS,sj,Array.mapM_eq_mapM_toList];simp[s9,e2]
       ·have:=(aO.dn b' _ hl).1;exact this.resolve_right (λh=>h rfl)
    ·cases jH
   ·cases jH
  ·cases jH
 split at hk
 next he=>have he:=uI he;subst he;exact fin hk
 next he=>have he:=uI he;subst he;exact fin hk
 ·cases hk
end
end Go.Proofs.YtcioagfjiccleaaGreat
namespace Go.Proofs.YtcioagfjiccleaaGreat
open Go.RowKit
set_option linter.unusedVariables false
set_option maxRecDepth 100000
def nV(i j:Nat):Nat:=20001+1000*i+j
def Fx(i j:Nat)(x:V):Lf:=match x with
 |.sl ..=>.own [nV i j]
 |x=>.v x
def zc(i:Nat):Nat->af V->af Lf
 |_,[]=>[]
 |j,x::xs=>Fx i j x::zc i (j+1) xs
def UG(args:af Pt)(n:Nat):aj aW:=bif Nat.ble 20001 n&&Nat.blt n 60000 then (match args[(n-20001) / 1000]? with
 | some (_,xs)=>(match xs[(n-20001) % 1000]? with
  |some (.sl t g q l)=>some (.sl (.sl t g q l))
  |_=>none)
 |none=>none)else none
def abe(args:af Pt):S:=⟨λi=>match args[i]? with
 |some (false,[x])=>.lf (Fx i 0 x)
 |some (true,xs)=>.agg (zc i 0 xs)
 |_=>.undef,UG args⟩
def NU(σ:S)(rv:Array ResultVar)(a j:Nat)(t:TC):aj (Nat×Nat):=match rv.toList with
 | [.tmp s]=>(match σ.t s with
  |.view [n] sz i k=>bif Nat.beq n (nV a j)&&Nat.beq sz (aB t)then some (i,k)else none
  |_=>none)
 |_=>none
def abf(P:Program)(N:Nat)(Φ:eS)(Λ:oD)(code:Code)(rv:Array ResultVar)(a j:Nat)(t:TC)(args:af Pt):aj (Nat×Nat):=
 iT P N Φ Λ code (abe args) λe σ=>match Bg e with
  |some 0=>NU σ rv a j t
  |some 1=>NU σ rv a j t
  |_=>none
def UH(ai:af (Bool×TC))(a j:Nat)(t:TC)(F:pL ai->aj (Nat×Nat)):CU:=⟨a,j,t,λargs=>match Bh ai args with
 |some x=>F x
 |none=>none⟩
section
variable {P:Program} {w w':World} {w0:Wd} {B N:Nat} {ah aC:bE} {ρ ρ':Nat->Loc} {σ:S} {a:Act} {X:Type} {d:Nat} {r:X} {o:Oper} {Φ:eS} {Λ:oD}
theorem abg(i:Nat):∀ (xs:af V) (j0 j:Nat),(zc i j0 xs)[j]?=(xs[j]?).map λx=>Fx i (j0+j) x
 |[],j0,j=>by simp[zc]
 |x::xs,j0,0=>by simp[zc]
 | x :: xs,j0,j+1=>by
  simp only[zc,List.getElem?_cons_succ,abg i xs (j0+1) j];rw[show j0+1+j=j0+(j+1) by omega]
theorem abh(i:Nat):∀ (xs:af V) (j0:Nat),(zc i j0 xs).length=xs.length
 |[],_=>rfl
 |x::xs,j0=>by simp[zc,abh i xs (j0+1)]
theorem abi{i j:Nat}(h:j<1000):(nV i j-20001) / 1000=i/\(nV i j-20001) % 1000=j:=by
 unfold nV;omega
def Bj(bQ:Array Value)(n:Nat):Loc:=.dP ((vG bQ ((n-20001) / 1000) ((n-20001) % 1000)).getD undef)
theorem abj{bQ:Array Value}{i j:Nat}{x:V}{u:Value}(hj:j<1000)(hu:vG bQ i j=some u)(hf:x.aA=true)(hr:RV w B (λ_=>none) [] x u):dN w B (λ_=>none) (Bj bQ) (Fx i j x) u:=by
 unfold Fx;split
 ·refine⟨hr.oe rfl rfl,?_⟩;obtain⟨e1,e2⟩:=abi (i:=i) hj;simp only[cE,Bj,e1,e2,hu];rfl
 ·exact⟨hf,hr⟩
theorem akM{f:Nat}{fn:Func}{code:Code}{ai:af (Bool×TC)}{aa jj:Nat}{t:TC}{F:pL ai->aj (Nat×Nat)}(hf:P.funcs[f]?=some fn)(hb:fn.body=some code)(hN:fn.ntmps=N)(kV:(fn.name == "runtime.NumGoroutine")=false)(nR:Nat.ble ai.length N=true)(uK:Nat.ble N 20000=true)(dx:(ai.all λp=>Nat.blt (aB p.2) 1000&&(p.1 || Nat.beq (aB p.2) 1))=true)(hjj:Nat.blt jj 1000=true)(vS:Nat.blt aa 30=true)
  (bS:ig P Φ) (iV:qY P N Λ (occs code)) (hF:∀x,abf P N Φ Λ code fn.results aa jj t (jo ai x)=F x):enters P f/\MZ P f (UH ai aa jj t F):=by
 refine⟨⟨fn,hf,kV,by rw[hb];rfl⟩,λargs p h w bQ jn hQ=>?_⟩
 simp only[UH]at h;split at h
 ·rename_i x hx;obtain⟨k1,k2⟩:=Jo ai args x hx;have hlen:∀ (l:af (Bool×TC)) (x:pL l),(jo l x).length=l.length:=by
   intro l
   induction l with
   |nil=>intro x;rfl
   |cons p l ih=>obtain⟨b,t⟩:=p;intro x;simp[jo,ih]
  have fG:bQ.size=ai.length:=by rw[jn.1,<-k1,hlen]
  have hle:bQ.size<=N:=by rw[fG];exact cH nR
  have uK:=cH uK;have sj:∀ (l:af (Bool×TC)) (x:pL l),(l.all λp=>Nat.blt (aB p.2) 1000&&(p.1 || Nat.beq (aB p.2) 1))=true->∀ (j:Nat) p,(jo l x)[j]?=some p->(∀ y∈p.2,y.aA=true)/\p.2.length<1000/\(p.1=true\/p.2.length=1):=by
   intro l
   induction l with
   |nil=>intro x _ j p hp;simp[jo]at hp
   | cons c l ih=>
    obtain⟨b,t⟩:=c;intro x hs j p hp;rw[List.all_cons,aJ]at hs;cases j with
    | zero=>
     simp[jo]at hp;subst hp
     refine⟨λy hy=>?_,?_⟩
     ·obtain⟨i,hi⟩:=List.mem_iff_getElem?.1 hy;exact lQ t 0 x.1 (by omega) i y hi
     ·show (enc t 0 x.1).length<1000/\(b=true\/(enc t 0 x.1).length=1);rw[lO];have h8:=hs.1;rw[aJ,eH]at h8;have h9:aB t<1000:=cH h8.1;exact⟨h9,h8.2.imp id cz⟩
    |succ j=>exact ih x.2 hs.2 j p (by simpa [jo]using hp)
  have kZ:∀ (i:Nat) (p:Pt),(jo ai x)[i]?=some p->∃ u:Value,bQ[i]?=some u/\PV w w.heap.size (λ_=>none) (λ_=>[]) p u/\(∀ y∈p.2,y.aA=true)/\p.2.length<1000:=by
   intro i p hp;obtain⟨q,hq,pX,qM⟩:=k2 i p hp;obtain⟨u,hu,qc⟩:=jn.2 i q hq;obtain⟨g1,g2,g3⟩:=sj ai x dx i p hp;refine⟨u,hu,?_,g1,g2⟩;obtain⟨b,ys⟩:=p;obtain⟨b',xs⟩:=q;simp only at pX;subst pX;have hw:=qc.tj qM;rcases g3 with g3|g3
   ·simp only at g3;subst g3;exact hw.Zi
   ·obtain⟨y,rfl⟩:=List.length_eq_one_iff.1 g3;cases b' with
    |true=>exact hw.Zi
    |false=>exact hw.pv
  have UI:∀ (i:Nat) (p:Pt),(jo ai x)[i]?=some p->∀ (j:Nat) y,p.2[j]?=some y->∃ u,vG bQ i j=some u/\RV w w.heap.size (λ_=>none) [] y u/\y.aA=true/\j<1000:=by
   intro i p hp j y hy;obtain⟨u,hu,⟨us,h1,h2,h3⟩,h4,h5⟩:=kZ i p hp;obtain⟨v,hv,hr⟩:=h3 j y hy;refine⟨v,?_,hr,h4 y (iy hy),by have:=(dJ.1 hy).1;omega⟩;unfold vG;rw[hu];obtain⟨b,ys⟩:=p;cases b with
   | true=>
    have h1:u = .agg us:=h1;subst h1;exact hv
   | false=>
    have h1:us = #[u]:=h1;subst h1;have hj:j=0:=by
     have:=(gS.1 hv).1
     simpa using this
    subst hj;have:u=v:=by simpa using hv
    subst this;have xh:∀ us,u ≠ .agg us:=by
     rintro us rfl;cases hr
    cases u<;>first|exact absurd rfl (xh _)|rfl
  let W:Wd:=⟨w,λ_=>none,λr=>if 20000<=r/\r<60000 then some (Bj bQ r)else none,hQ,λr hr=>bJ (by omega)⟩
  refine calls_of_wp hf hb ?_;rw[<-hF x]at h;unfold abf at h;have hR:R W N (abe (jo ai x)) { tmps:=bQ++Array.replicate (fn.ntmps-bQ.size) undef,defers:=[] } w:=by
   refine⟨λ_=>none,Bj bQ,.of (Below.refl w.heap.size w) (gZ _),(λb k hk=>by cases hk),(λn y hy=>?_),λi=>?_,by simp[hN];omega,rfl,λr l hr=>?_,λr hr=>?_⟩
   ·have hy:UG (jo ai x) n=some y:=hy;unfold UG at hy;cases hb:(Nat.ble 20001 n&&Nat.blt n 60000)with
    |false=>rw[hb]at hy;cases hy
    | true=>
     rw[hb,aq]at hy;split at hy
     ·rename_i b xs hp;split at hy
      next t' g q l hl=>injection hy with hy;subst hy;obtain⟨u,hu,hr,rU,_⟩:=UI _ _ hp _ _ hl;refine .sl u _ ?_ (hr.key rU);unfold Bj;rw[hu];rfl
      ·cases hy
     ·cases hy
   ·show RA w w.heap.size _ _ (match (jo ai x)[i]? with | some (false,[x])=>A.lf (Fx i 0 x) | some (true,xs)=>.agg (zc i 0 xs) | _=>.undef) _;have EL:∀ p:Pt,(jo ai x)[i]?=some p->∃ u:Value,bQ[i]?=some u/\(bQ++Array.replicate (fn.ntmps-bQ.size) undef).getD i undef=u:=by
     intro p hp;obtain⟨u,hu,_⟩:=kZ i p hp;have hi:i<bQ.size:=(gS.1 hu).1;exact⟨u,hu,by rw[jy,Array.getElem?_append_left hi,hu];rfl⟩
    split
    ·rename_i x' cV;obtain⟨u,hu,e⟩:=EL _ cV;rw[e];obtain⟨v,hv,hr,rU,_⟩:=UI i _ cV 0 x' rfl;have Ir:u=v:=by
      unfold vG at hv;rw[hu]at hv;obtain⟨u2,qO,⟨us,h1,h2,h3⟩,_⟩:=kZ i _ cV;rw[hu]at qO;injection qO with qO;subst qO;have h1:us = #[u]:=h1;subst h1;obtain⟨v3,hv3,hr3⟩:=h3 0 x' rfl;have:u=v3:=by simpa using hv3
      subst this;have xh:∀ us,u ≠ .agg us:=by
       rintro us rfl;cases hr3
      cases u<;>first|exact absurd rfl (xh _)|(simp only[show Nat.beq 0 0=true from rfl,aq,gp]at hv;exact hv)
     subst Ir;exact abj (by omega) hv rU hr
    ·rename_i xs cV;obtain⟨u,hu,e⟩:=EL _ cV;rw[e];obtain⟨u2,qO,⟨us,h1,h2,h3⟩,_⟩:=kZ i _ cV;rw[hu]at qO;injection qO with qO;subst qO;have h1:u = .agg us:=h1
     refine⟨us,h1,by rw[abh];exact h2,λj y hy=>?_⟩
     rw[abg]at hy;cases hz:xs[j]? with
     |none=>rw[hz]at hy;cases hy
     | some z=>
      rw[hz]at hy;injection hy with hy;subst hy;obtain⟨v,hv,hr,rU,hj⟩:=UI i _ cV j z hz;have huj:us[j]?=some v:=by
       unfold vG at hv;rw[hu,h1]at hv;exact hv
      refine⟨v,huj,?_⟩;rw[fQ];exact abj hj hv rU hr
    ·trivial
   ·have hr:(if 20000<=r/\r<60000 then some (Bj bQ r)else none)=some l:=hr;split at hr
    ·injection hr
    ·cases hr
   ·show (if 20000<=r/\r<60000 then some (Bj bQ r)else none)=none;rw[bJ (by omega)]
  refine wp_mono (Fo (w0:=W) bS code _ _ h iV _ w hR) λe a' w' he=>?_
  obtain⟨az,hk,ic,r6,aO⟩:=he;have fin:NU az fn.results aa jj t=some p->a'.defers=[]/\∃ u,(results fn a'.tmps).run P w' = .ok u w'/\∃ A n cap,vG bQ aa jj=some (.slice A n cap)/\p.1<=p.2/\p.2<=n/\Ending.returned u = .returned (sliced A p.1 p.2 cap (aB t))/\Below w.heap.size w w':=by
   intro jH;unfold NU at jH;split at jH
   ·rename_i s hs;split at jH
    ·rename_i n sz i k hv;cases fT:(Nat.beq n (nV aa jj)&&Nat.beq sz (aB t))with
     |false=>rw[fT]at jH;cases jH
     | true=>
      rw[fT,aq]at jH;injection jH with jH;subst jH;rw[aJ]at fT;have hn:=cz fT.1;have akN:=cz fT.2;subst hn akN;have h1:=aO.tmp s;rw[hv]at h1;obtain⟨A,m,c,e1,e2,e3,e4⟩:=h1;have hjj:=cH hjj;have xh:20000<=nV aa jj:=by unfold nV;omega
      by_cases bC:nV aa jj<60000
      ·have wZ:=aO.fix (nV aa jj) (Bj bQ (nV aa jj)) (bu ⟨xh,bC⟩);have e1:(match r6 (nV aa jj)with | .dP v=>some v | _=>none)=some (Value.slice A m c):=e1;rw[wZ]at e1;obtain⟨d1,d2⟩:=abi (i:=aa) (j:=jj) (by omega);have e1:some ((vG bQ ((nV aa jj-20001) / 1000) ((nV aa jj-20001) % 1000)).getD undef)=some (Value.slice A m c):=e1;rw[d1,d2]at e1;injection e1 with e1
       refine⟨aO.defers,_,?_,A,m,c,?_,e2,e3,cA Ending.returned e4,⟨aO.below.os,aO.below.tape,aO.below.output,aO.below.size,λk hk=>aO.below.block k hk rfl⟩⟩
       ·have iS:results fn a'.tmps=(do let vs <-fn.results.mapM (s9 a'.tmps);pure (if h:vs.size=1 then vs[0]else .tuple vs)):=by
         unfold results;congr 1
        have sj:fn.results = #[.tmp s]:=by apply Array.ext';exact hs
        rw[iS,sj,Array.mapM_eq_mapM_toList];simp[s9]
       ·cases hl:vG bQ aa jj with
        |none=>rw[hl]at e1;cases e1
        |some u=>rw[hl]at e1;exact cA some e1
      ·exfalso;have:=cH vS;unfold nV at bC;omega
    ·cases jH
   ·cases jH
  split at hk
  next he=>have he:=uI he;subst he;exact fin hk
  next he=>have he:=uI he;subst he;exact fin hk
  ·cases hk
 ·cases h
end
end Go.Proofs.YtcioagfjiccleaaGreat
namespace Go.Proofs.YtcioagfjiccleaaGreat
open Go.RowKit
set_option linter.unusedVariables false
def Wd.pin(d:Wd)(g:Nat)(l:aj Loc)(hg:20000<=g):Wd:=⟨d.w,d.L,λr=>if r=g then l else d.F r,d.held,λr hr=>by
 show (if r=g then l else d.F r)=none;rw[bJ (by omega)];exact d.low r hr⟩
def Bk(g:Nat):af (Bool×af Lf)->A
 |[(false,[x])]=>.lf (x.drop g)
 |[(true,cs)]=>.agg (cs.map (Lf.drop g))
 |[(false,_)]=>.undef
 |ps=>.cP (ps.map λp=>(p.1,p.2.map (Lf.drop g)))
def De{X:Type}(P:Program)(g:Nat)(rv:Array ResultVar)(τ:S)(k:S->A->aj X):aj X:=
 qP P τ rv.toList λps=>match τ.m g with
  |some (.gh ys)=>k ⟨λj=>((ys.map (A.drop g))[j]?).getD .undef,(τ.drop g).m⟩ (Bk g ps)
  |_=>none
def abk(g N:Nat)(σ:S)(xs:af A):S:=⟨λj=>((xs.map (A.drop g))[j]?).getD .undef,bP (σ.drop g).m g (some (.gh ((List.range N).map λj=>(σ.t j).drop g)))⟩
def Jt:oD:=λ_=>none
def Ju{X:Type}(P:Program)(M g:Nat)(Φ:eS)(code:Code)(rv:Array ResultVar)(N:Nat)(σ:S)(xs:af A)(k:S->A->aj X):aj X:=
 bif Nat.ble xs.length M then iT P M Φ Jt code (abk g N σ xs) λe τ=>match Bg e with
  |some 0=>De P g rv τ k
  |some 1=>De P g rv τ k
  |_=>none
 else none
def abl(P:Program)(M g:Nat)(Φ:eS)(code:Code)(rv:Array ResultVar):vH:=⟨λX N σ xs k=>Ju P M g Φ code rv N σ xs k⟩
section
variable {P:Program} {w w':World} {w0:Wd} {B M N g:Nat} {ah aC:bE} {ρ ρ':Nat->Loc} {σ:S} {a:Act} {X:Type} {d:Nat} {r:X} {o:Oper} {Φ:eS} {Λ:oD}
theorem Jv{dst:aj Tmp}{gd:Bool}{k:S->aj X}(h:qf σ dst gd k=some r):∃ τ,k τ=some r/\cD (λX k=>qf (X:=X) σ dst gd k) τ:=by
 unfold qf at h;cases gd with
 |false=>exact⟨σ,h,λX k=>rfl⟩
 | true=>
  rw[aq]at h;split at h
  ·rename_i d;split at h
   ·rename_i b hb;cases b with
    |true=>exact⟨_,h,λX k=>by simp only[qf,aq,hb]⟩
    |false=>exact⟨_,h,λX k=>by simp only[qf,aq,hb,au]⟩
   ·rename_i hb;exact⟨σ,h,λX k=>by
     show qf σ (some d) true k=k σ;unfold qf;simp only[aq]⟩
  ·exact⟨σ,h,λX k=>rfl⟩
theorem akO[Inhabited Wd]{ops:Array Oper}{L i:Nat}{k:S->aj X}(h:A8 P N Φ ops L i σ o k=some r):∃ τ,k τ=some r/\cD (λX k=>A8 (X:=X) P N Φ ops L i σ o k) τ:=by
 unfold A8 at h;split at h
 ·rename_i hw;obtain⟨v,h1,hd,_⟩:=IZ (w0:=default) (N:=N) h;cases hv:v.mj (xl Φ ops i L (waits ops i ops.size 0 0) σ) (yR σ ops i L (waits ops i ops.size 0 0))with
  |false=>rw[hv]at h1;cases h1
  | true=>
   rw[hv,aq]at h1;obtain⟨h2,h3⟩:=mq h1;exact⟨_,h2,λX k=>by
    simp only[A8,hw];refine(hd.at_ _).trans ?_;rw[hv,aq];exact(h3 σ).at_ _⟩
 next hw=>obtain⟨h1,h2⟩:=mq h;exact⟨_,h1,λX k=>by simp only[A8,hw];exact(h2 σ).at_ _⟩
 ·cases h
theorem UJ[Inhabited Wd](bS:ig P Φ){ops:Array Oper}{k:S->aj X}(h:dI P N Φ ops σ o k=some r):∃ τ,k τ=some r/\cD (λX k=>dI (X:=X) P N Φ ops σ o k) τ:=by
 unfold dI at h;split at h
 next hw=>obtain⟨τ,h1,h2⟩:=Nf bS h;exact⟨τ,h1,λX k=>by simp only[dI,hw];exact h2 X k⟩
 next hw=>obtain⟨h1,h2⟩:=mq h;exact⟨_,h1,λX k=>by simp only[dI,hw];exact(h2 σ).at_ _⟩
 ·cases h
theorem Jw[Inhabited Wd](bS:ig P Φ){ops:Array Oper}:∀ (f L:Nat) (σ:S) (k:S->aj X),mm P N Φ ops f L σ k=some r->∃ τ,k τ=some r/\cD (λX k=>mm (X:=X) P N Φ ops f L σ k) τ
 | 0,L,σ,k,h=>by
  unfold mm at h;split at h
  next hr=>exact⟨σ,h,λX k=>by simp only[mm,hr]⟩
  ·cases h
 | f+1,L,σ,k,h=>by
  unfold mm at h;split at h
  next hr=>exact⟨σ,h,λX k=>by simp only[mm,hr]⟩
  ·rename_i i hr;split at h
   ·rename_i o ho;obtain⟨τ,h1,h2⟩:=UJ bS h;obtain⟨gv,h3,h4⟩:=Jv h1;obtain⟨so,h5,h6⟩:=Jw bS f _ gv k h3;exact⟨so,h5,λX k=>by
     simp only[mm,hr,ho];exact(h2.at_ _).trans ((h4.at_ _).trans (h6.at_ _))⟩
   ·cases h
  ·rename_i rs hn hs;split at h
   ·rename_i i hf;split at h
    ·rename_i o ho;obtain⟨τ,h1,h2⟩:=akO h;obtain⟨gv,h3,h4⟩:=Jv h1;obtain⟨so,h5,h6⟩:=Jw bS f _ gv k h3
     refine⟨so,h5,λX k=>?_⟩
     show mm P N Φ ops (f+1) L σ k=k so;unfold mm;split
     next e=>exact absurd e hn
     next i e=>exact absurd e (hs i)
     ·simp only[hf,ho];exact(h2.at_ _).trans ((h4.at_ _).trans (h6.at_ _))
    ·cases h
   ·rename_i hf;split at h
    ·rename_i i UK;split at h
     ·rename_i o ho;obtain⟨τ,h1,h2⟩:=UJ bS h;obtain⟨gv,h3,h4⟩:=Jv h1;obtain⟨so,h5,h6⟩:=Jw bS f _ gv k h3
      refine⟨so,h5,λX k=>?_⟩
      show mm P N Φ ops (f+1) L σ k=k so;unfold mm;split
      next e=>exact absurd e hn
      next i e=>exact absurd e (hs i)
      ·simp only[hf,UK,ho];exact(h2.at_ _).trans ((h4.at_ _).trans (h6.at_ _))
     ·cases h
    ·rename_i UK;split at h
     ·rename_i i hf3;split at h
      ·rename_i o ho;obtain⟨τ,h1,h2⟩:=UJ bS h;obtain⟨gv,h3,h4⟩:=Jv h1;obtain⟨so,h5,h6⟩:=Jw bS f _ gv k h3
       refine⟨so,h5,λX k=>?_⟩
       show mm P N Φ ops (f+1) L σ k=k so;unfold mm;split
       next e=>exact absurd e hn
       next i e=>exact absurd e (hs i)
       ·simp only[hf,UK,hf3,ho];exact(h2.at_ _).trans ((h4.at_ _).trans (h6.at_ _))
      ·cases h
     ·cases h
theorem akP{t:TypeId}{x lo hi mx:A}{k:aj X}(h:A3 P σ t x lo hi mx k=some r):k=some r/\∀ (X':Type) (k':aj X'),A3 P σ t x lo hi mx k'=k':=by
 unfold A3 at h;split at h
 ·split at h
  ·rename_i he;split at h
   ·rename_i hn;obtain⟨y,h1,_,hd⟩:=uA _ _ h;split at h1
    ·split at h1
     ·rename_i hb
      refine⟨h1,λX' k'=>?_⟩
      simp only[A3,he,hn];refine(hd X' _).trans ?_;simp only;rw[bu hb]
     ·cases h1
    ·cases h1
   ·cases h
  ·cases h
 ·cases h
theorem akQ[Inhabited Wd](bS:ig P Φ){k:S->aj X}(h:pH P N Φ σ o k=some r):∃ τ,k τ=some r/\∀ (X':Type) (k':S->aj X'),pH P N Φ σ o k'=k' τ:=by
 have same:∀ σ2:S,(∀ (X':Type) (k':S->aj X'),pH P N Φ σ o k'=dG P N Φ σ2 o k')->∃ τ,k τ=some r/\∀ (X':Type) (k':S->aj X'),pH P N Φ σ o k'=k' τ:=by
  intro σ2 e;rw[e]at h;obtain⟨τ,h1,h2⟩:=Nf bS h;exact⟨τ,h1,λX k=>(e X k).trans (h2 X k)⟩
 cases ho:o.op with
 | store t x y=>
  cases hd:o.dst with
  |some d=>exact same σ λX' k'=>by simp only[pH,ho,hd]
  | none=>
   have e:∀ (X':Type) (k':S->aj X'),pH P N Φ σ o k'=(match aF σ y with
    |.view [q] s i j=>A1 P σ q s i j t (aF σ x) k'
    |_=>dG P N Φ σ o k'):=λX' k'=>by simp only[pH,ho,hd];rfl
   rw[e]at h;split at h
   next q s i j hy=>obtain⟨τ,h1,h2⟩:=ajg h;exact⟨τ,h1,λX k=>by rw[e];simp only[hy];exact h2.at_ _⟩
   ·rename_i hn;obtain⟨τ,h1,h2⟩:=Nf bS h
    refine⟨τ,h1,λX k=>?_⟩
    rw[e];split
    next q s i j hy=>exact(hn _ _ _ _ hy).elim
    ·exact h2 X k
 | slice t x lo hi mx=>
  cases hd:o.dst with
  |none=>exact same σ λX' k'=>by simp only[pH,ho,hd]
  | some d=>
   cases mx with
   | some m=>
    cases lo with
    |none=>exact same σ λX' k'=>by simp only[pH,ho,hd]
    | some l=>
     cases hi with
     |none=>exact same σ λX' k'=>by simp only[pH,ho,hd]
     | some u=>
      have e:∀(X':Type) (k':S->aj X'),pH P N Φ σ o k'=A3 P σ t (aF σ x) (aF σ l) (aF σ u) (aF σ m) (bif Nat.blt d N then k' (σ.set d .undef)else none):=λX' k'=>by simp only[pH,ho,hd]
      rw[e]at h;obtain⟨h1,h2⟩:=akP h;cases hN:Nat.blt d N with
      |false=>rw[hN]at h1;cases h1
      | true=>
       rw[hN,aq]at h1;exact⟨_,h1,λX k=>by rw[e,h2,hN,aq]⟩
   |none=>exact same σ λX' k'=>by simp only[pH,ho,hd]
 |_=>exact same σ λX' k'=>by simp only[pH,ho]
theorem UL[Inhabited Wd](bS:ig P Φ){ops:Array Oper}:∀ (rest:af Oper) (j:Nat) (σ:S) (k:S->aj X),xj P N Φ ops j rest σ k=some r->∃ τ,k τ=some r/\cD (λX k=>xj (X:=X) P N Φ ops j rest σ k) τ
 |[],j,σ,k,h=>⟨σ,h,λX k=>rfl⟩
 | o :: rest,j,σ,k,h=>by
  unfold xj at h;split at h
  ·rename_i hw;obtain⟨τ,h1,h2⟩:=akQ bS h;obtain⟨gv,h3,h4⟩:=Jv h1;obtain⟨so,h5,h6⟩:=UL bS rest _ gv k h3;exact⟨so,h5,λX k=>by
    simp only[xj,hw];exact(h2 _ _).trans ((h4.at_ _).trans (h6.at_ _))⟩
  ·rename_i hw;obtain⟨h1,h2⟩:=mq h;obtain⟨so,h5,h6⟩:=UL bS rest _ _ k h1;exact⟨so,h5,λX k=>by
    simp only[xj,hw];exact((h2 σ).at_ _).trans (h6.at_ _)⟩
  ·cases h
theorem akR[Inhabited Wd](bS:ig P Φ):∀ (c:Code) (σ:S) (k:Exit->S->aj X),iT P N Φ Jt c σ k=some r->∃ e τ,k e τ=some r/\∀ (X':Type) (k':Exit->S->aj X'),iT P N Φ Jt c σ k'=k' e τ:=by
 intro c
 induction c with
 |skip=>exact λσ k h=>⟨_,_,h,λ_ _=>rfl⟩
 |label l=>exact λσ k h=>⟨_,_,h,λ_ _=>rfl⟩
 |ret=>exact λσ k h=>⟨_,_,h,λ_ _=>rfl⟩
 |exit id=>exact λσ k h=>⟨_,_,h,λ_ _=>rfl⟩
 | region id ops draw=>
  intro σ k h;cases draw with
  | true=>
   simp only[iT]at h;cases hm:P.follows .mixedOrders with
   |false=>rw[hm]at h;cases h
   | true=>
    rw[hm,aq]at h;obtain⟨τ,h1,h2⟩:=Jw bS _ _ _ _ h;exact⟨_,τ,h1,λX k=>by simp only[iT,hm,aq];exact h2.at_ _⟩
  | false=>
   simp only[iT]at h;obtain⟨τ,h1,h2⟩:=UL bS _ _ _ _ h;exact⟨_,τ,h1,λX k=>by simp only[iT];exact h2.at_ _⟩
 | seq x y Da Db=>
  intro σ k h;simp only[iT]at h;obtain⟨e,τ,h1,h2⟩:=Da σ _ h;cases e with
  | normal=>
   obtain⟨e',gv,h3,h4⟩:=Db τ k h1;exact⟨e',gv,h3,λX k=>by simp only[iT];rw[h2];exact h4 X k⟩
  |_=>exact⟨_,τ,h1,λX k=>by simp only[iT];rw[h2]⟩
 | cond c x y Da Db=>
  intro σ k h;simp only[iT]at h;split at h
  ·rename_i b hb;cases b with
   | true=>
    obtain⟨e,τ,h1,h2⟩:=Da σ k h;exact⟨e,τ,h1,λX k=>by simp only[iT,hb,aq];exact h2 X k⟩
   | false=>
    obtain⟨e,τ,h1,h2⟩:=Db σ k h;exact⟨e,τ,h1,λX k=>by simp only[iT,hb,au];exact h2 X k⟩
  ·cases h
 | block id c ih=>
  intro σ k h;have e0:∀ (X':Type) (k':Exit->S->aj X'),iT P N Φ Jt (.block id c) σ k'=iT P N Φ Jt c σ λe az=>match e with
   |.exit tw=>if tw=id then k' .normal az else k' (.exit tw) az
   |e=>k' e az:=λX' k'=>rfl
  rw[e0]at h;obtain⟨e,τ,h1,h2⟩:=ih σ _ h;cases e with
  | exit tw=>
   by_cases hi:tw=id
   ·simp only[hi,if_true]at h1;exact⟨_,τ,h1,λX k=>by rw[e0,h2];simp only[hi,if_true]⟩
   ·simp only[hi,if_false]at h1;exact⟨_,τ,h1,λX k=>by rw[e0,h2];simp only[hi,if_false]⟩
  |_=>exact⟨_,τ,h1,λX k=>by rw[e0,h2]⟩
 |_=>intro σ k h;simp[iT]at h
theorem UM:∀ (l:af ResultVar) (k:af (Bool×af Lf)->aj X),qP P σ l k=some r->∃ ps,k ps=some r/\cD (λX k=>qP (X:=X) P σ l k) ps
 |[],k,h=>⟨[],h,λX k=>rfl⟩
 | .tmp t :: rest,k,h=>by
  simp only[qP]at h;split at h
  next p hp=>obtain⟨ps,h2,h3⟩:=UM rest _ h;exact⟨_,h2,λX k=>by simp only[qP,hp];exact h3.at_ _⟩
  ·cases h
 | .cell c ty :: rest,k,h=>by
  simp only[qP]at h;obtain⟨y,hy,hd⟩:=IG h;split at hy
  ·rename_i p hp;obtain⟨ps,h2,h3⟩:=UM rest _ hy;exact⟨_,h2,λX k=>by
    simp only[qP];refine(hd.at_ _).trans ?_;simp only[hp];exact h3.at_ _⟩
  ·cases hy
theorem akS{rv:Array ResultVar}{k:S->A->aj X}(h:De P g rv σ k=some r):∃ ys ps,σ.m g=some (.gh ys)/\qP P σ rv.toList some=some ps/\k ⟨λj=>((ys.map (A.drop g))[j]?).getD .undef,(σ.drop g).m⟩ (Bk g ps)=some r/\
  ∀(X':Type) (k':S->A->aj X'),De P g rv σ k'=k' ⟨λj=>((ys.map (A.drop g))[j]?).getD .undef,(σ.drop g).m⟩ (Bk g ps):=by
 unfold De at h;obtain⟨ps,h1,h2⟩:=UM _ _ h;split at h1
 ·rename_i ys hy;exact⟨ys,ps,hy,h2.at_ _,h1,λX' k'=>by
   unfold De;refine(h2.at_ _).trans ?_;simp only[hy]⟩
 ·cases h1
theorem List.abm(xs:af A)(g j:Nat):((xs.map (A.drop g))[j]?).getD .undef=A.drop g ((xs[j]?).getD .undef):=by
 rw[dH];cases xs[j]?<;>rfl
theorem RP.Bk{ps:af (Bool×af Lf)}{vs:af Value}(aM:∀ r,r≠g->ρ' r=ρ r)(hl:vs.length=ps.length)(h:∀ (i:Nat) p v,ps[i]?=some p->vs[i]?=some v->RP w B ah ρ p v):
  RA w B ah ρ' (Bk g ps) (if h:vs.toArray.size=1 then vs.toArray[0]else .tuple vs.toArray):=by
 have cP:ps.length≠1->RA w B ah ρ' (.cP (ps.map λp=>(p.1,p.2.map (Lf.drop g)))) (if h:vs.toArray.size=1 then vs.toArray[0]else .tuple vs.toArray):=by
  intro hn;rw[dif_neg (by simpa [hl]using hn)]
  refine⟨vs.toArray,rfl,by simpa using hl,λj p hp=>?_⟩
  rw[dH]at hp;cases hq:ps[j]? with
  |none=>rw[hq]at hp;cases hp
  | some q=>
   rw[hq]at hp;injection hp with hp;subst hp;have hj:j<vs.length:=by rw[hl];exact(dJ.1 hq).1
   exact⟨vs[j],by simp[hj],(h j q vs[j] hq (bT hj)).eW aM⟩
 unfold Proofs.YtcioagfjiccleaaGreat.Bk;split
 ·rename_i x
  match vs,hl,h with
  | [v],_,h=>
   have:=h 0 _ v rfl rfl;obtain⟨u,hu,hr⟩:=this.2 0 x rfl;have:v=u:=by simpa using hu
   subst this;exact hr.eW aM
 ·rename_i cs
  match vs,hl,h with
  |[v],_,h=>exact RP.eW aM (p:=(true,cs)) (h 0 _ v rfl rfl)
 ·trivial
 ·rename_i h1 h2 h3
  refine cP λe=>?_
  obtain⟨⟨b,cs⟩,rfl⟩:=List.length_eq_one_iff.1 e;cases b with
  |true=>exact h2 cs rfl
  |false=>exact h3 cs rfl
theorem akT{f:Nat}{fn:Func}{code:Code}(hf:P.funcs[f]?=some fn)(hb:fn.body=some code)(hN:fn.ntmps=M)(hM:M<=20000)(kV:(fn.name == "runtime.NumGoroutine")=false)(hg:20000<=g/\g<60000)(bS:ig P Φ):
  enters P f/\r9 P f (abl P M g Φ code fn.results):=by
 refine⟨⟨fn,hf,kV,by rw[hb];rfl⟩,λX N σ xs k r h=>?_⟩
 have h:Ju P M g Φ code fn.results N σ xs k=some r:=h;unfold Ju at h;cases hl:Nat.ble xs.length M with
 |false=>rw[hl]at h;cases h
 | true=>
  rw[hl,aq]at h;have gR:=cH hl;obtain⟨e,τ,h1,h2⟩:=akR bS _ _ _ h;have h3:(e = .normal\/e = .ret)/\De P g fn.results τ k=some r:=by
   split at h1
   next he=>exact⟨.inl (uI he),h1⟩
   next he=>exact⟨.inr (uI he),h1⟩
   ·cases h1
  obtain⟨hex,h3⟩:=h3;obtain⟨ys,ps,hy,jm,hk,hd⟩:=akS h3
  refine⟨_,_,hk,λX' k'=>?_,λw0 ah ρ a w bQ hR dx hv=>?_⟩
  ·show Ju P M g Φ code fn.results N σ xs k'=_;unfold Ju;rw[hl,aq,h2];rcases hex with rfl | rfl
   ·exact hd X' k'
   ·exact hd X' k'
  ·let us:=a.tmps.toList
   let W:Wd:=w0.pin g (some (.bQ us)) hg.1
   let r6:=bP ρ g (.bQ us)
   have aM:∀r,r≠g->r6 r=ρ r:=λr hr=>cL _ _ _ hr
   have gD:∀ j,us.getD j undef=a.tmps.getD j undef:=λj=>by
    show a.tmps.toList.getD j undef=_;rw[iz,nu,jy]
   have hle:bQ.size<=M:=by rw[dx];exact gR
   have r8:Rl W M ah r6 (abk g N σ xs) { tmps:=bQ++Array.replicate (fn.ntmps-bQ.size) undef,defers:=[] } w:=by
    refine⟨⟨hR.below.os,hR.below.tape,hR.below.output,hR.below.size,hR.below.block⟩,hR.dn,λr x hx=>?_,λj=>?_,by simp[hN];omega,rfl,λr l hr=>?_,λr hr=>?_⟩
    ·have hx:bP (σ.drop g).m g (some (.gh ((List.range N).map λj=>(σ.t j).drop g))) r=some x:=hx;by_cases sq:r=g
     ·subst sq;rw[bY]at hx;injection hx with hx;subst hx
      refine .gh us _ (bY _ _ _) λj x hj=>?_
      rw[dH]at hj;cases hr:(List.range N)[j]? with
      |none=>rw[hr]at hj;cases hj
      | some j'=>
       rw[hr]at hj;injection hj with hj;obtain⟨bC,qD⟩:=dJ.1 hr;rw[pR]at qD;subst qD hj;rw[gD];exact(hR.tmp j).eW aM
     ·rw[cL _ _ _ sq]at hx;have hx:(bif Nat.beq r g then none else (σ.m r).map (aW.drop g))=some x:=hx;cases hb:Nat.beq r g with
      |true=>rw[hb]at hx;cases hx
      | false=>
       rw[hb,au]at hx;cases hm:σ.m r with
       |none=>rw[hm]at hx;cases hx
       | some y=>
        rw[hm]at hx;injection hx with hx;subst hx;exact(hR.root r y hm).eW aM sq
    ·show RA w w0.heap.size ah r6 (((xs.map (A.drop g))[j]?).getD .undef) _;rw[List.abm];by_cases hj:j<bQ.size
     ·have e1:(bQ++Array.replicate (fn.ntmps-bQ.size) undef).getD j undef=bQ.getD j undef:=by
       rw[jy,Array.getElem?_append_left hj,jy]
      show RA w w0.heap.size ah r6 _ ((bQ++Array.replicate (fn.ntmps-bQ.size) undef).getD j undef);rw[e1];exact(hv j).eW aM
     ·rw[List.getElem?_eq_none (by omega:xs.length<=j)];trivial
    ·have hr:(if r=g then some (Loc.bQ us)else w0.F r)=some l:=hr;by_cases sq:r=g
     ·rw[bu sq]at hr;injection hr with hr;rw[sq,<-hr];exact bY _ _ _
     ·rw[bJ sq]at hr;rw[aM r sq];exact hR.fix r l hr
    ·show (if r=g then some (Loc.bQ us)else w0.F r)=none;rw[bJ (by omega)];rcases hr with hr | hr
     ·exact w0.low r (by omega)
     ·exact hR.dQ r (.inr hr)
   refine calls_of_wp hf hb ?_
   refine wp_mono (Fo (w0:=W) bS code _ (λe τ=>some (e,τ)) (h2 _ _) (λp hp b hb=>by cases hb) _ w ⟨ah,r6,r8⟩) λe' a' w' he=>?_
   obtain⟨az,dU,aC,ρ',aO⟩:=he;injection dU with dU;injection dU with k1 k2;subst k1 k2;have IB:ρ' g = .bQ us:=aO.fix g _ (bu rfl);let eX:=bP ρ' g ((w0.F g).getD (.ax 0 0))
   have wU:∀r,r≠g->eX r=ρ' r:=λr hr=>cL _ _ _ hr
   obtain⟨ot,UN,l7⟩:=Is (w0:=W) (N:=M) _ _ jm;injection UN with UN;subst UN;obtain⟨vs,bq,hlen,ia⟩:=l7 aC ρ' a' w' aO;have akU:(fn.results.mapM (s9 a'.tmps)).run P w' = .ok vs.toArray w':=by
    rw[Array.mapM_eq_mapM_toList];simp[bq]
   have iS:results fn a'.tmps=(do let vs <-fn.results.mapM (s9 a'.tmps);pure (if h:vs.size=1 then vs[0]else .tuple vs)):=by
    unfold results;congr 1
   have hRf:Rl w0 N aC eX ⟨λj=>((ys.map (A.drop g))[j]?).getD .undef,(az.drop g).m⟩ a w':=by
    refine⟨⟨aO.below.os,aO.below.tape,aO.below.output,aO.below.size,aO.below.block⟩,aO.dn,λr x hx=>?_,λj=>?_,hR.size,hR.defers,λr l hr=>?_,hR.dQ⟩
    ·have hx:(bif Nat.beq r g then none else (az.m r).map (aW.drop g))=some x:=hx;cases hb:Nat.beq r g with
     |true=>rw[hb]at hx;cases hx
     | false=>
      have sq:r≠g:=by rintro rfl;simp at hb
      rw[hb,au]at hx;cases hm:az.m r with
      |none=>rw[hm]at hx;cases hx
      | some y=>
       rw[hm]at hx;injection hx with hx;subst hx;exact(aO.root r y hm).eW wU sq
    ·show RA w' w0.heap.size aC eX (((ys.map (A.drop g))[j]?).getD .undef) _;rw[List.abm];cases hyj:ys[j]? with
     |none=>trivial
     | some y=>
      have cQ:=aO.root g _ hy;generalize hz:aW.gh ys=z at cQ;cases cQ with
      |ax=>cases hz
      |sl=>cases hz
      |mp=>cases hz
      | gh Mn xs' yM Jx=>
       injection hz with hz;subst hz;rw[IB]at yM;injection yM with yM;subst yM;have:=Jx j y hyj;rw[gD]at this;exact this.eW wU
    ·by_cases sq:r=g
     ·subst sq;show bP ρ' r ((w0.F r).getD (.ax 0 0)) r=l;rw[bY,hr];rfl
     ·rw[wU r sq];exact aO.fix r l ((bJ sq).trans hr)
   have fin:a'.defers=[]/\∃ v,(results fn a'.tmps).run P w' = .ok v w'/\∃ Bi aC ρ',Ending.returned v=Ending.returned Bi/\Rl w0 N aC ρ' ⟨λj=>((ys.map (A.drop g))[j]?).getD .undef,(az.drop g).m⟩ a w'/\RA w' w0.heap.size aC ρ' (Bk g ot) Bi:=
    ⟨aO.defers,_,by rw[iS,fz,akU,kA,Sem.run_pure],_,aC,eX,rfl,hRf,RP.Bk wU hlen ia⟩
   rcases hex with rfl|rfl
   ·exact fin
   ·exact fin
end
end Go.Proofs.YtcioagfjiccleaaGreat
