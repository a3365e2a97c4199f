/-
  Running the program over pure contents, and that it follows (part 5). Nothing here is a claim.
-/
import Derived.Test.YtecofnkoloihpaaGreatV4
set_option linter.unusedSimpArgs false
namespace Go.Proofs.YtecofnkoloihpaaGreat
open Go.RowKit
set_option linter.unusedVariables false
section
variable {P:Program} {w w':World} {w0:Wd} {B N:Nat} {aj aD:bM} {ρ ρ':Nat->Loc} {σ:S} {a:Act} {X:Type} {d:Nat} {r:X} {o:Oper} {Φ:fo} {p:Nat->Bool} {ops:Array Oper}
theorem abR{i W j:Nat}{oj:Oper}(dW:ops[j]?=some oj)(h:HL ops i W j=true):∃ e∈oj.after,Region.binds .any e=true/\(e.on=i\/W.testBit e.on=true):=by
 unfold HL at h;rw[dW]at h;obtain⟨e,he,hb⟩:=List.any_eq_true.1 h;rw[bx,fE]at hb
 refine⟨e,by simpa using he,hb.1,hb.2.imp (λh=>cr h) id⟩
theorem UR{g:Oper->Bool}{oi:Oper}{i L W:Nat}:∀ (n j:Nat),HM g ops oi i L W n j=true->∀ k,j<=k->k<j+n->k=i\/L.testBit k=true\/(W.testBit k=true/\HL ops i W k=true)\/(W.testBit k=false/\∀ ok,ops[k]?=some ok->g ok=true/\oi.apart ops ok=true)
 |0,j,_,k,h1,h2=>by omega
 | n+1,j,h,k,h1,h2=>by
  unfold HM at h;rw[bx,fE,fE]at h;by_cases hk:k=j
  ·subst hk;rcases h.1 with (h | h) | h
   ·exact .inl (cr h)
   ·exact .inr (.inl h)
   ·cases hw:W.testBit k with
    |true=>rw[hw,aq]at h;exact .inr (.inr (.inl ⟨rfl,h⟩))
    | false=>
     rw[hw,au]at h
     refine .inr (.inr (.inr ⟨rfl,λok eH=>?_⟩))
     rw[eH,bx]at h;exact h
  ·exact UR n (j+1) h.2 k (by omega) (by omega)
theorem rB{g:Oper->Bool}{i L W:Nat}:∀ (n j:Nat) (k:Nat),j<=k->k<j+n->k≠i->L.testBit k=false->W.testBit k=false->∀ ok,ops[k]?=some ok->g ok=true->lE g ops i L W n j=true
 |0,j,k,h1,h2,_,_,_,_,_,_=>by omega
 | n+1,j,k,h1,h2,hi,hL,hW,ok,eH,hm=>by
  unfold lE;rw[fE];by_cases hk:k=j
  ·subst hk;refine .inl ?_;have hb:Nat.beq k i=false:=by
    cases hb:Nat.beq k i with
    |false=>rfl
    |true=>exact absurd (cr hb) hi
   rw[eH,hb,hL,hW]
   simpa using hm
  ·exact .inr (rB n (j+1) k (by omega) (by omega) hi hL hW ok eH hm)
theorem abS{g:Oper->Bool}{i L W:Nat}:∀ (n j:Nat),lE g ops i L W n j=true->∃ k ok,ops[k]?=some ok/\k≠i/\L.testBit k=false/\W.testBit k=false/\g ok=true
 |0,j,h=>by cases h
 | n+1,j,h=>by
  unfold lE at h;rw[fE]at h;rcases h with h|h
  ·rw[bx,nq,pV,pV]at h;obtain⟨⟨⟨h1,h2⟩,h3⟩,h4⟩:=h;split at h4
   next ok eH=>exact⟨j,ok,eH,(by rintro rfl;rw[Nat.beq_refl]at h1;cases h1),h2,h3,h4⟩
   ·cases h4
  ·exact abS n (j+1) h
theorem anq[Inhabited Wd]{L i:Nat}{k:S->ak X}(hv:gF o.op=true\/gG σ ops o=some false)(hn:Uk σ (wg Φ ops i L (waits ops i ops.size 0 0) σ) (xN σ ops i L (waits ops i ops.size 0 0)) o=true)(h:Ah P N Φ ops L i σ o k=some r):
  ∃v,k (gX σ o.dst v)=some r/\n9 P ops o (wg Φ ops i L (waits ops i ops.size 0 0) σ) (xN σ ops i L (waits ops i ops.size 0 0)) v σ/\∀σ:S,jD N σ o.dst v some=some (gX σ o.dst v):=by
 unfold Ah at h;unfold Uk at hn;rw[bx]at hn;split at h
 ·rename_i hw;obtain⟨v,h1,hd,_⟩:=HP (w0:=default) (N:=N) h;cases hc:v.nG (wg Φ ops i L (waits ops i ops.size 0 0) σ) (xN σ ops i L (waits ops i ops.size 0 0))with
  |false=>rw[hc]at h1;cases h1
  | true=>
   rw[hc,aq]at h1;obtain⟨h2,h3⟩:=mC h1;have hv:gF o.op=true:=hv.resolve_right (by rw[hw];simp)
   refine⟨v,h2,.inl ⟨hw,hv,hd,λy hy=>dQ.1 hn.1 y (by simpa using hy),hc,λt y r j e hy=>?_⟩,λσ=>(h3 σ).at_ _⟩
   have h4:=hn.2;rw[e]at h4;simp only[hy]at h4
   simpa using h4
 next hw=>obtain⟨h2,h3⟩:=mC h;exact⟨.skip,h2,.inr ⟨hw,rfl⟩,λσ=>(h3 σ).at_ _⟩
 ·cases h
theorem H6{i L W n:Nat}(h:B9 Φ ops i L W σ n=true):wg Φ ops i L W σ n=true:=by unfold wg;rw[h];rfl
theorem anr{i L W:Nat}(h:GI Φ ops i L W σ o=true):∃ ty t y,o.op = .store ty (.tmp t) y/\o.dst=none/\Nb Φ ops i L W σ t=true/\(∀ k,σ.t t ≠ .ptr k)/\∀ r j,σ.t t = .aK r j->B8 σ o=[r]:=by
 unfold GI at h;split at h
 ·rename_i ty t y ho;rw[bx,bx]at h
  refine⟨ty,t,y,ho,by simpa using h.1.1,h.1.2,λk hk=>?_,λr j hr=>by simp only[B8,ho,hr]⟩
  have h3:=h.2;rw[hk]at h3;cases h3
 ·cases h
theorem ans{i L W:Nat}(h:Ui Φ ops i L W o=true):∃ x y t t',o.op = .call ⟨.builtin .append,⟨[.tmp x,y]⟩,⟨[t,t']⟩⟩/\n7 Φ ops i L W x=true/\(pH t=false/\Nat.beq t t'=true/\B6 o.dst t (.tmp x)=false):=by
 unfold Ui at h;split at h
 ·rw[bx,bx,bx]at h;exact⟨_,_,_,_,by assumption,h.1,by simpa using h.2.1.1,h.2.1.2,by simpa using h.2.2⟩
 ·cases h
theorem H7{p:Nat->Bool}:∀ (ps:af PK) (xs:af Operand),(∀ x∈xs,(aH σ x).nr p=true)->∀ n∈pJ σ ps xs,p n=false
 |[],[],_,n,hn=>by cases hn
 |[],_::_,_,n,hn=>by cases hn
 |.v _ _::_,[],_,n,hn=>by cases hn
 |.p _ _ _::_,[],_,n,hn=>by cases hn
 |.s _ _::_,[],_,n,hn=>by cases hn
 |.v _ _::ps,x::xs,h,n,hn=>H7 ps xs (λy hy=>h y (.tail _ hy)) n hn
 |.s _ _::ps,x::xs,h,n,hn=>H7 ps xs (λy hy=>h y (.tail _ hy)) n hn
 | .p _ _ _ :: ps,x :: xs,h,n,hn=>by
  simp only[pJ]at hn;split at hn
  ·rename_i r' j hr;rcases jq.1 hn with rfl | hn
   ·have h1:=h x (.head _);rw[hr]at h1;have h1:(!p n)=true:=h1
    simpa using h1
   ·exact H7 ps xs (λy hy=>h y (.tail _ hy)) n hn
  ·exact H7 ps xs (λy hy=>h y (.tail _ hy)) n hn
theorem Nu{dst:ak Tmp}{g:Bool}{k:S->ak X}(h:pI σ dst g k=some r):k σ=some r:=by
 unfold pI at h;cases g with
 |false=>exact h
 | true=>
  rw[aq]at h;split at h
  ·rename_i d;split at h
   ·rename_i b hb;have:∀ c,b=c->σ.set d (.lf (.v (.bool c)))=σ:=by
     rintro c rfl
     refine S.ext' (λk=>?_) λ_=>rfl
     show cB _ _ _ _=_;by_cases hk:k=d
     ·subst hk;rw[cG,hb]
     ·rw[cV _ _ _ hk]
    cases b with
    |true=>rw[aq,this true rfl]at h;exact h
    |false=>rw[au,this false rfl]at h;exact h
   ·exact h
  ·exact h
theorem abT{L j:Nat}(h:nE ops L j=true):j<ops.size:=by
 obtain⟨_,o,ho,_⟩:=HV.1 h;exact(ia.1 ho).1
theorem Ce{L j:Nat}:j∈(List.range ops.size).filter (nE ops L) ↔ nE ops L j=true:=by
 rw[List.mem_filter,jY];exact⟨λh=>h.2,λh=>⟨abT h,h⟩⟩
structure abU (ops:Array Oper) (p:Nat->Bool) (σ:S) (o:Oper):Prop where
 is:pK o=true
 want:gG σ ops o=some true
 aA8:∀y∈o.op.operands,(aH σ y).gF=true/\∀t,y = .tmp t->p t=false
 guard:∀g c t,o.guard=some (g,c)->(ops[g]?).bind (·.dst)=some t->p t=false
theorem ant{x:A}{n:Nat}{z:V}(h:sF x n=some z)(X:Type)(k:A->ak X):xg x n k=k (.lf (.v z)):=by
 unfold sF at h;split at h
 ·split at h
  next xs _ _ hx=>injection h with h;subst h;simp only[xg,hx,Option.bind_some,si]
  ·cases h
 ·cases h
theorem abV{x:A}{n:Nat}{z:V}{g:Lf->Lf}{G:A->A}(hG:∀ xs,G (.cU xs) = .cU (xs.map λp=>(p.1,p.2.map g)))(hg:∀ z,g (.v z) = .v z)(h:sF x n=some z):sF (G x) n=some z:=by
 unfold sF at h;split at h
 ·split at h
  next xs _ _ hx=>injection h with h;subst h;rw[hG];simp only[sF,dP,hx,jM,lK,List.map_nil,hg]
  ·cases h
 ·cases h
theorem US{v:A}(hv:∀ q,v.drop q=v){rr d:Nat}{key:Nat->af Nat}:∀ (f j:Nat) (xs:af Lf) (σ:S),ji rr key f j xs (σ.set d v)=(ji rr key f j xs σ).map λp=>(p.1,p.2.set d v)
 |_,_,[],σ=>by simp[ji]
 |0,j,x::xs,σ=>by cases x<;>simp[ji]
 | f+1,j,.v x :: xs,σ=>by
  simp only[ji,US hv f];cases ji rr key f (j+1) xs σ<;>rfl
 | f+1,j,.own [q] :: xs,σ=>by
  simp only[ji];show (match σ.m q with
   |some (.sl z)=>_
   |_=>none)=_
  cases hq:σ.m q with
  |none=>rfl
  | some y=>
   cases y with
   | sl z=>
    simp only;cases Nat.beq q rr with
    |true=>rfl
    | false=>
     simp only[au];rw[S.drop_set q (hv q),US hv f];cases ji rr key f (j+1) (xs.map (Lf.drop q)) (σ.drop q)<;>rfl
   |_=>rfl
 |f+1,j,.own []::xs,σ=>rfl
 |f+1,j,.own (_::_::_)::xs,σ=>rfl
 |f+1,j,.dead::xs,σ=>rfl
theorem UT{rr:Nat}{key:Nat->af Nat}{x n:Nat}{z:V}:∀ (f j:Nat) (xs:af Lf) (σ τ:S) (vs:af V),ji rr key f j xs σ=some (vs,τ)->sF (σ.t x) n=some z->sF (τ.t x) n=some z
 | _,_,[],σ,τ,vs,h,hz=>by
  simp only[ji]at h;injection h with h;injection h with _ h;subst h;exact hz
 |0,j,y::xs,σ,τ,vs,h,hz=>by cases y<;>simp[ji]at h
 | f+1,j,.v y :: xs,σ,τ,vs,h,hz=>by
  simp only[ji]at h;cases hr:ji rr key f (j+1) xs σ with
  |none=>rw[hr]at h;cases h
  | some p=>
   rw[hr]at h;injection h with h;injection h with _ h;subst h;exact UT f (j+1) xs σ p.2 p.1 hr hz
 | f+1,j,.own [q] :: xs,σ,τ,vs,h,hz=>by
  simp only[ji]at h;split at h
  ·cases hb:Nat.beq q rr with
   |true=>rw[hb]at h;cases h
   | false=>
    rw[hb,au]at h;cases hr:ji rr key f (j+1) (xs.map (Lf.drop q)) (σ.drop q)with
    |none=>rw[hr]at h;cases h
    | some p=>
     rw[hr]at h;injection h with h;injection h with _ h;subst h;refine UT f (j+1) _ (σ.drop q) p.2 p.1 hr ?_;exact abV (G:=A.drop q) (g:=Lf.drop q) (λ_=>rfl) (λ_=>rfl) hz
  ·cases h
 |f+1,j,.own []::xs,σ,τ,vs,h,hz=>by cases h
 |f+1,j,.own (_::_::_)::xs,σ,τ,vs,h,hz=>by cases h
 |f+1,j,.dead::xs,σ,τ,vs,h,hz=>by cases h
theorem anu{d:Nat}{v:V}{t:TypeId}{x y:A}{τ:S}(h:sE P (σ.set d (.lf (.v v))) t x y some=some τ):∃ aA,sE P σ t x y some=some aA/\τ=aA.set d (.lf (.v v))/\∀ (e n:Nat) (z:V),sF (σ.t e) n=some z->sF (aA.t e) n=some z:=by
 unfold sE at h;split at h
 ·rename_i n xs j i s rr hn gV;split at h
  ·rename_i hlen;cases jg:xs.all Lf.live with
   |false=>rw[jg]at h;cases h
   | true=>
    rw[jg,aq]at h;split at h
    ·rename_i vs τ1 qv;rw[US (v:=.lf (.v v)) (λ_=>rfl)]at qv;cases Nv:ji rr (λm=>(j+m) :: i :: s :: [rr]) xs.length 0 xs σ with
     |none=>rw[Nv]at qv;cases qv
     | some p=>
      rw[Nv]at qv;obtain⟨vs0,τ0⟩:=p;injection qv with qv;injection qv with e1 e2;subst e1 e2;split at h
      ·rename_i t' o' qn l ep;have anv:τ0.m rr=some (.sl (.sl t' (o'+2) qn l)):=ep;split at h
       ·rename_i ny;split at h
        ·rename_i hi;split at h
         ·rename_i hj;split at h
          ·rename_i e he;injection h with h
           refine⟨τ0.cL [rr] [] [(rr,.sl (.sl t' (o'+2) qn (l.set i e)))],?_,?_,λex nx z hz=>?_⟩
           ·simp only[sE,hn,gV,bB hlen,jg,aq,Nv,anv,bB ny,aG hi,bB hj,he]
           ·rw[<-h];exact S.amV _ rfl
           ·exact abV (G:=A.cL [rr] []) (g:=Lf.cL [rr] []) (λ_=>rfl) (λ_=>rfl) (UT _ _ _ _ _ _ Nv hz)
          ·cases h
         ·cases h
        ·cases h
       ·cases h
      ·cases h
    ·cases h
  ·cases h
 ·cases h
theorem abW{t:TypeId}{a b:Operand}(ho:o.op = .store t a b)(hd:o.dst=none)(hg:v7 (aH σ a) (aH σ b)=true):dU P N Φ σ o some=sE P σ t (aH σ a) (aH σ b) some:=by
 unfold dU;rw[show gF o.op=false by rw[ho];rfl,au];simp only[ju,ho,hd,hg,aq]
theorem anw[Inhabited Wd](cy:ir P Φ){K:S->Prop}{f L i:Nat}{oi:Oper}{τ:S}(hi:ops[i]?=some oi)(hr:nE ops L i=true)(hc:Um ops L σ i=true)(ep:dN P N Φ ops σ oi some=some τ)(H:Any P N Φ ops K f (L ||| 2 ^ i) τ):Any P N Φ ops K (f+1) L σ:=by
 unfold Um at hc;rw[hi]at hc;split at hc
 ·rename_i oi' j0 e1 anx;injection e1 with e1;subst e1;split at hc
  ·rename_i x n d oj iB Am Cf hj0;split at hc
   ·rename_i ty a b Nw abX abY;rw[bx,bx]at hc;obtain⟨⟨c1,c2⟩,c3⟩:=hc;obtain⟨z,hz⟩:=Option.isSome_iff_exists.1 c1;obtain⟨a1,a2,a3⟩:=Oper.apart_spec c3;have hpd:∀ j,j<ops.size->j≠i->L.testBit j=false->j=j0:=by
     intro j hj fq fS;have:j∈(List.range ops.size).filter (λj=>!(Nat.beq j i || L.testBit j)):=by
      rw[List.mem_filter];refine⟨jY.2 hj,?_⟩;rw[fS,Bool.or_false];cases hb:Nat.beq j i with
      |false=>rfl
      |true=>exact absurd (cr hb) fq
     rw[anx]at this;exact List.mem_singleton.1 this
    have rA:∀ σ2:S,sF (σ2.t x) n=some z->dN P N Φ ops σ2 oi some=jD N σ2 (some d) (.lf (.v z)) some:=by
     intro σ2 h2;unfold dN;simp only[gG,Cf];unfold dU;rw[show gF oi.op=true by rw[iB];rfl,aq,iB];simp only[gy];rw[show aH σ2 (.tmp x)=σ2.t x from rfl,ant h2,Am]
    have hN:∀ σ2:S,jD N σ2 (some d) (.lf (.v z)) some=some (σ2.set d (.lf (.v z))):=by
     intro σ2;rw[rA σ hz]at ep;obtain⟨_,g2⟩:=mC ep;exact(g2 σ2).at_ _
    have hE:τ=σ.set d (.lf (.v z)):=by
     rw[rA σ hz,hN]at ep;injection ep with ep;exact ep.symm
    rw[hE]at H
    refine UC (W:=0) hi (λj oj _ hj=>by rw[Nat.zero_testBit]at hj;cases hj) (λσ=>σ.set d (.lf (.v z)))
     (λL' aA=>sF (aA.t x) n=some z/\∀j,j<ops.size->j≠i->L'.testBit j=false->j=j0/\v7 (aH aA a) (aH aA b)=true)
     (λL' aA hI=>(rA aA hI.1).trans (hN aA)) (λL' aA j oj' gp hI dW fq fS _ Ak=>?_) f L σ (λj hj=>by rw[Nat.zero_testBit]at hj;cases hj) hr
     ⟨hz,λj hj fq fS=>⟨hpd j hj fq fS,c2⟩⟩ H
    obtain⟨rfl,hg⟩:=hI.2 j (ia.1 dW).1 fq fS;rw[hj0]at dW;injection dW with dW;subst dW;have ha:aH (aA.set d (.lf (.v z))) a=aH aA a:=Er (a1 d Am) _ (by rw[Nw];simp[Op.operands]);have hb:aH (aA.set d (.lf (.v z))) b=aH aA b:=Er (a1 d Am) _ (by rw[Nw];simp[Op.operands]);have jk:dN P N Φ ops (aA.set d (.lf (.v z))) oj some=sE P (aA.set d (.lf (.v z))) ty (aH aA a) (aH aA b) some:=by
     unfold dN;simp only[gG,abY];rw[abW Nw abX (by rw[ha,hb];exact hg),ha,hb]
    rw[jk]at Ak;obtain⟨σ2,h1,h2,h3⟩:=anu Ak
    refine⟨σ2,?_,h2,h3 _ _ _ hI.1,λk hk sJ qx=>?_⟩
    ·unfold dN;simp only[gG,abY];rw[abW Nw abX hg];exact h1
    ·exfalso;rw[tM,pV]at qx;have:=(hI.2 k hk sJ qx.1).1;subst this;simp at qx
   ·cases hc
  ·cases hc
 ·cases hc
theorem H8[Inhabited Wd](cy:ir P Φ):∀ (f L:Nat) (σ:S) (k:S->ak X),lU P N Φ ops f L σ k=some r->Any P N Φ ops (λτ=>k τ=some r) f L σ
 | 0,L,σ,k,h=>by
  unfold lU at h;split at h
  ·rename_i hr
   refine⟨λj=>?_,h⟩
   cases hj:nE ops L j with
   |false=>rfl
   |true=>have:=Ce.2 hj;rw[hr]at this;cases this
  ·cases h
 | f+1,L,σ,k,h=>by
  unfold lU at h;split at h
  ·rename_i hr
   refine⟨λ_=>h,λj hj=>?_⟩
   have:=Ce.2 hj;rw[hr]at this;cases this
  ·rename_i i hr;have hi:nE ops L i=true:=Ce.1 (by rw[hr];exact .head _)
   refine⟨λh=>absurd (h i) (by rw[hi];simp),λj hj=>?_⟩
   have hj:=Ce.2 hj;rw[hr]at hj;obtain rfl:=List.mem_singleton.1 hj;split at h
   next o ho=>obtain⟨τ,h1,h2⟩:=Ut cy h;exact⟨o,τ,ho,h2,H8 cy f _ τ k (Nu h1)⟩
   ·cases h
  ·rename_i rs hn hs;split at h
   ·rename_i i hf;have hc:=List.find?_some hf;have hm:=List.mem_of_find?_eq_some hf;have hi:=Ce.1 hm;split at h
    ·rename_i o ho;unfold abo at hc;rw[ho,bx,bx,bx]at hc;obtain⟨⟨⟨c1,c2⟩,c3⟩,c4⟩:=hc;have c1:gF o.op=true\/gG σ ops o=some false:=by
      rw[fE]at c1
      refine c1.imp id λc1=>?_
      split at c1
      next b hb=>rw[hb];cases b<;>first|rfl|cases c1
      ·cases c1
     obtain⟨v,h1,hF,hN⟩:=anq c1 c4 h;have xT:=UR _ _ c3;have c2:=cr c2;have H9:∀ j,(waits ops i ops.size 0 0).testBit j=true->(L ||| 2 ^ i).testBit j=false:=by
      intro j hj;have:((L |||2 ^ i) &&& waits ops i ops.size 0 0).testBit j=false:=by rw[c2];exact Nat.zero_testBit j
      rw[Nat.testBit_and,hj,Bool.and_true]at this;exact this
     have uM:∀ j,(waits ops i ops.size 0 0).testBit j=true->L.testBit j=false:=by
      intro j hj;have:=H9 j hj;rw[tM,pV]at this;exact this.1
     refine am3 (W:=waits ops i ops.size 0 0) (ok:=λt r=>!lE (mX t) ops i L (waits ops i ops.size 0 0) ops.size 0 && !lE (λok=>fH ok r) ops i L (waits ops i ops.size 0 0) ops.size 0 && !lE isApp ops i L (waits ops i ops.size 0 0) ops.size 0) (sH:=Nb Φ ops i L (waits ops i ops.size 0 0) σ) (n8:=n8 Φ ops i L (waits ops i ops.size 0 0) σ) (n7:=n7 Φ ops i L (waits ops i ops.size 0 0)) cy ho hN (λj oj dW hj=>?_) f L σ (λt r eH j oj dW fq fS gz=>?_) (λx hx j oj dW fq fS gz=>?_) (λx hx=>?_) (λt eH j oj dW fq fS gz=>?_) (λt eH j oj dW fq fS gz=>?_) (λj oj dW fq fS gz=>?_) uM hi hF (H8 cy f _ _ k (Nu h1))
     ·have bW:=(ia.1 dW).1;rcases xT j (by omega) (by omega)with e | e | e | e
      ·subst e;have:=H9 j hj;rw[tM]at this;simp at this
      ·rw[uM j hj]at e;cases e
      ·exact abR dW e.2
      ·rw[hj]at e;cases e.1
     ·have bW:=(ia.1 dW).1;rw[bx,bx,nq,nq,nq]at eH
      refine⟨λhd=>?_,?_,?_⟩
      ·have:=rB (g:=mX t) ops.size 0 j (by omega) (by omega) fq fS gz oj dW (by unfold mX;rw[hd];exact Nat.beq_refl t);rw[eH.1.1]at this;cases this
      ·cases hn:fH oj r with
       |false=>rfl
       | true=>
        have:=rB (g:=λok=>fH ok r) ops.size 0 j (by omega) (by omega) fq fS gz oj dW hn;rw[eH.1.2]at this;cases this
      ·cases hn:isApp oj with
       |false=>rfl
       | true=>
        have:=rB (g:=isApp) ops.size 0 j (by omega) (by omega) fq fS gz oj dW hn;rw[eH.2]at this;cases this
     ·have bW:=(ia.1 dW).1;unfold n8 at hx;rw[bx]at hx;intro hd;have:=rB (g:=mX x) ops.size 0 j (by omega) (by omega) fq fS gz oj dW (by unfold mX;rw[hd];exact Nat.beq_refl x);rw[this]at hx;cases hx.1
     ·unfold n8 at hx;rw[bx]at hx;have hx:=hx.2;cases hz:σ.t x with
      |aK r j=>rw[hz]at hx;exact hx
      |je cs=>trivial
      |_=>rw[hz]at hx;cases hx
     ·have bW:=(ia.1 dW).1;by_cases hd:oj.dst=some t
      ·refine .inr ?_;have uK:mX t oj=true:=by unfold mX;rw[hd];exact Nat.beq_refl t
       cases Eu:we oj with
       | false=>
        cases Ia:Na Φ ops i L (waits ops i ops.size 0 0) σ oj with
        | false=>
         have:=rB (g:=λok=>mX t ok && !(we ok ||Na Φ ops i L (waits ops i ops.size 0 0) σ ok)) ops.size 0 j (by omega) (by omega) fq fS gz oj dW (by rw[uK,Eu,Ia];rfl);unfold Nb at eH;rw[this]at eH;cases eH
        | true=>
         unfold Na at Ia;split at Ia
         next s x f uP=>exact .inr ⟨s,x,f,uP,Ia⟩
         ·cases Ia
       | true=>
        refine .inl ⟨rfl,?_⟩;refine H6 ?_;unfold B9;rw[fE]
        refine .inl (rB (g:=λo=>fH o t) _ 0 j (by omega) (by omega) fq fS gz oj dW ?_)
        obtain⟨ty,e,h1,_,h3,_⟩:=abA Eu;unfold fH;rw[hd,h1];exact Nat.beq_refl t
      ·exact .inl hd
     ·have bW:=(ia.1 dW).1;by_cases hd:oj.dst=some t
      ·refine .inr ?_;have uK:mX t oj=true:=by unfold mX;rw[hd];exact Nat.beq_refl t
       cases vV:pK oj with
       | false=>
        cases hma:isApp oj with
        |true=>exact .inr (.inl rfl)
        | false=>
         cases Cc:Ag Φ oj with
         |true=>exact .inr (.inr rfl)
         | false=>
          have:=rB (g:=λok=>mX t ok && !(pK ok ||isApp ok ||Ag Φ ok)) ops.size 0 j (by omega) (by omega) fq fS gz oj dW (by rw[uK,vV,hma,Cc];rfl);unfold n7 at eH;rw[this]at eH;cases eH
       | true=>
        refine .inl ?_;have eS:fH oj t=true:=by
         unfold pK at vV;rw[bx]at vV;have h1:=vV.1;unfold fH;rw[hd];split at h1
         next xB=>simp only[xB];exact Nat.beq_refl t
         next xB=>simp only[xB];exact Nat.beq_refl t
         next xB=>simp only[xB];exact Nat.beq_refl t
         ·cases h1
        have h9:=rB (g:=λo=>fH o t) ops.size 0 j (by omega) (by omega) fq fS gz oj dW eS;refine⟨rfl,?_,?_⟩
        ·refine H6 ?_;unfold B9;rw[fE];exact .inl h9
        ·unfold xN;rw[fE];exact .inl h9
      ·exact .inl hd
     ·have bW:=(ia.1 dW).1;rcases xT j (by omega) (by omega)with e | e | e | e
      ·exact absurd e fq
      ·rw[fS]at e;cases e
      ·rw[gz]at e;cases e.1
      ·obtain⟨e1,e2⟩:=e.2 oj dW
       refine⟨e2,?_,λn hn=>?_⟩
       ·rw[fE,fE,fE]at e1;rcases e1 with ((e1 | e1) | e1) | e1
        ·exact .inl e1
        ·cases e1
        ·obtain⟨ty,t,y,g1,g2,g3,g4,g5⟩:=anr e1;refine .inr (.inr (.inl ⟨ty,t,y,g1,g2,g3,?_⟩));cases hx:σ.t t with
         | aK r' j'=>
          show wg Φ ops i L (waits ops i ops.size 0 0) σ r'=true;refine H6 ?_;unfold B9;rw[fE]
          refine .inr (rB (g:=λo=>cX r' (tK Φ σ o) ||cX r' (B8 σ o)) _ 0 j (by omega) (by omega) fq fS gz oj dW ?_)
          rw[g5 r' j' hx,fE];exact .inr (xF.2 (.head _))
         |ptr k=>exact absurd hx (g4 k)
         |_=>trivial
        ·obtain⟨x,y,t1,t2,g1,g2,g3⟩:=ans e1
         refine .inr (.inr (.inr ⟨x,y,t1,t2,g1,g2,g3,λr' dG=>⟨?_,?_⟩⟩))
         ·refine H6 ?_;unfold B9;rw[fE]
          refine .inr (rB (g:=λo=>cX r' (tK Φ σ o) ||cX r' (B8 σ o)) _ 0 j (by omega) (by omega) fq fS gz oj dW ?_)
          have:B8 σ oj=[r']:=by simp only[B8,g1,dG]
          rw[this,fE];exact .inr (xF.2 (.head _))
         ·unfold xN;rw[fE]
          refine .inr (rB (g:=λo=>cX r' (M9 σ o)) _ 0 j (by omega) (by omega) fq fS gz oj dW ?_)
          have:M9 σ oj=[r']:=by simp only[M9,g1,dG]
          rw[this];exact xF.2 (.head _)
       ·have h9:=rB (g:=λo=>fH o n) ops.size 0 j (by omega) (by omega) fq fS gz oj dW hn;refine⟨?_,?_⟩
        ·refine H6 ?_;unfold B9;rw[fE];exact .inl h9
        ·unfold xN;rw[fE];exact .inl h9
    ·cases h
   ·split at h
    ·rename_i i hf;have hc:=List.find?_some hf;have hm:=List.mem_of_find?_eq_some hf;have hi:=Ce.1 hm;split at h
     ·rename_i o ho;unfold abp at hc;rw[ho,bx,bx,bx,bx,bx]at hc;obtain⟨⟨⟨⟨⟨c1,c2⟩,c3⟩,c4⟩,c5⟩,c6⟩:=hc;have xT:=UR _ _ c3;have c2:=cr c2;have H9:∀ j,(waits ops i ops.size 0 0).testBit j=true->(L ||| 2 ^ i).testBit j=false:=by
       intro j hj;have:((L |||2 ^ i) &&& waits ops i ops.size 0 0).testBit j=false:=by rw[c2];exact Nat.zero_testBit j
       rw[Nat.testBit_and,hj,Bool.and_true]at this;exact this
      have uM:∀ j,(waits ops i ops.size 0 0).testBit j=true->L.testBit j=false:=by
       intro j hj;have:=H9 j hj;rw[tM,pV]at this;exact this.1
      obtain⟨τ,h1,h2⟩:=Ut cy h;generalize hp:(λn=>lE (λo=>Ep o n) ops i L (waits ops i ops.size 0 0) ops.size 0)=p at c4 c5;have hpe:∀ j oj e,ops[j]?=some oj->j≠i->L.testBit j=false->(waits ops i ops.size 0 0).testBit j=false->oj.dst=some e->p e=true:=by
       intro j oj e dW fq fS gz hd;have bW:=(ia.1 dW).1;rw[<-hp];exact rB (g:=λo=>Ep o e) _ 0 j (by omega) (by omega) fq fS gz oj dW (by unfold Ep mX;rw[hd];exact Nat.beq_refl e)
      have Cd:∀ j oj,ops[j]?=some oj->j≠i->L.testBit j=false->(waits ops i ops.size 0 0).testBit j=false->Ul ops i L (waits ops i ops.size 0 0) σ oj=true/\o.apart ops oj=true:=by
       intro j oj dW fq fS gz;have bW:=(ia.1 dW).1;rcases xT j (by omega) (by omega)with e|e|e|e
       ·exact absurd e fq
       ·rw[fS]at e;cases e
       ·rw[gz]at e;cases e.1
       ·exact e.2 oj dW
      have vV:∀ j oj,ops[j]?=some oj->j≠i->L.testBit j=false->(waits ops i ops.size 0 0).testBit j=false->abU ops p σ oj:=by
       intro j oj dW fq fS gz;have hb:=(Cd j oj dW fq fS gz).1;unfold Ul at hb;rw[bx,bx,bx]at hb;obtain⟨⟨⟨b1,b2⟩,b3⟩,b4⟩:=hb;have Ng:∀t,lE (mX t) ops i L (waits ops i ops.size 0 0) ops.size 0=false->p t=false:=λt ht=>by rw[<-hp];exact ht
       refine⟨b1,?_,λy hy=>?_,λg c t hg ht=>?_⟩
       ·split at b2
        next b mR=>rw[mR,b2]
        ·cases b2
       ·have:=dQ.1 b3 y (by simpa using hy);rw[bx]at this
        refine⟨this.1,λt ht=>?_⟩
        have h2:=this.2;rw[ht]at h2;exact Ng t (by simpa using h2)
       ·rw[hg]at b4;simp only[ht]at b4;exact Ng t (by simpa using b4)
      have HX:∀ n,20000<=n->p n=false:=by
       intro n hn;cases nH:p n with
       |false=>rfl
       | true=>
        rw[<-hp]at nH;obtain⟨k',sI,kT,lV,hk3,hk4,Nx⟩:=abS _ _ nH;have hm:=(vV k' sI kT lV hk3 hk4).is;unfold pK at hm;rw[bx]at hm;have hm:=hm.2;unfold Ep mX at Nx;split at Nx
        next e he=>rw[he]at hm;have h1:e=n:=cr Nx;subst h1;exact absurd (cT hm) (Nat.not_le_of_gt (Nat.lt_succ_of_le hn))
        ·cases Nx
      have hE:τ=(dN P N Φ ops σ o some).getD σ:=by rw[h2];rfl
      refine UC (W:=waits ops i ops.size 0 0) ho (λj oj dW hj=>?_) (λσ=>(dN P N Φ ops σ o some).getD σ)
       (λL' aA=>((dN P N Φ ops aA o some).isSome=true/\Uj aA p o=true/\(tK Φ aA o).all (xP aA p)=true/\xO aA o=true)/\(∀ j,L'.testBit j=false->L.testBit j=false)/\
        ∀j oj,ops[j]?=some oj->j≠i->L'.testBit j=false->(waits ops i ops.size 0 0).testBit j=false->abU ops p aA oj)
       (λL' aA hI=>?_) (λL' aA j oj gp hI dW fq fS gz ep=>?_) f L σ uM hi ⟨⟨by rw[h2];rfl,c4,c5,c6⟩,λ_ h=>h,vV⟩ (by rw[<-hE];exact H8 cy f _ τ k (Nu h1))
      ·have bW:=(ia.1 dW).1;rcases xT j (by omega) (by omega)with e | e | e | e
       ·subst e;have:=H9 j hj;rw[tM]at this;simp at this
       ·rw[uM j hj]at e;cases e
       ·exact abR dW e.2
       ·rw[hj]at e;cases e.1
      ·obtain⟨z,hz⟩:=Option.isSome_iff_exists.1 hI.1.1;rw[hz];rfl
      ·obtain⟨⟨i1,i2,i3,i6⟩,i4,i5⟩:=hI;have ap:=(Cd j oj dW fq (i4 j fS) gz).2;obtain⟨m1,m2,m3,m4⟩:=i5 j oj dW fq fS gz;obtain⟨a1,a2,a3⟩:=Oper.apart_spec ap;obtain⟨z,hz⟩:=Option.isSome_iff_exists.1 i1;have hEz:(dN P N Φ ops aA o some).getD aA=z:=by rw[hz];rfl
       have ep:dN P N Φ ops z oj some=some gp:=by rw[<-hEz];exact ep
       have abZ:∀ t,(aA.t t).gF=true->o.dst≠some t->z.t t=aA.t t:=by
        intro t ht hd;unfold dN at hz;split at hz
        ·exact anp cy c1 i6 hz ht hd
        ·obtain⟨g1,_⟩:=mC hz;injection g1 with g1;rw[<-g1];cases Am:o.dst with
         |none=>rfl
         |some d=>exact cV _ _ _ (by rintro rfl;exact hd Am)
        ·cases hz
       have anz:∀ g c t,oj.guard=some (g,c)->(ops[g]?).bind (·.dst)=some t->(aA.t t).gF=true\/aA.t t = .skip:=by
        intro g c t hg ht;unfold gG at m2;rw[hg]at m2;simp only[ht]at m2;split at m2
        next b hb=>left;rw[hb];rfl
        next hb=>exact .inr hb
        ·cases m2
       have Cf:∀ g c t,oj.guard=some (g,c)->(ops[g]?).bind (·.dst)=some t->o.dst≠some t:=by
        intro g c t hg ht hd;refine a1 t hd (List.mem_append_right _ ?_);rw[hg];simp only[ht];simp
       have hwz:gG z ops oj=some true:=by
        rw[Aj (σ:=aA) λg c t hg ht=>?_]
        ·exact m2
        ·rcases anz g c t hg ht with h | h
         ·exact abZ t h (Cf g c t hg ht)
         ·exfalso;unfold gG at m2;rw[hg]at m2;simp only[ht,h]at m2;cases m2
       have anA:∀ y∈oj.op.operands,aH z y=aH aA y:=by
        intro y hy;cases y with
        | tmp t=>
         refine abZ t (m3 _ hy).1 λhd=>?_
         exact a1 t hd (List.mem_append_left _ (List.mem_filterMap.2 ⟨.tmp t,by simpa using hy,rfl⟩))
        |_=>rfl
       obtain⟨e,x,u,hd,he,hx,hu,Ak,oT⟩:=Ni m1 hwz ep;have Cg:=hpe j oj e dW fq (i4 j fS) gz hd;have sk:=a3 e hd;have dc:∀ y∈o.op.operands,(aH aA y).nr p=true/\y ≠ .tmp e:=by
        intro y hy;refine⟨dQ.1 i2 y (by simpa using hy),?_⟩;rintro rfl;exact sk (List.mem_append_left _ (List.mem_filterMap.2 ⟨.tmp e,by simpa using hy,rfl⟩))
       have Am:o.dst≠some e:=λh=>a2 e h hd
       have Ex:gG (cY e x u aA) ops o=gG aA ops o:=by
        have hw:∃ b,gG aA ops o=some b:=by
         unfold dN at hz;cases hw:gG aA ops o with
         |none=>rw[hw]at hz;cases hz
         |some b=>exact⟨b,rfl⟩
        obtain⟨b,hw⟩:=hw
        refine Aj λg c t' uo ht'=>?_
        rw[sL,cm ?_]
        ·exact A.wh (p:=p) (pb:=p) (Uu hw g c t' uo ht') Cg Cg
        ·rintro rfl;refine sk (List.mem_append_right _ ?_);rw[uo];simp only[ht'];simp
       have rA:dN P N Φ ops (cY e x u aA) o some=some (cY e x u z):=by
        unfold dN at hz ⊢;rw[Ex];split at hz
        next hw=>exact ano cy hx hu he Cg HX c1 i6 Am dc (λn hn=>dQ.1 i3 n hn) hz
        next hw=>obtain⟨g1,g2⟩:=mC hz;injection g1 with g1;refine((g2 (cY e x u aA)).at_ _).trans ?_;rw[<-g1,am4 Am rfl]
        ·cases hz
       have UU:∀y∈o.op.operands,aH (cY e x u aA) y=aH aA y:=λy hy=>xS (dc y hy).1 Cg (dc y hy).2
       have hL:∀ k,(L' ||| 2 ^ j).testBit k=false->L'.testBit k=false/\k≠j:=by
        intro k hk;rw[tM,pV]at hk;refine⟨hk.1,?_⟩;rintro rfl;simp at hk
       refine⟨cY e x u aA,oT aA m2 (λy hy=>(anA y hy).symm),?_,⟨by rw[rA];rfl,?_,?_,?_⟩,λk hk=>i4 k (hL k hk).1,λk sI hk sJ qx uN=>?_⟩
       ·rw[Ak,rA];rfl
       ·unfold Uj;rw[dQ];intro y hy;rw[UU y (by simpa using hy)];exact(dc y (by simpa using hy)).1
       ·have hrj:tK Φ (cY e x u aA) o=tK Φ aA o:=by
         unfold tK;split
         ·rename_i f' args gf uP;split
          ·refine Nh _ _ λy hy=>UU y ?_
           rw[uP];simp only[Op.operands,Call.operands];simp only[Array.mem_append]
           first
            |exact .inr (by simpa using hy)
            |exact .inl (by simpa using hy)
          ·rfl
         ·rfl
        rw[hrj,dQ];intro n hn;have h3:=dQ.1 i3 n hn;have br:n≠e:=by
         rintro rfl;have nH:p n=false:=by
          unfold tK at hn;split at hn
          ·rename_i f' args gf uP;split at hn
           ·refine H7 _ _ (λy hy=>(dc y ?_).1) n hn
            rw[uP];simp only[Op.operands,Call.operands];simp only[Array.mem_append]
            first
             |exact .inr (by simpa using hy)
             |exact .inl (by simpa using hy)
           ·cases hn
          ·cases hn
         rw[Cg]at nH;cases nH
        unfold xP at h3 ⊢;rw[oU,cm br];cases hm:aA.m n with
        |none=>rfl
        | some y=>
         cases y with
         |sl=>rfl
         |mp=>rfl
         |gh=>rfl
         | aC cs=>
          rw[hm]at h3;simp only[jM,bg.drop,qu.nD h3 Cg];exact h3
       ·unfold xO at i6 ⊢;split
        next ty t y uP=>rw[uP]at i6;have e1:(cY e x u aA).t t=aA.t t:=UU (.tmp t) (by rw[uP];simp[Op.operands]);rw[e1];exact i6
        ·rfl
       ·obtain⟨n1,n2,n3,n4⟩:=i5 k sI hk sJ (hL k qx).1 uN;have anB:∀ t,p t=false->t≠e:=by rintro t ht rfl;rw[Cg]at ht;cases ht
        have ab0:∀ t,(aA.t t).gF=true->p t=false->(cY e x u aA).t t=aA.t t:=by
         intro t ht htp;rw[sL,cm (anB t htp)];exact A.Nt ht e
        refine⟨n1,?_,λy hy=>?_,n4⟩
        ·rw[Aj (σ:=aA) λg c t hg ht=>?_]
         ·exact n2
         ·unfold gG at n2;rw[hg]at n2;simp only[ht]at n2;split at n2
          next b hb=>exact ab0 t (by rw[hb];rfl) (n4 g c t hg ht)
          next hb=>cases n2
          ·cases n2
        ·refine⟨?_,(n3 y hy).2⟩;cases y with
         | tmp t=>
          show ((cY e x u aA).t t).gF=true;rw[ab0 t (n3 _ hy).1 ((n3 _ hy).2 t rfl)];exact(n3 _ hy).1
         |const v=>exact(n3 _ hy).1
         |global g=>exact(n3 _ hy).1
         |func f=>exact(n3 _ hy).1
     ·cases h
    ·split at h
     ·rename_i i hf;have hc:=List.find?_some hf;have hm:=List.mem_of_find?_eq_some hf;have hi:=Ce.1 hm;split at h
      next o ho=>obtain⟨τ,h1,h2⟩:=Ut cy h;exact anw cy ho hi hc h2 (H8 cy f _ τ k (Nu h1))
      ·cases h
     ·cases h
theorem Ey{b:Bool}(h:gG σ ops o=some b)(hR:Rl w0 N aj ρ σ a w):Region.wanted o (yielded ops a.tmps)=b:=by
 unfold gG at h;split at h
 next hg=>injection h with h;subst h;simp[Region.wanted,hg]
 ·rename_i j want hg;split at h
  ·rename_i t ht;have Ez:=hR.tmp t;rw[jn]at Ez;split at h
   ·rename_i c hc;rw[hc]at Ez;have hv:=Ez.2.zq;injection h with h;subst h;cases hx:a.tmps[t]? with
    |none=>rw[hx]at hv;cases hv
    | some v=>
     rw[hx]at hv;have hv:v = .bool c:=hv;subst hv;simp only[Region.wanted,hg,yielded,ht,Option.bind_some,hx];cases c<;>cases want<;>rfl
   ·rename_i hc;rw[hc]at Ez;injection h with h;subst h;cases hx:a.tmps[t]? with
    |none=>simp[Region.wanted,hg,yielded,ht,hx]
    | some v=>
     rw[hx]at Ez;have hv:v=undef:=Ez;subst hv;simp only[Region.wanted,hg,yielded,ht,Option.bind_some,hx,undef];cases want<;>rfl
   ·cases h
  ·cases h
structure uQ (ops:Array Oper) (pM:Array Bool) (L:Nat):Prop where
 size:pM.size=ops.size
 bit:∀j,j<ops.size->pM[j]?=some (L.testBit j)
 out:∀j,ops.size<=j->L.testBit j=false
theorem uQ.ab1{pM:Array Bool}{L:Nat}(h:uQ ops pM L)(j:Nat):pM.getD j false=L.testBit j:=by
 rw[jn];by_cases hj:j<ops.size
 ·rw[h.bit j hj];rfl
 ·rw[h.out j (by omega),Array.getElem?_eq_none (by rw[h.size];omega)];rfl
theorem uQ.ready{pM:Array Bool}{L:Nat}(h:uQ ops pM L)(j:Nat):j∈Region.ready .any ops pM ↔ nE ops L j=true:=by
 rw[mem_ready,HV];constructor
 ·rintro⟨h0,o,ho,oT⟩;have hj:=(ia.1 ho).1;rw[jn,h.bit j hj]at h0;exact⟨h0,o,ho,λe he hb=>by rw[<-h.ab1];exact oT e he hb⟩
 ·rintro⟨h0,o,ho,oT⟩;have hj:=(ia.1 ho).1;exact⟨by rw[jn,h.bit j hj];exact h0,o,ho,λe he hb=>by rw[h.ab1];exact oT e he hb⟩
theorem uQ.set{pM:Array Bool}{L i:Nat}(h:uQ ops pM L)(hi:i<ops.size):uQ ops (pM.setIfInBounds i true) (L ||| 2 ^ i):=by
 refine⟨by simp[h.size],λj hj=>?_,λj hj=>?_⟩
 ·rw[tM];by_cases Hz:i=j
  ·subst Hz;rw[Array.getElem?_setIfInBounds_self_of_lt (by rw[h.size];exact hi)];simp
  ·rw[Array.getElem?_setIfInBounds_ne Hz,h.bit j hj];simp[Hz]
 ·rw[tM,h.out j hj];have:i≠j:=by omega
  simpa using this
theorem uQ.start:uQ ops (Array.replicate ops.size false) 0:=
 ⟨by simp,λj hj=>by simp[hj],λj _=>Nat.zero_testBit j⟩
theorem anC(cy:ir P Φ){k:S->ak X}{i:Nat}(hi:ops[i]?=some o)(h:dN P N Φ ops σ o k=some r):∃ τ,k τ=some r/\∀ a w (K:Act->World->Prop) (Q:Exit->Act->World->Prop),R w0 N σ a w->(∀ a' w',R w0 N τ a' w'->K a' w')->wpOp P ops Q i K a w:=by
 unfold dN at h;split at h
 ·rename_i hw;obtain⟨τ,h1,iB⟩:=Un (w0:=w0) cy h
  refine⟨τ,h1,λa w K Q hR hK=>?_⟩
  obtain⟨aj,ρ,aV⟩:=hR;unfold wpOp;rw[hi];simp only[Ey hw aV,if_true];exact .inl (iB a w K Q ⟨aj,ρ,aV⟩ hK)
 ·rename_i hw;unfold jD at h;split at h
  ·rename_i hd
   refine⟨σ,h,λa w K Q hR hK=>?_⟩
   obtain⟨aj,ρ,aV⟩:=hR;unfold wpOp;rw[hi];simp only[Ey hw aV,hd];exact hK _ _ ⟨aj,ρ,aV⟩
  ·rename_i d hd;cases hN:Nat.blt d N with
   |false=>rw[hN]at h;cases h
   | true=>
    rw[hN,aq]at h
    refine⟨_,h,λa w K Q hR hK=>?_⟩
    obtain⟨aj,ρ,aV⟩:=hR;unfold wpOp;rw[hi];simp only[Ey hw aV,hd];exact hK _ _ ⟨aj,ρ,aV.set rfl (by have:=cT hN;omega)⟩
 ·cases h
theorem ab2(cy:ir P Φ){K:S->Prop}{Q:Exit->Act->World->Prop}(hQ:∀ τ,K τ->∀ a w,R w0 N τ a w->Q .normal a w):
  ∀(f L:Nat) (σ:S) (pM:Array Bool),Any P N Φ ops K f L σ->uQ ops pM L->∀a w,R w0 N σ a w->wpAny P .any ops Q f pM a w
 | 0,L,σ,pM,h,hs,a,w,hR=>by
  refine⟨List.eq_nil_iff_forall_not_mem.2 λj hj=>?_,hQ σ h.2 a w hR⟩
  rw[hs.ready,h.1 j]at hj;cases hj
 | f+1,L,σ,pM,h,hs,a,w,hR=>by
  refine⟨λhr=>hQ σ (h.1 λj=>?_) a w hR,λj hj=>?_⟩
  ·cases hj:nE ops L j with
   |false=>rfl
   | true=>
    have:=(hs.ready j).2 hj;rw[hr]at this;cases this
  ·have pg:=(hs.ready j).1 hj;obtain⟨o,τ,ho,hd,hA⟩:=h.2 j pg;obtain⟨gp,h1,hw⟩:=anC (w0:=w0) cy ho hd;injection h1 with h1;subst h1;exact hw a w _ Q hR λa' w' aV=>ab2 cy hQ f (L |||2 ^ j) _ _ hA (hs.set (abT pg)) a' w' aV
theorem R.drawn(hR:R w0 N σ a w):R w0 N σ a { w with drawn:=w.drawn+1 }:=by
 obtain⟨aj,ρ,h⟩:=hR;exact⟨aj,ρ,h.grow ⟨rfl,rfl,rfl,gj _,λ_ _=>rfl⟩ (λ_ _=>rfl) (λb k hb hl=>absurd (h.dF b k hl).2.1 (Nat.not_lt.2 hb))⟩
theorem anD[Inhabited Wd](cy:ir P Φ){id:Nat}{k:S->ak X}(hm:P.follows .mixedOrders=true)(h:lU P N Φ ops ops.size 0 σ k=some r){Q:Exit->Act->World->Prop}(hQ:∀ τ,k τ=some r->∀ a w,R w0 N τ a w->Q .normal a w)(hR:R w0 N σ a w):
  (Code.region id ops true).wp P Q a w:=
 wp_region_any hm (ab2 cy hQ _ _ _ _ (H8 cy _ _ _ _ h) uQ.start a _ hR.drawn)
end
end Go.Proofs.YtecofnkoloihpaaGreat
namespace Go.Proofs.YtecofnkoloihpaaGreat
open Go.RowKit
set_option linter.unusedVariables false
section
variable {P:Program} {w w':World} {w0:Wd} {B N:Nat} {aj aD:bM} {ρ ρ':Nat->Loc} {σ:S} {a:Act} {X:Type} {d e:Nat} {r:X} {o:Oper} {Φ:fo} {x:bg} {u:A}
/-! Values. -/
end
end Go.Proofs.YtecofnkoloihpaaGreat
namespace Go.Proofs.YtecofnkoloihpaaGreat
open Go.RowKit
set_option linter.unusedVariables false
section
variable {P:Program} {w w':World} {w0:Wd} {B N:Nat} {aj aD:bM} {ρ ρ':Nat->Loc} {σ:S} {a:Act} {X:Type} {d:Nat} {r:X} {o:Oper} {Φ:fo} {Λ:oQ}
theorem anE{dst:ak Tmp}{g:Bool}{k:S->ak X}(h:pI σ dst g k=some r):∃ aA,k aA=some r/\∀ a w,R w0 N σ a w->R w0 N aA a w:=by
 unfold pI at h;cases g with
 |false=>exact⟨σ,h,λ_ _ h=>h⟩
 | true=>
  rw[aq]at h;split at h
  ·rename_i d;split at h
   ·rename_i b hb;have key:∀ c:Bool,b=c->∀ a w,R w0 N σ a w->R w0 N (σ.set d (.lf (.v (.bool c)))) a w:=by
     rintro c rfl a w ⟨aj,ρ,hR⟩
     refine⟨aj,ρ,hR.below,hR.dF,hR.root,λk=>?_,hR.size,hR.defers,hR.fix,hR.ef⟩
     show RA w w0.heap.size aj ρ (cB σ.t d (.lf (.v (.bool b))) k) _;by_cases hk:k=d
     ·subst hk;rw[cG,<-hb];exact hR.tmp k
     ·rw[cV _ _ _ hk];exact hR.tmp k
    cases b with
    |true=>exact⟨_,h,key true rfl⟩
    |false=>exact⟨_,h,key false rfl⟩
   ·exact⟨σ,h,λ_ _ h=>h⟩
  ·exact⟨σ,h,λ_ _ h=>h⟩
theorem Ny(cy:ir P Φ)(ops:Array Oper):∀ (rest:af Oper) (j:Nat) (σ:S) (k:S->ak X),v9 P N Φ ops j rest σ k=some r->∃ aA,k aA=some r/\∀ a w,R w0 N σ a w->∀ Q,(∀ a' w',R w0 N aA a' w'->Q Exit.normal a' w')->wpList P ops Q rest a w
 |[],j,σ,k,h=>⟨σ,h,λa w hR Q hQ=>hQ a w hR⟩
 | o :: rest,j,σ,k,h=>by
  unfold v9 at h;split at h
  ·rename_i Ex;obtain⟨mW,h1,iB⟩:=amA (w0:=w0) cy h;obtain⟨σ2,h2,qW⟩:=anE (w0:=w0) (N:=N) h1;obtain⟨Ib,h3,kP⟩:=Ny cy ops rest (j+1) σ2 k h2
   refine⟨Ib,h3,λa w hR Q hQ=>?_⟩
   obtain⟨aj,ρ,aV⟩:=hR;simp only[wpList,Ey Ex aV,if_true];exact .inl (iB a w _ Q ⟨aj,ρ,aV⟩ λa' w' tG=>kP a' w' (qW a' w' tG) Q hQ)
  ·rename_i Ex;unfold jD at h;split at h
   ·rename_i hd;obtain⟨Ib,h3,kP⟩:=Ny cy ops rest (j+1) σ k h
    refine⟨Ib,h3,λa w hR Q hQ=>?_⟩
    obtain⟨aj,ρ,aV⟩:=hR;simp only[wpList,Ey Ex aV,hd];exact kP a w ⟨aj,ρ,aV⟩ Q hQ
   ·rename_i d hd;cases hN:Nat.blt d N with
    |false=>rw[hN]at h;cases h
    | true=>
     rw[hN,aq]at h;obtain⟨Ib,h3,kP⟩:=Ny cy ops rest (j+1) _ k h
     refine⟨Ib,h3,λa w hR Q hQ=>?_⟩
     obtain⟨aj,ρ,aV⟩:=hR;simp only[wpList,Ey Ex aV,hd];exact kP _ w ⟨aj,ρ,aV.set rfl (by have:=cT hN;omega)⟩ Q hQ
  ·cases h
theorem Ic(cy:ir P Φ):∀ (c:Code) (σ:S) (k:Exit->S->ak X),iI P N Φ Λ c σ k=some r->rz P N Λ (occs c)->AW P w0 N c σ λe aA=>k e aA=some r:=by
 intro c
 induction c with
 |skip=>exact λσ k h _ a w hR=>wp_skip ⟨σ,h,hR⟩
 |label l=>exact λσ k h _ a w hR=>wp_label ⟨σ,h,hR⟩
 |ret=>exact λσ k h _ a w hR=>wp_ret ⟨σ,h,hR⟩
 |exit id=>exact λσ k h _ a w hR=>wp_exit ⟨σ,h,hR⟩
 | region id ops draw=>
  intro σ k h _ a w hR;cases draw with
  | true=>
   simp only[iI]at h;cases hm:P.follows .mixedOrders with
   |false=>rw[hm]at h;cases h
   | true=>
    rw[hm,aq]at h
    haveI:Inhabited Wd:=⟨w0⟩
    exact anD cy hm h (λτ ep a w hR=>⟨τ,ep,hR⟩) hR
  | false=>
   simp only[iI]at h;obtain⟨aA,h',hw⟩:=Ny (w0:=w0) cy ops _ _ _ _ h;exact wp_region_list (hw a w hR _ λa' w' aV=>⟨aA,h',aV⟩)
 | seq x y Ch Ci=>
  intro σ k h iS a w hR;simp only[iI]at h;have h1:=Ch σ _ h (λp hp=>iS p (List.mem_append_left _ hp))
  refine wp_seq (wp_mono (h1 a w hR) λe a' w' he=>?_)
  obtain⟨aA,hk,aV⟩:=he;cases e with
  |normal=>exact Ci aA k hk (λp hp=>iS p (List.mem_append_right _ hp)) a' w' aV
  |_=>exact⟨aA,hk,aV⟩
 | cond c x y Ch Ci=>
  intro σ k h iS a w hR;simp only[iI]at h;split at h
  ·rename_i b hb;obtain⟨aj,ρ,aV⟩:=hR;have hc:=aV.aH c;rw[hb]at hc;have hcv:=hc.2.zq;cases b with
   |true=>exact wp_cond_true hcv (Ch σ k h (λp hp=>iS p (List.mem_append_left _ hp)) a w ⟨aj,ρ,aV⟩)
   |false=>exact wp_cond_false hcv (Ci σ k h (λp hp=>iS p (List.mem_append_right _ hp)) a w ⟨aj,ρ,aV⟩)
  ·cases h
 | block id c ih=>
  intro σ k h iS a w hR;simp only[iI]at h;split at h
  next b hb=>exact iS (id,c) (.head _) b hb X σ k r w0 h a w hR
  ·have h1:=ih σ _ h (λp hp=>iS p (.tail _ hp))
   refine wp_block (wp_mono (h1 a w hR) λe a' w' he=>?_)
   obtain⟨aA,hk,aV⟩:=he;cases e with
   | exit sG=>
    simp only[Exit.inBlock];by_cases hid:sG=id
    ·simp only[hid,if_true]at hk ⊢;exact⟨aA,hk,aV⟩
    ·simp only[hid,if_false]at hk ⊢;exact⟨aA,hk,aV⟩
   |_=>exact⟨aA,hk,aV⟩
 |_=>exact λσ k h=>by simp[iI]at h
end
/-! What a loop carries. -/
inductive Lm where
 |int (k:IntKind)
 |bool
 |str
 |own (r:Nat)
 |az (t:TC) (o:Nat)
def Lm.T:Lm->Type
 |.int _=>Int
 |.bool=>Bool
 |.str=>ByteArray
 |.own _=>ah
 |.az t _=>af (Proofs.YtecofnkoloihpaaGreat.T t)
def Lm.mk:(m:Lm)->m.T->Lf
 |.int k,n=>.v (.int k n)
 |.bool,b=>.v (.bool b)
 |.str,s=>.v (.str s)
 |.own r,_=>.own [r]
 |.az t o,l=>.v (.sl t o false l)
def Lm.rd:(m:Lm)->Lf->ak m.T
 |.int k,.v (.int k' n)=>if k'=k then some n else none
 |.bool,.v (.bool b)=>some b
 |.str,.v (.str s)=>some s
 |.own r,.own [r']=>bif Nat.beq r' r then some ()else none
 |.az t o,.v x=>bif Nat.blt o 2 then x.en t o else none
 |_,_=>none
inductive Tm where
 |lf (m:Lm)
 |aK (r j:Nat)
 |fp (t:TC) (o:Nat)
 |fc (f:Nat) (t:TC)
 |ag (t:TC)
 |pk (r n:Nat)
def Tm.T:Tm->Type
 |.lf m=>m.T
 |.aK _ _=>ah
 |.fp t _=>Proofs.YtecofnkoloihpaaGreat.T t
 |.fc _ t=>Proofs.YtecofnkoloihpaaGreat.T t
 |.ag t=>Proofs.YtecofnkoloihpaaGreat.T t
 |.pk _ _=>ah
def Tm.mk:(m:Tm)->m.T->A
 |.lf m,x=>.lf (m.mk x)
 |.aK r j,_=>.aK r j
 |.fp t o,x=>.je (enc t o x)
 |.fc f t,x=>.mm f (enc t 0 x)
 |.ag t,x=>.agg ((enc t 0 x).map .v)
 |.pk r n,_=>.pk r n
def Tm.rd:(m:Tm)->A->ak m.T
 |.lf m,.lf x=>m.rd x
 |.aK r j,.aK r' j'=>bif Nat.beq r' r&&Nat.beq j' j then some ()else none
 |.fp t o,.je cs=>bif Nat.blt o 2 then dec t o cs else none
 |.fc f t,.mm f' cs=>bif Nat.beq f' f then dec t 0 cs else none
 | .ag t,.agg cs=>(match vT cs with
  |some vs=>dec t 0 vs
  |none=>none)
 |.pk r n,.pk r' n'=>bif Nat.beq r' r&&Nat.beq n' n then some ()else none
 |_,_=>none
def Ie:af Lm->Type
 |[]=>ah
 |m::ms=>m.T×Ie ms
def xU:(ms:af Lm)->Ie ms->af Lf
 |[],_=>[]
 |m::ms,x=>m.mk x.1::xU ms x.2
def EA:(ms:af Lm)->af Lf->ak (Ie ms)
 |[],[]=>some ()
 | m :: ms,x :: xs=>match m.rd x,EA ms xs with
  |some y,some ys=>some (y,ys)
  |_,_=>none
 |_,_=>none
inductive Rm where
 |sl (t:TC) (o:Nat)
 |st (t:TC)
 |aC (ms:List Lm)
 |mp
def Rm.T:Rm->Type
 |.sl t _=>af (Proofs.YtecofnkoloihpaaGreat.T t)
 |.st t=>Proofs.YtecofnkoloihpaaGreat.T t
 |.aC ms=>Ie ms
 |.mp=>af (Int×Bool)
def Rm.mk:(m:Rm)->m.T->bg
 |.sl t o,l=>.sl (.sl t o false l)
 |.st t,x=>.aC ((enc t 0 x).map .v)
 |.aC ms,x=>.aC (xU ms x)
 |.mp,l=>.mp l
def Rm.rd:(m:Rm)->bg->ak m.T
 |.sl t o,.sl y=>y.en t o
 | .st t,.aC cs=>(match vT cs with
  |some vs=>dec t 0 vs
  |none=>none)
 |.aC ms,.aC cs=>EA ms cs
 |.mp,.mp l=>some l
 |_,_=>none
def EB:af (Nat×Tm)->Type
 |[]=>ah
 |(_,m)::ms=>m.T×EB ms
def xV:(ms:af (Nat×Tm))->EB ms->Nat->A
 |[],_,_=>.undef
 |(n,m)::ms,x,k=>bif Nat.beq k n then m.mk x.1 else xV ms x.2 k
def Ig:(ms:af (Nat×Tm))->(Nat->A)->ak (EB ms)
 |[],_=>some ()
 | (n,m) :: ms,t=>match m.rd (t n),Ig ms t with
  |some x,some xs=>some (x,xs)
  |_,_=>none
def xW:af (Nat×Rm)->Type
 |[]=>ah
 |(_,m)::ms=>m.T×xW ms
def xX:(ms:af (Nat×Rm))->xW ms->Nat->ak bg
 |[],_,_=>none
 |(n,m)::ms,x,k=>bif Nat.beq k n then some (m.mk x.1)else xX ms x.2 k
def EC:(ms:af (Nat×Rm))->(Nat->ak bg)->ak (xW ms)
 |[],_=>some ()
 | (n,m) :: ms,t=>match (t n).bind m.rd,EC ms t with
  |some x,some xs=>some (x,xs)
  |_,_=>none
structure kU where
 ts:List (Nat×Tm)
 rs:List (Nat×Rm)
def kU.St(τ:kU):Type:=EB τ.ts×xW τ.rs
def kU.mk'(τ:kU)(x:τ.St):S:=⟨xV τ.ts x.1,xX τ.rs x.2⟩
def kU.Nz(τ:kU)(σ:S):ak τ.St:=match Ig τ.ts σ.t,EC τ.rs σ.m with
 |some x,some y=>some (x,y)
 |_,_=>none
/-! Roots by other names. -/
abbrev Rn:=af (Nat×Nat)
def Rn.inv(rs:Rn)(n:Nat):ak Nat:=(rs.find? λp=>Nat.beq p.2 n).map (·.1)
def Rn.add(rs:Rn)(r n:Nat):Rn:=bif rs.any (λp=>Nat.beq p.1 r&&Nat.beq p.2 n)then rs else (r,n)::rs
def UW(n:Nat):ak Nat->Bool
 |some m=>Nat.beq m n
 |none=>false
def Rn.ok(rs:Rn):Bool:=rs.all λp=>(Nat.beq p.1 p.2 ||Nat.ble 60000 p.2)&&UW p.2 (rs.lookup p.1)&&UW p.1 (rs.inv p.2)
def Lf.eY(rs:Rn):Lf->Lf
 |.v x=>.v x
 | .own [r]=>(match rs.lookup r with
  |some n=>.own [n]
  |none=>.dead)
 |_=>.dead
def A.eY(rs:Rn):A->A
 |.lf x=>.lf (x.eY rs)
 | .aK r j=>(match rs.lookup r with
  |some n=>.aK n j
  |none=>.undef)
 |.je cs=>.je cs
 |.mm f cs=>.mm f cs
 |.agg cs=>.agg (cs.map (Lf.eY rs))
 |_=>.undef
def bg.eY(rs:Rn):bg->bg
 |.aC cs=>.aC (cs.map (Lf.eY rs))
 |.sl y=>.sl y
 |.mp l=>.mp l
 |.gh _=>.gh []
def S.eY(rs:Rn)(σ:S):S:=⟨λk=>(σ.t k).eY rs,λn=>match rs.inv n with
 |some r=>(σ.m r).map (bg.eY rs)
 |none=>none⟩
def rnL:Lm->Lf->Rn->Rn
 |.own n,.own [r],rs=>rs.add r n
 |_,_,rs=>rs
def UX:af Lm->af Lf->Rn->Rn
 |m::ms,x::xs,rs=>UX ms xs (rnL m x rs)
 |_,_,rs=>rs
def rnT:Tm->A->Rn->Rn
 |.lf m,.lf x,rs=>rnL m x rs
 |.aK n j,.aK r j',rs=>rs.add r n
 |_,_,rs=>rs
def ab3(t:Nat->A):af (Nat×Tm)->Rn->Rn
 |[],rs=>rs
 |(k,m)::ms,rs=>ab3 t ms (rnT m (t k) rs)
def ab4(m:Nat->ak bg):af (Nat×Rm)->Rn->Rn
 |[],rs=>rs
 | (n,x) :: xs,rs=>ab4 m xs (match x,rs.inv n with
  | .aC ms,some r=>(match m r with
   |some (.aC cs)=>UX ms cs rs
   |_=>rs)
  | .aC ms,none=>(match m n with
   |some (.aC cs)=>UX ms cs (rs.add n n)
   |_=>rs)
  |_,some _=>rs
  |_,none=>rs.add n n)
def kU.rn(τ:kU)(σ:S):Rn:=ab4 σ.m τ.rs (ab3 σ.t τ.ts [])
def UY(rs:af (Nat×Rm))(p:Nat×Tm)(σ:S):S:=match p.2,σ.t p.1 with
 | .lf (.own n),.lf (.v .nil)=>(match rs.lookup n with
  |some (.sl t o)=>bif Nat.ble 60000 n then ⟨cB ((σ.drop n).root n (.sl (.sl t o false []))).t p.1 (.lf (.own [n])),((σ.drop n).root n (.sl (.sl t o false []))).m⟩else σ
  |_=>σ)
 |_,_=>σ
def NA(rs:af (Nat×Rm)):af (Nat×Tm)->S->S
 |[],σ=>σ
 |p::ps,σ=>NA rs ps (UY rs p σ)
def UZ(n j r:Nat)(σ:S):S:=match σ.m r with
 | some (.aC cs)=>(match cs[j]? with
  |some (.v .nil)=>⟨σ.t,cB σ.m r (some (.aC (cs.set j (.own [n]))))⟩
  |_=>σ)
 |_=>σ
def U0(rs:af (Nat×Rm))(n j r:Nat)(σ:S):S:=match rs.lookup n with
 |some (.sl t o)=>bif Nat.ble 60000 n then UZ n j r ((σ.drop n).root n (.sl (.sl t o false [])))else σ
 |_=>σ
def Cj(rs:af (Nat×Rm))(r:Nat):Nat->af Lm->af Lf->S->S
 |j,.own n::ms,.v .nil::cs,σ=>Cj rs r (j+1) ms cs (U0 rs n j r σ)
 |j,_::ms,_::cs,σ=>Cj rs r (j+1) ms cs σ
 |_,_,_,σ=>σ
def Ih(rs:af (Nat×Rm)):af (Nat×Rm)->S->S
 |[],σ=>σ
 | (r,.aC ms) :: ps,σ=>Ih rs ps (match σ.m r with
  |some (.aC cs)=>Cj rs r 0 ms cs σ
  |_=>σ)
 |_::ps,σ=>Ih rs ps σ
def kU.rd1(τ:kU)(σ:S):ak τ.St:=bif (τ.rn σ).ok then τ.Nz (Ih τ.rs τ.rs (σ.eY (τ.rn σ)))else none
def kU.rd(τ:kU)(σ:S):ak τ.St:=match τ.Nz σ with
 |some x=>some x
 |none=>τ.rd1 (NA τ.rs τ.ts σ)
section
variable {P:Program} {w w':World} {w0:Wd} {B N:Nat} {aj aD:bM} {ρ ρ':Nat->Loc} {σ:S} {a:Act} {X:Type} {d:Nat} {r:X} {o:Oper} {Φ:fo} {Λ:oQ}
theorem Lm.rC{m:Lm}{x:Lf}{y:m.T}(h:m.rd x=some y){u:Value}(hu:dY w B aj ρ x u):dY w B aj ρ (m.mk y) u:=by
 unfold Lm.rd at h;split at h
 ·split at h
  next hk=>subst hk;injection h with h;subst h;exact hu
  ·cases h
 ·injection h with h;subst h;exact hu
 ·injection h with h;subst h;exact hu
 ·rename_i r' r'';cases hb:Nat.beq r'' r' with
  |false=>rw[hb]at h;cases h
  |true=>obtain rfl:=cr hb;exact hu
 ·rename_i t o x;cases hb:Nat.blt o 2 with
  |false=>rw[hb]at h;cases h
  | true=>
   rw[hb]at h;have h:V.en t o x=some y:=h;have:=cT hb;exact⟨by simp[V.az];omega,hu.2.wk (V.eO h)⟩
 ·cases h
theorem Tm.rC{m:Tm}{x:A}{y:m.T}(h:m.rd x=some y){u:Value}(hu:RA w B aj ρ x u):RA w B aj ρ (m.mk y) u:=by
 cases m with
 | lf m=>
  cases x with
  |lf x=>exact Lm.rC (m:=m) h hu
  |_=>cases h
 | aK r j=>
  cases x with
  | aK r' j'=>
   have h:(bif Nat.beq r' r&&Nat.beq j' j then some ()else none)=some y:=h;cases hb:(Nat.beq r' r&&Nat.beq j' j)with
   |false=>rw[hb]at h;cases h
   | true=>
    rw[bx]at hb;obtain rfl:=cr hb.1;obtain rfl:=cr hb.2;exact hu
  |_=>cases h
 | fp t o=>
  cases x with
  | je cs=>
   have h:(bif Nat.blt o 2 then dec t o cs else none)=some y:=h;cases hb:Nat.blt o 2 with
   |false=>rw[hb]at h;cases h
   | true=>
    rw[hb,aq]at h;have ho:=cT hb;have hk:=nW t o cs y h;obtain⟨b,off,h1,h2,h3,h4⟩:=hu
    refine⟨b,off,h1,h2,h3,λj z hz=>?_⟩
    have hj:j<cs.length:=by rw[hk.1];exact(dS.1 hz).1
    have hv:=cu hj;obtain⟨g1,v,g2,g3⟩:=h4 j _ hv;exact⟨mj t o y (by omega) j z hz,v,g2,g3.wk (hk.2 j _ z hv hz)⟩
  |_=>cases h
 | fc f t=>
  cases x with
  | mm f' cs=>
   have h:(bif Nat.beq f' f then dec t 0 cs else none)=some y:=h;cases hb:Nat.beq f' f with
   |false=>rw[hb]at h;cases h
   | true=>
    rw[hb,aq]at h;obtain rfl:=cr hb;have hk:=nW t 0 cs y h;obtain⟨pv,e0,b,off,h1,h2,h3,h4⟩:=hu
    refine⟨pv,e0,b,off,h1,h2,h3,λj z hz=>?_⟩
    have hj:j<cs.length:=by rw[hk.1];exact(dS.1 hz).1
    have hv:=cu hj;obtain⟨g1,v,g2,g3⟩:=h4 j _ hv;exact⟨mj t 0 y (by omega) j z hz,v,g2,g3.wk (hk.2 j _ z hv hz)⟩
  |_=>cases h
 | ag t=>
  cases x with
  | agg cs=>
   have h:(match vT cs with|some vs=>dec t 0 vs|none=>none)=some y:=h;cases gW:vT cs with
   |none=>rw[gW]at h;cases h
   | some vs=>
    rw[gW]at h;have h:dec t 0 vs=some y:=h;have eR:=MC _ _ gW;have hk:=nW t 0 vs y h;obtain⟨us,h1,h2,h3⟩:=hu
    refine⟨us,h1,?_,λj x hx=>?_⟩
    ·rw[h2,eR,gB,gB,hk.1]
    ·rw[dP]at hx;cases hz:(enc t 0 y)[j]? with
     |none=>rw[hz]at hx;cases hx
     | some z=>
      rw[hz]at hx;injection hx with hx;subst hx;have hj:j<vs.length:=by rw[hk.1];exact(dS.1 hz).1
      have hv:=cu hj;obtain⟨v,g1,g2⟩:=h3 j (.v vs[j]) (by rw[eR,dP,hv];rfl);exact⟨v,g1,mj t 0 y (by omega) j z hz,g2.2.wk (hk.2 j _ z hv hz)⟩
  |_=>cases h
 | pk r n=>
  cases x with
  | pk r' n'=>
   have h:(bif Nat.beq r' r&&Nat.beq n' n then some ()else none)=some y:=h;cases hb:(Nat.beq r' r&&Nat.beq n' n)with
   |false=>rw[hb]at h;cases h
   | true=>
    rw[bx]at hb;obtain rfl:=cr hb.1;obtain rfl:=cr hb.2;exact hu
  |_=>cases h
theorem ab5:∀ (ms:af Lm) (cs:af Lf) (y:Ie ms),EA ms cs=some y->(xU ms y).length=cs.length/\∀ (j:Nat) x,(xU ms y)[j]?=some x->∃ z,cs[j]?=some z/\(∀ (w:World) (B:Nat) (aj:bM) (ρ:Nat->Loc) (u:Value),dY w B aj ρ z u->dY w B aj ρ x u)
 |[],[],y,h=>⟨rfl,λj x hx=>by simp[xU]at hx⟩
 | m :: ms,c :: cs,y,h=>by
  unfold EA at h;split at h
  ·rename_i y1 ys h1 h2;injection h with h;subst h;obtain⟨k1,k2⟩:=ab5 ms cs ys h2
   refine⟨by simp[xU,k1],λj x hx=>?_⟩
   cases j with
   |zero=>simp[xU]at hx;subst hx;exact⟨c,rfl,λw B aj ρ u hu=>Lm.rC h1 hu⟩
   |succ j=>exact k2 j x (by simpa [xU]using hx)
  ·cases h
 |[],_::_,y,h=>by simp[EA]at h
 |_::_,[],y,h=>by simp[EA]at h
theorem Rm.rC{m:Rm}{x:bg}{y:m.T}(h:m.rd x=some y){n:Nat}(hx:fz w B aj ρ n x):fz w B aj ρ n (m.mk y):=by
 cases m with
 | sl t o=>
  cases hx with
  |sl v y' aO hr=>exact .sl v _ aO (hr.wk (V.eO h))
  |aC=>cases h
  |mp=>cases h
  |gh=>cases h
 | mp=>
  cases hx with
  |gh=>cases h
  |sl=>cases h
  |aC=>cases h
  |mp b c es l aO hl hh he=>injection h with h;subst h;exact .mp b c es _ aO hl hh he
 | st t=>
  cases hx with
  |sl=>cases h
  |mp=>cases h
  |gh=>cases h
  | aC b off cells e cs us aO hl hh hs hc=>
   have h:(match vT cs with|some vs=>dec t 0 vs|none=>none)=some y:=h;cases gW:vT cs with
   |none=>rw[gW]at h;cases h
   | some vs=>
    rw[gW]at h;have h:dec t 0 vs=some y:=h;have eR:=MC _ _ gW;have hk:=nW t 0 vs y h
    refine .aC b off cells e _ us aO hl hh (by rw[gB,<-hk.1];rw[eR,gB]at hs;exact hs) λj x hx=>?_
    rw[dP]at hx;cases hz:(enc t 0 y)[j]? with
    |none=>rw[hz]at hx;cases hx
    | some z=>
     rw[hz]at hx;injection hx with hx;subst hx;have hj:j<vs.length:=by rw[hk.1];exact(dS.1 hz).1
     have hv:=cu hj;obtain⟨h1,h2⟩:=hc j (.v vs[j]) (by rw[eR,dP,hv];rfl);exact⟨h1,mj t 0 y (by omega) j z hz,h2.2.wk (hk.2 j _ z hv hz)⟩
 | aC ms=>
  cases hx with
  |sl=>cases h
  |mp=>cases h
  |gh=>cases h
  | aC b off cells e cs us aO hl hh hs hc=>
   obtain⟨k1,k2⟩:=ab5 ms cs y h
   refine .aC b off cells e _ us aO hl hh (by show off+(xU ms y).length<=_;rw[k1];exact hs) λj x hx=>?_
   obtain⟨z,hz,hm⟩:=k2 j x hx;exact⟨(hc j z hz).1,hm _ _ _ _ _ (hc j z hz).2⟩
theorem U1:∀ (ms:af (Nat×Tm)) (t:Nat->A) (y:EB ms),Ig ms t=some y->∀ k,xV ms y k = .undef\/∃ m z,(Tm.rd m (t k)=some z/\xV ms y k=m.mk z)
 |[],t,y,h,k=>.inl rfl
 | (n,m) :: ms,t,y,h,k=>by
  unfold Ig at h;split at h
  ·rename_i x xs h1 h2;injection h with h;subst h;by_cases hk:k=n
   ·subst hk;exact .inr ⟨m,x,h1,by simp[xV]⟩
   ·have hb:Nat.beq k n=false:=by
     cases hb:Nat.beq k n with
     |false=>rfl
     |true=>exact absurd (cr hb) hk
    simp only[xV,hb,au];exact U1 ms t xs h2 k
  ·cases h
theorem U2:∀ (ms:af (Nat×Rm)) (t:Nat->ak bg) (y:xW ms),EC ms t=some y->∀ k,xX ms y k=none\/∃ m x z,t k=some x/\Rm.rd m x=some z/\xX ms y k=some (m.mk z)
 |[],t,y,h,k=>.inl rfl
 | (n,m) :: ms,t,y,h,k=>by
  unfold EC at h;split at h
  ·rename_i x xs h1 h2;injection h with h;subst h;by_cases hk:k=n
   ·subst hk;cases ht:t k with
    |none=>rw[ht]at h1;cases h1
    |some z=>rw[ht]at h1;exact .inr ⟨m,z,x,rfl,h1,by simp[xX]⟩
   ·have hb:Nat.beq k n=false:=by
     cases hb:Nat.beq k n with
     |false=>rfl
     |true=>exact absurd (cr hb) hk
    simp only[xX,hb,au];exact U2 ms t xs h2 k
  ·cases h
theorem kU.ab6{τ:kU}{x:τ.St}(h:τ.Nz σ=some x)(hR:R w0 N σ a w):R w0 N (τ.mk' x) a w:=by
 unfold kU.Nz at h;split at h
 ·rename_i u v h1 h2;injection h with h;subst h;obtain⟨aj,ρ,hR⟩:=hR
  refine⟨aj,ρ,hR.below,hR.dF,λn y hy=>?_,λk=>?_,hR.size,hR.defers,hR.fix,hR.ef⟩
  ·have hy:xX τ.rs v n=some y:=hy;rcases U2 τ.rs σ.m v h2 n with e | ⟨m,x,z,e1,e2,e3⟩
   ·rw[e]at hy;cases hy
   ·rw[e3]at hy;injection hy with hy;subst hy;exact Rm.rC e2 (hR.root n x e1)
  ·show RA _ _ _ _ (xV τ.ts u k) _;rcases U1 τ.ts σ.t u h1 k with e | ⟨m,z,e1,e2⟩
   ·rw[e];trivial
   ·rw[e2];exact Tm.rC e1 (hR.tmp k)
 ·cases h
theorem ab7{n:Nat}{o:ak Nat}(h:UW n o=true):o=some n:=by
 cases o with
 |none=>cases h
 |some m=>rw[cr h]
theorem ab8{rs:Rn}{r n:Nat}(h:rs.lookup r=some n):(r,n)∈rs:=by
 induction rs with
 |nil=>cases h
 | cons p rs ih=>
  obtain⟨x,y⟩:=p;rw[List.lookup_cons]at h;split at h
  next hb=>injection h with h;subst h;rw[eq_of_beq hb];exact .head _
  ·exact .tail _ (ih h)
theorem ab9{rs:Rn}{r n:Nat}(h:rs.inv n=some r):(r,n)∈rs:=by
 unfold Rn.inv at h;cases hf:rs.find? (λp=>Nat.beq p.2 n)with
 |none=>rw[hf]at h;cases h
 | some p=>
  rw[hf]at h;injection h with h;subst h;have h1:=List.find?_some hf;have h2:=List.mem_of_find?_eq_some hf;rw[<-cr h1];exact h2
def Rn.ff(rs:Rn)(ρ:Nat->Loc):Nat->Loc:=λn=>match rs.inv n with
 |some r=>ρ r
 |none=>ρ n
theorem Rn.NB{rs:Rn}(h:rs.ok=true){r n:Nat}(hm:(r,n)∈rs):(r=n\/60000<=n)/\rs.lookup r=some n/\rs.inv n=some r:=by
 have:=dQ.1 h _ hm;rw[bx,bx,fE]at this;refine⟨?_,ab7 this.1.2,ab7 this.2⟩;rcases this.1.1 with h|h
 ·exact .inl (cr h)
 ·exact .inr (cT h)
theorem dY.eY{rs:Rn}(fR:rs.ok=true){x:Lf}{u:Value}(h:dY w B aj ρ x u):dY w B (fm aj rs id) (rs.ff ρ) (x.eY rs) u:=by
 unfold Lf.eY;split
 ·exact⟨h.1,h.2.Hf h.1 λb=>xD⟩
 ·rename_i r;split
  next n hn=>have hi:=(Rn.NB fR (ab8 hn)).2.2;refine⟨h.1,?_⟩;have h2:=h.2;simp only[cJ]at h2 ⊢;unfold Rn.ff;rw[hi];exact h2
  ·trivial
 ·trivial
theorem Rl.eY{rs:Rn}(fR:rs.ok=true)(h:Rl w0 N aj ρ σ a w):Rl w0 N (fm aj rs id) (rs.ff ρ) (σ.eY rs) a w:=by
 have hl:∀ b r n,aj b=some [r]->rs.lookup r=some n->fm aj rs id b=some [n]:=by
  intro b r n h1 h2;simp[fm,h1,h2]
 refine⟨h.below,λb k hk=>?_,λn x hx=>?_,λk=>?_,h.size,h.defers,λr l hr=>?_,h.ef⟩
 ·unfold fm at hk;split at hk
  ·cases hk
  ·rename_i k0 El;split at hk
   ·cases hk
   ·rename_i r hr;cases hn:rs.lookup r with
    |none=>rw[hn]at hk;cases hk
    | some n=>
     rw[hn]at hk;injection hk with hk;subst hk;obtain⟨h1,h2,_⟩:=h.dF b k0 El;exact⟨h1,h2,by simp⟩
 ·have hx:(match rs.inv n with | some r=>(σ.m r).map (bg.eY rs) | none=>none)=some x:=hx;cases hi:rs.inv n with
  |none=>rw[hi]at hx;cases hx
  | some r=>
   rw[hi]at hx;have hx:(σ.m r).map (bg.eY rs)=some x:=hx;have uC:=(Rn.NB fR (ab9 hi)).2.1;have aO:rs.ff ρ n=ρ r:=by unfold Rn.ff;rw[hi]
   cases hm:σ.m r with
   |none=>rw[hm]at hx;cases hx
   | some y=>
    rw[hm]at hx;injection hx with hx;subst hx;cases h.root r y hm with
    | aC b off cells e cs us h1 h2 hh hs hc=>
     refine .aC b off cells e _ us (aO.trans h1) (hl b r n h2 uC) hh (by rw[gB];exact hs) λj x hx=>?_
     rw[dP]at hx;cases hz:cs[j]? with
     |none=>rw[hz]at hx;cases hx
     | some z=>
      rw[hz]at hx;injection hx with hx;subst hx;exact⟨(hc j z hz).1,(hc j z hz).2.eY fR⟩
    | sl v y h1 h2=>
     exact .sl v y (aO.trans h1) (RV.fm (p:=[]) (nm:=id) h2 uC)
    |mp b c es l h1 h2 hh he=>exact .mp b c es l (aO.trans h1) (hl b r n h2 uC) hh he
    |gh us xs h1 hx=>exact .gh us _ (aO.trans h1) λj x hj=>by simp at hj
 ·show RA _ _ _ _ ((σ.t k).eY rs) _;have hk:=h.tmp k;generalize σ.t k=x at hk;unfold A.eY;split
  ·exact hk.eY fR
  ·rename_i r j;split
   next n hn=>have hi:=(Rn.NB fR (ab8 hn)).2.2;obtain⟨b,off,h1,h2⟩:=hk;exact⟨b,off,by unfold Rn.ff;rw[hi];exact h1,h2⟩
   ·trivial
  ·obtain⟨b,off,g1,g2,g3,g4⟩:=hk
   refine⟨b,off,g1,g2,xD g3,λj x hx=>?_⟩
   obtain⟨f1,v,f2,f3⟩:=g4 j x hx;exact⟨f1,v,f2,f3.Hf f1 λb=>xD⟩
  ·obtain⟨pv,e0,b,off,g1,g2,g3,g4⟩:=hk
   refine⟨pv,e0,b,off,g1,g2,xD g3,λj x hx=>?_⟩
   obtain⟨f1,v,f2,f3⟩:=g4 j x hx;exact⟨f1,v,f2,f3.Hf f1 λb=>xD⟩
  ·obtain⟨us,g1,g2,g3⟩:=hk
   refine⟨us,g1,by rw[gB];exact g2,λj x hx=>?_⟩
   rw[dP]at hx;rename_i cs;cases hz:cs[j]? with
   |none=>rw[hz]at hx;cases hx
   | some z=>
    rw[hz]at hx;injection hx with hx;subst hx;obtain⟨v,f1,f2⟩:=g3 j z hz;exact⟨v,f1,f2.eY fR⟩
  ·trivial
 ·show rs.ff ρ r=l;unfold Rn.ff;split
  ·rename_i r0 hi;rcases(Rn.NB fR (ab9 hi)).1 with e | e
   ·rw[e];exact h.fix r l hr
   ·rw[h.ef r (.inr e)]at hr;cases hr
  ·exact h.fix r l hr
theorem anF{rs:af (Nat×Rm)}{p:Nat×Tm}(hR:R w0 N σ a w):R w0 N (UY rs p σ) a w:=by
 unfold UY;split
 ·rename_i n hp hk;split
  ·rename_i t o hl;cases hb:Nat.ble 60000 n with
   |false=>exact hR
   | true=>
    have hn:=cT hb;obtain⟨aj,ρ,hR⟩:=hR;have hu:=hR.tmp p.1;rw[hk]at hu;have sq:a.tmps.getD p.1 undef = .slice none 0 0:=by
     have h2:=hu.2;generalize a.tmps.getD p.1 undef=u at h2;cases h2;rfl
    have h1:=hR.new (d:=n) (x:=.sl (.sl t o false [])) (.eK (.slice none 0 0)) (.sl _ _ (cG _ _ _) (.c9 _ _ _)) (hR.ef n (.inr hn))
    refine⟨aj,_,h1.below,h1.dF,h1.root,λk=>?_,h1.size,h1.defers,h1.fix,h1.ef⟩
    show RA _ _ _ _ (cB ((σ.drop n).root n (.sl (.sl t o false []))).t p.1 (.lf (.own [n])) k) _;by_cases hkp:k=p.1
    ·subst hkp;rw[cG,sq];exact⟨rfl,by simp only[cJ,cG]⟩
    ·rw[cV _ _ _ hkp];exact h1.tmp k
  ·exact hR
 ·exact hR
theorem anG{n j r:Nat}{y:V}(hR:Rl w0 N aj ρ σ a w)(hn:ρ n = .eK (.slice none 0 0)):Rl w0 N aj ρ (UZ n j r σ) a w:=by
 unfold UZ;split
 ·rename_i cs hm;split
  ·rename_i hj
   refine⟨hR.below,hR.dF,λr' x hx=>?_,hR.tmp,hR.size,hR.defers,hR.fix,hR.ef⟩
   have hx:cB σ.m r (some (.aC (cs.set j (.own [n])))) r'=some x:=hx;by_cases hr:r'=r
   ·subst hr;rw[cG]at hx;injection hx with hx;subst hx;cases hR.root r' _ hm with
    | aC b off cells e cs us h1 h2 hh hs hc=>
     refine .aC b off cells e _ us h1 h2 hh (by rw[ni];exact hs) λi z hz=>?_
     rw[List.getElem?_set]at hz;by_cases hi:j=i
     ·subst hi;have bW:j<cs.length:=(dS.1 hj).1;rw[bB rfl,bB bW]at hz;injection hz with hz;subst hz;obtain⟨k1,k2⟩:=hc j _ hj;refine⟨k1,?_⟩;have hu:us j = .slice none 0 0:=by
       have h2:=k2.2;generalize us j=u at h2;cases h2;rfl
      rw[hu];exact⟨rfl,by simp only[cJ,hn]⟩
     ·rw[cm hi]at hz;exact hc i z hz
   ·rw[cV _ _ _ hr]at hx;exact hR.root r' x hx
  ·exact hR
 ·exact hR
theorem anH{rs:af (Nat×Rm)}{n j r:Nat}(hR:R w0 N σ a w):R w0 N (U0 rs n j r σ) a w:=by
 unfold U0;split
 ·rename_i t o hl;cases hb:Nat.ble 60000 n with
  |false=>exact hR
  | true=>
   have hn:=cT hb;obtain⟨aj,ρ,hR⟩:=hR;exact⟨aj,_,anG (y:=.nil) (hR.new (d:=n) (x:=.sl (.sl t o false [])) (.eK (.slice none 0 0)) (.sl _ _ (cG _ _ _) (.c9 _ _ _)) (hR.ef n (.inr hn))) (cG _ _ _)⟩
 ·exact hR
theorem U3{rs:af (Nat×Rm)}{r:Nat}:∀ (ms:af Lm) (cs:af Lf) (j:Nat) (σ:S),R w0 N σ a w->R w0 N (Cj rs r j ms cs σ) a w
 |[],cs,j,σ,h=>by unfold Cj;exact h
 | m :: ms,[],j,σ,h=>by
  unfold Cj;split<;>first|exact h|contradiction
 | m :: ms,c :: cs,j,σ,h=>by
  unfold Cj;split
  next e1 e2=>cases e1;cases e2;exact U3 ms cs _ _ (anH h)
  next e1 e2=>cases e1;cases e2;exact U3 ms cs _ _ h
  ·exact h
theorem Ii{rs:af (Nat×Rm)}:∀ (ps:af (Nat×Rm)) (σ:S),R w0 N σ a w->R w0 N (Ih rs ps σ) a w
 |[],σ,h=>h
 |(r,.sl t o)::ps,σ,h=>Ii ps σ h
 |(r,.st t)::ps,σ,h=>Ii ps σ h
 |(r,.mp)::ps,σ,h=>Ii ps σ h
 | (r,.aC ms) :: ps,σ,h=>by
  unfold Ih;refine Ii ps _ ?_;split
  ·exact U3 ms _ 0 σ h
  ·exact h
theorem acd{rs:af (Nat×Rm)}:∀ (ps:af (Nat×Tm)) (σ:S),R w0 N σ a w->R w0 N (NA rs ps σ) a w
 |[],σ,h=>h
 |p::ps,σ,h=>acd ps _ (anF h)
theorem kU.rC{τ:kU}{x:τ.St}(h:τ.rd σ=some x)(hR:R w0 N σ a w):R w0 N (τ.mk' x) a w:=by
 unfold kU.rd at h;split at h
 next y hy=>injection h with h;subst h;exact kU.ab6 hy hR
 ·have hR:=acd (rs:=τ.rs) τ.ts σ hR;revert h hR;generalize NA τ.rs τ.ts σ=aA;intro h hR;unfold kU.rd1 at h;cases hb:(τ.rn aA).ok with
  |false=>rw[hb]at h;cases h
  | true=>
   rw[hb,aq]at h;obtain⟨aj,ρ,hR⟩:=hR;exact kU.ab6 h (Ii τ.rs _ ⟨_,_,hR.eY hb⟩)
end
end Go.Proofs.YtecofnkoloihpaaGreat
namespace Go.Proofs.YtecofnkoloihpaaGreat
open Go.RowKit
set_option linter.unusedVariables false
def xY:af V->af Nat->af Lf
 |[],_=>[]
 | x :: xs,ns=>bif x.plain then .v x :: xY xs ns else (match ns with
  |n::ns=>.own [n]::xY xs ns
  |[]=>.dead::xY xs [])
def Ck:af V->af Nat->(Nat->ak bg)->Nat->ak bg
 |[],_,m,k=>m k
 | x :: xs,ns,m,k=>bif x.plain then Ck xs ns m k else (match ns with
  |n::ns=>bif Nat.beq k n then some (.sl x)else Ck xs ns m k
  |[]=>Ck xs [] m k)
def mD(m:Nat->ak bg):af Lf->af Nat->ak (af V)
 |[],[]=>some []
 | .v x :: cs,ns=>bif x.plain then (match mD m cs ns with
  |some vs=>some (x::vs)
  |none=>none)else none
 | .own [r] :: cs,n :: ns=>bif Nat.beq r n then (match m n with
  | some (.sl y)=>bif y.plain then none else (match mD m cs ns with
   |some vs=>some (y::vs)
   |none=>none)
  |_=>none)else none
 |_,_=>none
abbrev Gp:=Nat×TC×Nat×af Nat
def Ij:af Gp->Type->Type
 |[],X=>X
 |g::gs,X=>T g.2.1×Ij gs X
def NC:(gs:af Gp)->(rs:af (Nat×Rm))->Ij gs (xW rs)->Nat->ak bg
 |[],rs,x,k=>xX rs x k
 |(n,t,o,ns)::gs,rs,x,k=>bif Nat.beq k n then some (.aC (xY (enc t o x.1) ns))else Ck (enc t o x.1) ns (NC gs rs x.2) k
def ND:(gs:af Gp)->(rs:af (Nat×Rm))->(Nat->ak bg)->ak (Ij gs (xW rs))
 |[],rs,m=>EC rs m
 | (n,t,o,ns) :: gs,rs,m=>match m n with
  | some (.aC cs)=>(match mD m cs ns with
   | some vs=>(match dec t o vs,ND gs rs m with
    |some x,some y=>some (x,y)
    |_,_=>none)
   |none=>none)
  |_=>none
def ED:af V->af Nat->af Lm
 |[],_=>[]
 |.int k _::xs,ns=>.int k::ED xs ns
 |.bool _::xs,ns=>.bool::ED xs ns
 |.str _::xs,ns=>.str::ED xs ns
 |_::xs,n::ns=>.own n::ED xs ns
 |_::xs,[]=>.bool::ED xs []
def U4:af V->af Nat->af (Nat×Rm)
 |.sl t o _ _::xs,n::ns=>(n,.sl t o)::U4 xs ns
 |_::xs,ns=>U4 xs ns
 |[],_=>[]
def U5:af Gp->af (Nat×Rm)->af (Nat×Rm)
 |[],rs=>rs
 |(n,t,o,ns)::gs,rs=>(n,.aC (ED (ZM t o) ns))::(U4 (ZM t o) ns++U5 gs rs)
structure dJ where
 ts:List (Nat×Tm)
 rs:List (Nat×Rm)
 gs:List Gp
def dJ.St(τ:dJ):Type:=EB τ.ts×Ij τ.gs (xW τ.rs)
def dJ.mk'(τ:dJ)(x:τ.St):S:=⟨xV τ.ts x.1,NC τ.gs τ.rs x.2⟩
def dJ.NF(τ:dJ)(σ:S):ak τ.St:=match Ig τ.ts σ.t,ND τ.gs τ.rs σ.m with
 |some x,some y=>some (x,y)
 |_,_=>none
def dJ.rd(τ:dJ)(σ:S):ak τ.St:=match τ.NF σ with
 |some x=>some x
 | none=>match kU.rd ⟨τ.ts,U5 τ.gs τ.rs⟩ σ with
  |some z=>τ.NF (kU.mk' ⟨τ.ts,U5 τ.gs τ.rs⟩ z)
  |none=>none
section
variable {P:Program} {w w':World} {w0:Wd} {B N:Nat} {aj aD:bM} {ρ ρ':Nat->Loc} {σ:S} {a:Act} {m:Nat->ak bg}
theorem cz.inv{x:V}{xs ys:af V}(k:cz (x :: xs) ys):∃ y zs,ys=y :: zs/\Wk x y/\cz xs zs:=by
 obtain⟨k1,k2⟩:=k;cases ys with
 |nil=>simp at k1
 |cons y zs=>exact⟨y,zs,rfl,k2 0 x y rfl rfl,by simpa using k1,λj a b ha hb=>k2 (j+1) a b (by simpa using ha) (by simpa using hb)⟩
theorem Wk.ace{x y:V}(h:Wk x y)(hp:x.plain=true):y=x:=by
 cases h<;>first|rfl|cases hp
theorem Wk.acf{x y:V}(h:Wk x y)(hp:x.plain=false):y.plain=false:=by
 cases h<;>first|exact hp|rfl
theorem U6:∀ (cs:af Lf) (ns:af Nat) (vs ys:af V),mD m cs ns=some vs->cz vs ys->(xY ys ns).length=cs.length/\∀ (j:Nat) z,(xY ys ns)[j]?=some z->cs[j]?=some z
 | [],[],vs,ys,h,hw=>by
  simp only[mD,gl]at h;subst h;have:ys=[]:=List.eq_nil_of_length_eq_zero hw.1.symm;subst this;exact⟨rfl,λj z hz=>by simp[xY]at hz⟩
 | .v x :: cs,ns,vs,ys,h,hw=>by
  unfold mD at h;cases hp:x.plain with
  |false=>rw[hp]at h;cases h
  | true=>
   rw[hp,aq]at h;split at h
   ·rename_i us gv;injection h with h;subst h;obtain⟨y,zs,rfl,k1,k2⟩:=hw.inv;obtain rfl:=k1.ace hp;obtain⟨e1,e2⟩:=U6 cs ns us zs gv k2;simp only[xY,hp,aq]
    refine⟨by simp[e1],λj z hz=>?_⟩
    cases j with
    |zero=>simpa using hz
    |succ j=>exact e2 j z (by simpa using hz)
   ·cases h
 | .own [r] :: cs,n :: ns,vs,ys,h,hw=>by
  unfold mD at h;cases hb:Nat.beq r n with
  |false=>rw[hb]at h;cases h
  | true=>
   rw[hb,aq]at h;obtain rfl:=cr hb;split at h
   ·rename_i y hy;cases hp:y.plain with
    |true=>rw[hp]at h;cases h
    | false=>
     rw[hp,au]at h;split at h
     ·rename_i us gv;injection h with h;subst h;obtain⟨y',zs,rfl,k1,k2⟩:=hw.inv;have hq:=k1.acf hp;obtain⟨e1,e2⟩:=U6 cs ns us zs gv k2;simp only[xY,hq,au]
      refine⟨by simp[e1],λj z hz=>?_⟩
      cases j with
      |zero=>simpa using hz
      |succ j=>exact e2 j z (by simpa using hz)
     ·cases h
   ·cases h
 |[],_::_,vs,ys,h,_=>by simp[mD]at h
 |.dead::_,_,vs,ys,h,_=>by simp[mD]at h
 |.own []::_,_,vs,ys,h,_=>by simp[mD]at h
 |.own (_::_::_)::_,_,vs,ys,h,_=>by simp[mD]at h
 |.own [_]::_,[],vs,ys,h,_=>by simp[mD]at h
theorem U7{f:Nat->ak bg}{k:Nat}{x:bg}:∀ (cs:af Lf) (ns:af Nat) (vs ys:af V),mD m cs ns=some vs->cz vs ys->Ck ys ns f k=some x->f k=some x\/∃ v y,m k=some (.sl v)/\x = .sl y/\Wk v y
 | [],[],vs,ys,h,hw,hx=>by
  simp only[mD,gl]at h;subst h;have:ys=[]:=List.eq_nil_of_length_eq_zero hw.1.symm;subst this;exact .inl hx
 | .v x' :: cs,ns,vs,ys,h,hw,hx=>by
  unfold mD at h;cases hp:x'.plain with
  |false=>rw[hp]at h;cases h
  | true=>
   rw[hp,aq]at h;split at h
   next us gv=>injection h with h;subst h;obtain⟨y,zs,rfl,k1,k2⟩:=hw.inv;obtain rfl:=k1.ace hp;simp only[Ck,hp,aq]at hx;exact U7 cs ns us zs gv k2 hx
   ·cases h
 | .own [r] :: cs,n :: ns,vs,ys,h,hw,hx=>by
  unfold mD at h;cases hb:Nat.beq r n with
  |false=>rw[hb]at h;cases h
  | true=>
   rw[hb,aq]at h;obtain rfl:=cr hb;split at h
   ·rename_i y hy;cases hp:y.plain with
    |true=>rw[hp]at h;cases h
    | false=>
     rw[hp,au]at h;split at h
     ·rename_i us gv;injection h with h;subst h;obtain⟨y',zs,rfl,k1,k2⟩:=hw.inv;have hq:=k1.acf hp;simp only[Ck,hq,au]at hx;cases hk:Nat.beq k r with
      | true=>
       rw[hk,aq]at hx;injection hx with hx;obtain rfl:=cr hk;exact .inr ⟨y,y',hy,hx.symm,k1⟩
      | false=>
       rw[hk,au]at hx;exact U7 cs ns us zs gv k2 hx
     ·cases h
   ·cases h
 |[],_::_,vs,ys,h,_,_=>by simp[mD]at h
 |.dead::_,_,vs,ys,h,_,_=>by simp[mD]at h
 |.own []::_,_,vs,ys,h,_,_=>by simp[mD]at h
 |.own (_::_::_)::_,_,vs,ys,h,_,_=>by simp[mD]at h
 |.own [_]::_,[],vs,ys,h,_,_=>by simp[mD]at h
theorem acg:∀ (gs:af Gp) (rs:af (Nat×Rm)) (y:Ij gs (xW rs)),ND gs rs m=some y->∀ k x,NC gs rs y k=some x->∃ x0,m k=some x0/\∀ (w:World) (B:Nat) (aj:bM) (ρ:Nat->Loc),fz w B aj ρ k x0->fz w B aj ρ k x
 | [],rs,y,h,k,x,hx=>by
  have h:EC rs m=some y:=h;have hx:xX rs y k=some x:=hx;rcases U2 rs m y h k with e|⟨m',x0,z,e1,e2,e3⟩
  ·rw[e]at hx;cases hx
  ·rw[e3]at hx;injection hx with hx;subst hx;exact⟨x0,e1,λw B aj ρ hr=>Rm.rC e2 hr⟩
 | (n,t,o,ns) :: gs,rs,y,h,k,x,hx=>by
  unfold ND at h;split at h
  ·rename_i cs hm;split at h
   ·rename_i vs gW;split at h
    ·rename_i x1 y1 h1 h2;injection h with h;subst h;have hw:=nW t o vs x1 h1;simp only[NC]at hx;cases hk:Nat.beq k n with
     | true=>
      rw[hk,aq]at hx;injection hx with hx;subst hx;obtain rfl:=cr hk;obtain⟨e1,e2⟩:=U6 cs ns vs _ gW hw
      refine⟨_,hm,λw B aj ρ hr=>?_⟩
      cases hr with
      |aC b off cells e _ us aO hl hh hs hc=>exact .aC b off cells e _ us aO hl hh (by rw[e1];exact hs) λj z hz=>hc j z (e2 j z hz)
     | false=>
      rw[hk,au]at hx;rcases U7 cs ns vs _ gW hw hx with e|⟨v,y',e1,rfl,e2⟩
      ·exact acg gs rs y1 h2 k x e
      ·refine⟨_,e1,λw B aj ρ hr=>?_⟩
       cases hr with
       |sl u _ aO hr=>exact .sl u _ aO (hr.wk e2)
    ·cases h
   ·cases h
  ·cases h
theorem dJ.ach{τ:dJ}{x:τ.St}(h:τ.NF σ=some x)(hR:R w0 N σ a w):R w0 N (τ.mk' x) a w:=by
 unfold dJ.NF at h;split at h
 ·rename_i u v h1 h2;injection h with h;subst h;obtain⟨aj,ρ,hR⟩:=hR
  refine⟨aj,ρ,hR.below,hR.dF,λn y hy=>?_,λk=>?_,hR.size,hR.defers,hR.fix,hR.ef⟩
  ·obtain⟨x0,e1,e2⟩:=acg τ.gs τ.rs v h2 n y hy;exact e2 _ _ _ _ (hR.root n x0 e1)
  ·show RA _ _ _ _ (xV τ.ts u k) _;rcases U1 τ.ts σ.t u h1 k with e | ⟨m,z,e1,e2⟩
   ·rw[e];trivial
   ·rw[e2];exact Tm.rC e1 (hR.tmp k)
 ·cases h
theorem dJ.rC{τ:dJ}{x:τ.St}(h:τ.rd σ=some x)(hR:R w0 N σ a w):R w0 N (τ.mk' x) a w:=by
 unfold dJ.rd at h;split at h
 next y hy=>injection h with h;subst h;exact dJ.ach hy hR
 ·split at h
  next z hz=>exact dJ.ach h (kU.rC hz hR)
  ·cases h
end
end Go.Proofs.YtecofnkoloihpaaGreat
namespace Go.Proofs.YtecofnkoloihpaaGreat
open Go.RowKit
set_option linter.unusedVariables false
def Cl:Exit->ak Nat
 |.normal=>some 0
 |.ret=>some 1
 |.exit n=>some (n+2)
 |_=>none
def U8:Nat->Exit
 |0=>.normal
 |1=>.ret
 |n+2=>.exit n
theorem wj{e:Exit}{n:Nat}(h:Cl e=some n):e=U8 n:=by
 cases e<;>simp[Cl]at h<;>subst h<;>rfl
def uR:af (Nat×dJ)->Type
 |[]=>Empty
 |(_,τ)::r=>τ.St⊕uR r
def NG:(l:af (Nat×dJ))->Nat->S->ak (uR l)
 |[],_,_=>none
 | (n,τ) :: r,e,σ=>bif Nat.beq n e then (match τ.rd σ with
  |some x=>some (.inl x)
  |none=>none)else (match NG r e σ with
  |some x=>some (.inr x)
  |none=>none)
def U9{X:Type}:(l:af (Nat×dJ))->uR l->(Exit->S->ak X)->ak X
 |[],z,_=>nomatch z
 | (n,τ) :: r,z,k=>match z with
  |.inl x=>k (U8 n) (τ.mk' x)
  |.inr z=>U9 r z k
def iter{α β:Type}(step:α->ak (α⊕β)):Nat->α->ak β
 |0,_=>none
 | n+1,x=>match step x with
  |some (.inl y)=>iter step n y
  |some (.inr z)=>some z
  |none=>none
def EE(P:Program)(N:Nat)(Φ:fo)(Λ:oQ)(body:Code)(τ:dJ)(jU:af (Nat×dJ))(x:τ.St):ak (τ.St⊕uR jU):=
 iI P N Φ Λ body (τ.mk' x) λe σ=>match Cl e with
  | some 0=>(match τ.rd σ with
   |some x=>some (.inl x)
   |none=>none)
  | some n=>(match NG jU n σ with
   |some x=>some (.inr x)
   |none=>none)
  |none=>none
def Va{X:Type}(id:Nat)(k:Exit->S->ak X)(e:Exit)(σ:S):ak X:=
 match e with
 |.exit sG=>if sG=id then k .normal σ else k (.exit sG) σ
 |e=>k e σ
def NH(id:Nat)(τ:dJ)(jU:af (Nat×dJ))(F:τ.St->ak (τ.St⊕uR jU))(fuel:τ.St->Nat):tL:=
 ⟨λX σ k=>match τ.rd σ with
  | some x=>(match iter F (fuel x) x with
   |some z=>U9 jU z (Va id k)
   |none=>none)
  |none=>none⟩
def oV:af (Bool×TC)->Type
 |[]=>ah
 |(_,t)::r=>T t×oV r
def iT:(l:af (Bool×TC))->oV l->af Pt
 |[],_=>[]
 |(b,t)::r,x=>(b,enc t 0 x.1)::iT r x.2
def An:(l:af (Bool×TC))->af Pt->ak (oV l)
 |[],[]=>some ()
 | (b,t) :: r,(b',vs) :: ps=>bif b==b' then (match dec t 0 vs,An r ps with
  |some x,some xs=>some (x,xs)
  |_,_=>none)else none
 |_,_=>none
def aE(ai:af (Bool×TC))(ro:af (Bool×TC×Nat))(F:oV ai->ak (lR ro)):lD:=
 ⟨λX args k=>match An ai args with
  | some x=>(match F x with
   |some y=>k (gi ro y)
   |none=>none)
  |none=>none⟩
def Vb:Pt->A
 |(false,[x])=>.lf (.v x)
 |(true,xs)=>.agg (xs.map .v)
 |(false,.bool true::c::cs)=>.je (c::cs)
 |(false,.bool false::.int .i64 (.ofNat g)::c::cs)=>.mm g (c::cs)
 |_=>.undef
def aci(args:af Pt):S:=⟨λk=>match args[k]? with
 |some p=>Vb p
 |none=>.undef,λ_=>none⟩
def tN{X:Type}(P:Program)(N:Nat)(Φ:fo)(Λ:oQ)(code:Code)(rv:Array ResultVar)(args:af Pt)(k:ig->ak X):ak X:=
 iI P N Φ Λ code (aci args) λe σ=>match Cl e with
  |some 0=>G7 P σ rv k
  |some 1=>G7 P σ rv k
  |_=>none
section
variable {P:Program} {w w':World} {w0:Wd} {B N:Nat} {aj aD:bM} {ρ ρ':Nat->Loc} {σ:S} {a:Act} {X:Type} {d:Nat} {r:X} {o:Oper} {Φ:fo} {Λ:oQ}
theorem acj:∀ (l:af (Nat×dJ)) (e:Nat) (z:uR l),NG l e σ=some z->∀ (X:Type) (k:Exit->S->ak X),∃ aA,U9 l z k=k (U8 e) aA/\∀ a w,R w0 N σ a w->R w0 N aA a w
 |[],e,z,h=>by cases h
 | (n,τ) :: l,e,z,h=>by
  intro X k;unfold NG at h;cases hb:Nat.beq n e with
  | true=>
   obtain rfl:=cr hb;rw[hb,aq]at h;split at h
   next x hx=>injection h with h;subst h;exact⟨τ.mk' x,rfl,λa w hR=>dJ.rC hx hR⟩
   ·cases h
  | false=>
   rw[hb,au]at h;split at h
   next x hx=>injection h with h;subst h;exact acj l e x hx X k
   ·cases h
theorem anI{id:Nat}{body:Code}{τ:dJ}{jU:af (Nat×dJ)}{F:τ.St->ak (τ.St⊕uR jU)}{fuel:τ.St->Nat}(cy:ir P Φ)(iS:rz P N Λ (occs body))(hF:∀ x,EE P N Φ Λ body τ jU x=F x):Ca P N (.block id (.loop body)) (NH id τ jU F fuel):=by
 intro X σ k r w0 h a w hR;simp only[NH]at h;split at h
 ·rename_i x hx;split at h
  ·rename_i z hz;refine wp_block ?_;have key:∀ (n:Nat) (x:τ.St),iter F n x=some z->∀ (a:Act) (w:World),R w0 N (τ.mk' x) a w->∀ (b:Frame) (kk:af Item) (cs:af Frame),
     ∃e a' w',Exit.inBlock id (λe a' w'=>∃aA,k e aA=some r/\R w0 N aA a' w') e a' w'/\Arrives P (lone (b.at a (.code body::.inLoop body::kk)) cs w) b kk cs e a' w':=by
    intro n
    induction n with
    |zero=>intro x hx;simp[iter]at hx
    | succ n ih=>
     intro x hx a w hR b kk cs;simp only[iter]at hx;have jk:∃ y,EE P N Φ Λ body τ jU x=some y/\(match y with | .inl y=>iter F n y=some z | .inr z'=>z'=z):=by
      rw[hF];split at hx
      next y hy=>exact⟨_,hy,hx⟩
      next y hy=>exact⟨_,hy,by injection hx⟩
      ·cases hx
     obtain⟨y,hy,NI⟩:=jk;unfold EE at hy;have hwp:=Ic (w0:=w0) cy body _ _ hy iS a w hR;obtain⟨e,a1,w1,⟨mW,kT,tG⟩,NJ⟩:=hwp b (.inLoop body::kk) cs;split at kT
     ·rename_i he;have he:=wj he;subst he;split at kT
      next x1 zx=>injection kT with kT;subst kT;obtain⟨e2,a2,w2,so,anJ⟩:=ih x1 NI a1 w1 (dJ.rC zx tG) b kk cs;exact⟨e2,a2,w2,so,.of_steps (Steps.trans NJ (.one step_inLoop)) anJ⟩
      ·cases kT
     ·rename_i n' br he;have he:=wj he;split at kT
      ·rename_i z1 Vc;injection kT with kT;subst kT;have NI:z1=z:=NI;subst NI;obtain⟨σ2,oy,mA⟩:=acj (w0:=w0) (N:=N) jU n' z1 Vc X (Va id k);rw[oy]at h;rw[<-he]at h;refine⟨e,a1,w1,?_,?_⟩
       ·cases e with
        | exit sG=>
         simp only[Va]at h;simp only[Exit.inBlock];split at h
         next hid=>rw[bB hid];exact⟨σ2,h,mA a1 w1 tG⟩
         next hid=>rw[cm hid];exact⟨σ2,h,mA a1 w1 tG⟩
        |_=>exact⟨σ2,h,mA a1 w1 tG⟩
       ·refine .pass (x:=.inLoop body) rfl (λ_ _=>.inl ?_) NJ
        intro e';rw[e']at he
        match n',br,he with
        |0,br,_=>exact br rfl
        |1,_,he=>cases he
        |n+2,_,he=>cases he
      ·cases kT
     ·cases kT
   intro b kk cs;obtain⟨e,a',w',hq,NJ⟩:=key (fuel x) x hz a w (dJ.rC hx hR) b kk cs;exact⟨e,a',w',hq,.of_steps (.one step_loop) NJ⟩
  ·cases h
 ·cases h
theorem PV.sC{key:Nat->af Nat}{b:Bool}{xs ys:af V}{u:Value}(h:PV w B aj key (b,xs) u)(k:cz xs ys):PV w B aj key (b,ys) u:=by
 obtain⟨us,hu,hs,hr⟩:=h
 refine⟨us,hu,hs.trans k.1,λj y hy=>?_⟩
 have hj:j<xs.length:=by rw[k.1];exact(dS.1 hy).1
 obtain⟨v,hv,dG⟩:=hr j _ (cu hj);exact⟨v,hv,dG.wk (k.2 j _ y (cu hj) hy)⟩
theorem zJ.sC{cs ds:af V}{u:Value}(h:zJ w cs u)(k:cz cs ds):zJ w ds u:=by
 obtain⟨b,off,hu,hb,hr⟩:=h
 refine⟨b,off,hu,hb,λj y hy=>?_⟩
 have hj:j<cs.length:=by rw[k.1];exact(dS.1 hy).1
 obtain⟨v,hv,dG⟩:=hr j _ (cu hj);exact⟨v,hv,dG.wk (k.2 j _ y (cu hj) hy)⟩
theorem PA.sC{b:Bool}{xs ys:af V}{u:Value}(h:PA w (b,xs) u)(k:cz xs ys):PA w (b,ys) u:=by
 cases h with
 |v _ _ h=>exact .v _ _ (h.sC k)
 | p c cs _ h=>
  obtain⟨y,zs,rfl,k1,k2⟩:=k.inv;cases k1;have h:=h.sC k2;obtain⟨c',fy,rfl,_,_⟩:=k2.inv;exact .p _ _ _ h
 | f g c cs u h=>
  obtain⟨y,zs,rfl,k1,k2⟩:=k.inv;cases k1;obtain⟨y,zs,rfl,k1,k3⟩:=k2.inv;cases k1;have h:=h.sC k3;obtain⟨c',fy,rfl,_,_⟩:=k3.inv;exact .f _ _ _ _ h
theorem PA.ra{p:Pt}{u:Value}(h:PA w p u)(hf:∀ y∈p.2,y.az=true):RA w w.heap.size (λ_=>none) ρ (Vb p) u:=by
 have hFP:∀ {cs:af V} {u:Value},zJ w cs u->(∀ y∈cs,y.az=true)->RF w w.heap.size (λ_=>none) cs u:=by
  rintro cs u ⟨b,off,rfl,hb,hr⟩ hf
  refine⟨b,off,rfl,hb,rfl,λj x hx=>⟨hf x (hJ hx),hr j x hx⟩⟩
 cases h with
 | v _ _ h=>
  obtain⟨us,hu,hs,hr⟩:=h;obtain⟨b,xs⟩:=p;cases b with
  | true=>
   refine⟨us,hu,by rw[gB];exact hs,λi y hy=>?_⟩
   rw[dP]at hy;cases hz:xs[i]? with
   |none=>rw[hz]at hy;cases hy
   | some z=>
    rw[hz]at hy;injection hy with hy;subst hy;obtain⟨v,hv,dG⟩:=hr i z hz;exact⟨v,hv,hf z (hJ hz),dG⟩
  | false=>
   have hu:us = #[u]:=hu;subst hu;have h1:xs.length=1:=hs.symm;obtain⟨x,rfl⟩:=List.length_eq_one_iff.1 h1;obtain⟨v,hv,dG⟩:=hr 0 x rfl;have:u=v:=by simpa using hv
   subst this;exact⟨hf x (by simp),dG⟩
 |p c cs _ h=>exact hFP h λy hy=>hf y (.tail _ hy)
 |f g c cs u h=>exact⟨u,rfl,hFP h λy hy=>hf y (.tail _ (.tail _ hy))⟩
theorem Ik:∀ (l:af (Bool×TC)) (ps:af Pt) (x:oV l),An l ps=some x->(iT l x).length=ps.length/\∀ (i:Nat) p,(iT l x)[i]?=some p->∃ q,ps[i]?=some q/\q.1=p.1/\cz q.2 p.2
 |[],[],x,h=>⟨rfl,λi p hp=>by simp[iT]at hp⟩
 | (b,t) :: r,(b',vs) :: ps,x,h=>by
  unfold An at h;cases hb:b==b' with
  |false=>rw[hb]at h;cases h
  | true=>
   rw[hb,aq]at h;have hb:b=b':=by simpa using hb
   subst hb;split at h
   ·rename_i y ys h1 h2;injection h with h;subst h;obtain⟨k1,k2⟩:=Ik r ps ys h2
    refine⟨by simp[iT,k1],λi p hp=>?_⟩
    cases i with
    |zero=>simp[iT]at hp;subst hp;exact⟨(b,vs),rfl,rfl,nW t 0 vs y h1⟩
    |succ i=>exact k2 i p (by simpa [iT]using hp)
   ·cases h
 |[],_::_,x,h=>by simp[An]at h
 |_::_,[],x,h=>by simp[An]at h
def qy(l:af (Bool×TC×Nat)):Bool:=l.all λp=>Nat.ble (full p.2.1) p.2.2
theorem ack(t:TC)(g:Nat)(x:T t)(h:full t<=g):(enc t g x).all V.loc=true:=by
 rw[dQ];intro y hy;have hg:=w5 t g x y hy;have hl:=Mh t g x y hy;cases y with
 | sl t' o' q l=>
  have ho:o'=g:=by simpa [V.gr]using hg
  subst ho;have hl:full t'+2<=full t:=cT hl;show zK t' o'=true
  match o',h with
  |0,h=>omega
  |1,h=>omega
  | n+2,h=>
   simp only[zK,fE];left;exact mJ (by omega)
 |_=>rfl
theorem Vd:∀ (l:af (Bool×TC×Nat)) (ps:af Pt) (x:lR l),qy l=true->n6 l ps=some x->(uD l x).length=ps.length/\∀ (nm:Nat->Nat) (off:Nat) (vs:af Value),kQ w B aj nm off ps vs->kQ w B aj nm off (uD l x) vs
 |[],[],x,_,h=>⟨rfl,λnm off vs hr=>hr⟩
 | [(b,t,g)],[(b',vs)],x,ho,h=>by
  unfold n6 at h;cases hb:b==b' with
  |false=>rw[hb]at h;cases h
  | true=>
   rw[hb]at h;have h:dec t g vs=some x:=h;have hb:b=b':=by simpa using hb
   subst hb;have hg:full t<=g:=by simpa [qy]using ho
   refine⟨rfl,λnm off us hr=>?_⟩
   match us,hr with
   |[u],⟨⟨_,h1⟩,_⟩=>exact⟨⟨ack t g x hg,h1.sC (nW t g vs x h)⟩,trivial⟩
 | (b,t,g) :: q :: r,(b',vs) :: ps,x,ho,h=>by
  unfold n6 at h;cases hb:b==b' with
  |false=>rw[hb]at h;cases h
  | true=>
   rw[hb,aq]at h;have hb:b=b':=by simpa using hb
   subst hb;have uP:full t<=g/\qy (q :: r)=true:=by
    simp only[qy,List.all_cons,bx]at ho ⊢;exact⟨cT ho.1,ho.2⟩
   split at h
   ·rename_i y ys h1 h2;injection h with h;subst h;obtain⟨k1,k2⟩:=Vd (q :: r) ps ys uP.2 h2
    refine⟨by simp[uD,k1],λnm off us hr=>?_⟩
    match us,hr with
    | u :: us,⟨⟨_,hp⟩,kP⟩=>
     have hlen:vs.length=(enc t g y).length:=(nW t g vs y h1).1;refine⟨⟨ack t g y uP.1,hp.sC (nW t g vs y h1)⟩,?_⟩;have Bt:off+vs.length=off+(enc t g y).length:=by rw[hlen]
     have kP:kQ w B aj nm (off+vs.length) ps us:=kP;rw[Bt]at kP;exact k2 nm _ us kP
   ·cases h
 |[],_::_,x,_,h=>by simp[n6]at h
 |[_],[],x,_,h=>by simp[n6]at h
 |[_],_::_::_,x,_,h=>by simp[n6]at h
 |_::_::_,[],x,_,h=>by simp[n6]at h
theorem acm{l:af (Bool×TC×Nat)}{res:ig}{x:lR l}(ho:qy l=true)(h:oK l res=some x){nm:Nat->Nat}{v:Value}(hr:sr w B aj nm res v):sr w B aj nm (gi l x) v:=by
 cases res with
 | one p=>
  obtain⟨k1,k2⟩:=Vd (w:=w) (B:=B) (aj:=aj) l [p] x ho h;have hr:kQ w B aj nm 0 [p] [v]:=hr;have:=k2 nm 0 [v] hr;unfold gi
  match hm:uD l x,k1,this with
  |[q],_,this=>exact this
  |[],k1,_=>cases k1
  |_::_::_,k1,_=>simp at k1
 | cU ps=>
  simp only[oK]at h;cases hb:Nat.beq ps.length 1 with
  |true=>rw[hb]at h;cases h
  | false=>
   rw[hb,au]at h;obtain⟨k1,k2⟩:=Vd (w:=w) (B:=B) (aj:=aj) l ps x ho h;obtain⟨vs,e,hr⟩:=hr;have:=k2 nm 0 _ hr;unfold gi
   match hm:uD l x,k1,this with
   |[q],k1,this=>simp only[List.length_singleton]at k1;rw[<-k1]at hb;cases hb
   |[],_,this=>exact⟨vs,e,this⟩
   |_::_::_,_,this=>exact⟨vs,e,this⟩
theorem acn:∀ (l:af (Bool×TC)) (x:oV l),(iT l x).length=l.length
 |[],x=>rfl
 |(b,t)::l,x=>by simp[iT,acn l]
theorem aco:∀ (l:af (Bool×TC)) (x:oV l) (j:Nat) (p:Pt),(iT l x)[j]?=some p->∀ y∈p.2,y.az=true
 |[],x,j,p,hp,_,_=>by simp[iT]at hp
 | (b,t) :: l,x,0,p,hp,y,hy=>by
  simp[iT]at hp;subst hp;obtain⟨i,hi⟩:=List.mem_iff_getElem?.1 hy;exact mj t 0 x.1 (by omega) i y hi
 |(b,t)::l,x,j+1,p,hp,y,hy=>aco l x.2 j p (by simpa [iT]using hp) y hy
theorem Il{f:Nat}{fn:Func}{code:Code}{uS:af Pt}{ro:af (Bool×TC×Nat)}{y:lR ro}(hf:P.funcs[f]?=some fn)(hb:fn.body=some code)(hN:fn.ntmps=N)(hle:uS.length<=N)(cZ:qy ro=true)
  (cy:ir P Φ) (iS:rz P N Λ (occs code)) (anK:∀(j:Nat) p,uS[j]?=some p->∀y∈p.2,y.az=true) (hy:tN P N Φ Λ code fn.results uS (oK ro)=some y) (nm:Nat->Nat) (w:World) (cq:Array Value) (iR:vU w uS cq) (hQ:Hd w (λ_=>none)):
  Calls P f cq w λe w'=>∃v aD,e = .returned v/\Below w.heap.size w w'/\(∀b k,aD b=some k->w.heap.size<=b/\b<w'.heap.size/\k≠[])/\sr w' w.heap.size aD nm (gi ro y) v:=by
 have hle:cq.size<=N:=by rw[iR.1];exact hle
 refine calls_of_wp hf hb ?_;unfold tN at hy;have hR:R (.of w hQ) N (aci uS) { tmps:=cq++Array.replicate (fn.ntmps-cq.size) undef,defers:=[] } w:=by
  refine⟨λ_=>none,λ_=>.aC 0 0,.of (Below.refl w.heap.size w) (gj _),(λb k hk=>by cases hk),(λn y hy=>by cases hy),λj=>?_,by simp[hN];omega,rfl,(λr l h=>by cases h),(λ_ _=>rfl)⟩
  show RA w w.heap.size _ _ (match uS[j]? with|some p=>Vb p|none=>.undef) _;cases hp:uS[j]? with
  |none=>trivial
  | some p=>
   obtain⟨u,hu,pE⟩:=iR.2 j p hp;have hj:j<cq.size:=(ia.1 hu).1;have e:(cq++Array.replicate (fn.ntmps-cq.size) undef).getD j undef=u:=by rw[jn,Array.getElem?_append_left hj,hu];rfl
   rw[e];exact pE.ra (anK j p hp)
 refine wp_mono (Ic (w0:=.of w hQ) cy code _ _ hy iS _ w hR) λe a' w' he=>?_
 obtain⟨aA,hk,aj,ρ,aV⟩:=he;have fin:G7 P aA fn.results (oK ro)=some y->a'.defers=[]/\∃ v,(results fn a'.tmps).run P w' = .ok v w'/\∃ Ao aD,Ending.returned v=Ending.returned Ao/\Below w.heap.size w w'/\(∀ b k,aD b=some k->w.heap.size<=b/\b<w'.heap.size/\k≠[])/\sr w' w.heap.size aD nm (gi ro y) Ao:=by
  intro nI;obtain⟨res,iX,bE⟩:=ak7 (w0:=.of w hQ) (N:=N) (fn:=fn) nI;obtain⟨v,aD,h1,h2,h3⟩:=bE aj ρ a' w' aV nm;exact⟨aV.defers,v,h1,v,aD,rfl,⟨aV.below.os,aV.below.tape,aV.below.output,aV.below.size,λk hk=>aV.below.block k hk rfl⟩,λb k hb=>⟨(h2 b k hb).1.resolve_right (λh=>h rfl),(h2 b k hb).2⟩,acm cZ iX h3⟩
 split at hk
 next he=>have he:=wj he;subst he;exact fin hk
 next he=>have he:=wj he;subst he;exact fin hk
 ·cases hk
theorem anL{f:Nat}{fn:Func}{code:Code}{ai:af (Bool×TC)}{ro:af (Bool×TC×Nat)}{F:oV ai->ak (lR ro)}(hf:P.funcs[f]?=some fn)(hb:fn.body=some code)(hN:fn.ntmps=N)(lG:(fn.name == "runtime.NumGoroutine")=false)(nJ:Nat.ble ai.length N=true)(cZ:qy ro=true)
  (cy:ir P Φ) (iS:rz P N Λ (occs code)) (hF:∀x,tN P N Φ Λ code fn.results (iT ai x) (oK ro)=F x):enters P f/\kz P f (aE ai ro F):=by
 refine⟨⟨fn,hf,lG,by rw[hb];rfl⟩,λX args k r h=>?_⟩
 simp only[aE]at h;split at h
 ·rename_i x hx;split at h
  ·rename_i y hy
   refine⟨_,h,λX' k'=>by simp only[aE,hx,hy],λnm w cq iR hQ=>?_⟩
   obtain⟨k1,k2⟩:=Ik ai args x hx
   refine Il hf hb hN (by rw[acn];exact cT nJ) cZ cy iS (aco ai x) ((hF x).trans hy) nm w cq ⟨iR.1.trans k1.symm,λj p hp=>?_⟩ hQ
   obtain⟨q,hq,qe,so⟩:=k2 j p hp;obtain⟨u,hu,pE⟩:=iR.2 j q hq;refine⟨u,hu,?_⟩;obtain⟨b,ys⟩:=p;obtain⟨b',xs⟩:=q;simp only at qe;subst qe;exact pE.sC so
  ·cases h
 ·cases h
theorem anM{f:Nat}{fn:Func}{code:Code}{t:TC}{g:Nat}{F:af (T t)->ak (af (T t))}(hf:P.funcs[f]?=some fn)(hb:fn.body=some code)(hN:fn.ntmps=N)(lG:(fn.name == "runtime.NumGoroutine")=false)(nJ:Nat.ble 1 N=true)(cZ:qy [(false,.sl t,g)]=true)
  (cy:ir P Φ) (iS:rz P N Λ (occs code)) (hF:∀x:af (T t),tN P N Φ Λ code fn.results [(false,[.sl t 0 false x])] (oK [(false,.sl t,g)])=F x)
  (h0:tN P N Φ Λ code fn.results [(false,[.nil])] (oK [(false,.sl t,g)])=some ([]:af (T t))) (h1:tN P N Φ Λ code fn.results [(false,[.sl t 0 true []])] (oK [(false,.sl t,g)])=some ([]:af (T t))):
  enters P f/\kz P f (aE [(false,.sl t)] [(false,.sl t,g)] λx=>bif ku x.1 then some ([]:af (T t))else F x.1):=by
 refine⟨⟨fn,hf,lG,by rw[hb];rfl⟩,λX args k r h=>?_⟩
 simp only[aE]at h;split at h
 ·rename_i x hx;split at h
  ·rename_i y hy
   refine⟨_,h,λX' k'=>by simp only[aE,hx,hy],λnm w cq iR hQ=>?_⟩
   obtain⟨k1,k2⟩:=Ik _ args x hx;obtain⟨l,_⟩:=x;have Ve:vU w [(false,[.sl t 0 false l])] cq:=⟨iR.1.trans k1.symm,λj p hp=>by
    obtain⟨q,hq,qe,so⟩:=k2 j p hp;obtain⟨u,hu,pE⟩:=iR.2 j q hq;refine⟨u,hu,?_⟩;obtain⟨b,ys⟩:=p;obtain⟨b',xs⟩:=q;simp only at qe;subst qe;exact pE.sC so⟩
   have hle:1<=N:=cT nJ;have NK:∀ (v:V),v.az=true->∀ (j:Nat) p,([(false,[v])]:af Pt)[j]?=some p->∀ y∈p.2,y.az=true:=by
    intro v hv j p hp y hy;rcases j with _|j
    ·injection hp with hp;subst hp;rw[List.mem_singleton.1 hy];exact hv
    ·cases hp
   obtain⟨u,hu,hp⟩:=Ve.2 0 _ rfl;obtain⟨us,e,_,hv⟩:=hp.pv;have e:us = #[u]:=e;subst e;obtain⟨v,g1,hr⟩:=hv 0 _ rfl;have g1:u=v:=by simpa using g1
   subst g1;have one:∀ v:V,RV w w.heap.size (λ_=>none) [] v u->vU w [(false,[v])] cq:=λv hr=>⟨Ve.1,λj p hp=>by
    rcases j with _|j
    ·injection hp with hp;subst hp;exact⟨u,hu,.v _ _ ⟨#[u],rfl,rfl,λi x hx=>by
      rcases i with _|i
      ·injection hx with hx;subst hx;exact⟨u,rfl,hr⟩
      ·cases hx⟩⟩
    ·cases hp⟩
   cases l with
   |cons a l=>exact Il (uS:=[(false,[.sl t 0 false (a::l)])]) hf hb hN hle cZ cy iS (NK _ rfl) ((hF _).trans hy) nm w cq Ve hQ
   | nil=>
    have hy:some ([]:af (T t))=some y:=hy;injection hy with hy;subst hy;cases hr with
    |c9=>exact Il (uS:=[(false,[.nil])]) hf hb hN hle cZ cy iS (NK _ rfl) h0 nm w cq (one _ (.nil _)) hQ
    |dm _ _ _ A c ho=>exact Il (uS:=[(false,[.sl t 0 true []])]) hf hb hN hle cZ cy iS (NK _ rfl) h1 nm w cq (one _ (.dD _ _ _ _ _ ho)) hQ
    |az _ _ _ qn l b off cap us ho hl oD hB eA hc mS=>exact Il (uS:=[(false,[.sl t 0 true []])]) hf hb hN hle cZ cy iS (NK _ rfl) h1 nm w cq (one _ (.dD _ _ _ _ _ ho)) hQ
  ·cases h
 ·cases h
end
end Go.Proofs.YtecofnkoloihpaaGreat
namespace Go.Proofs.YtecofnkoloihpaaGreat
open Go.RowKit
set_option linter.unusedVariables false
def Im(N:Nat)(σ:S)(t:Nat):S:=match σ.t t with
 | .view [q] s 0 j=>bif Nat.blt t N then (match σ.m q with
  |some (.sl (.sl tc (o+2) qn l))=>bif Nat.beq (full tc) 0 then (((σ.drop q).drop t).root t (.sl (.sl tc 2 false (l.take j)))).set t (.lf (.own [t]))else σ
  |_=>σ)else σ
 |_=>σ
def wm(N:Nat)(σ:S):af ResultVar->S
 |[]=>σ
 |.tmp t::r=>wm N (Im N σ t) r
 |_::r=>wm N σ r
def Io{X:Type}(P:Program)(N:Nat)(Φ:fo)(Λ:oQ)(code:Code)(rv:Array ResultVar)(ins:af In)(args:af Ar)(k:af In->ig->ak X):ak X:=
 iI P N Φ Λ code (zR ins args) λe σ=>match Cl e with
  |some 0=>Hj P (wm N σ rv.toList) rv ins k
  |some 1=>Hj P (wm N σ rv.toList) rv ins k
  |_=>none
section
variable {P:Program} {w w':World} {w0:Wd} {B N:Nat} {aj aD:bM} {ρ ρ':Nat->Loc} {σ:S} {a:Act} {X:Type} {d:Nat} {r:X} {o:Oper} {Φ:fo} {Λ:oQ}
theorem Rl.Im{t:Nat}(h:Rl w0 N aj ρ σ a w):∃ aD ρ',Rl w0 N aD ρ' (Proofs.YtecofnkoloihpaaGreat.Im N σ t) a w:=by
 unfold Proofs.YtecofnkoloihpaaGreat.Im;split
 ·rename_i q s j ht;cases hN:Nat.blt t N with
  |false=>exact⟨aj,ρ,h⟩
  | true=>
   have hN:t<N:=by have:=cT hN;omega
   rw[aq];split
   ·rename_i tc g qn l hm;cases hf:Nat.beq (full tc) 0 with
    |false=>exact⟨aj,ρ,h⟩
    | true=>
     have hf:=cr hf;rw[aq];have hv:=h.tmp t;rw[ht]at hv;obtain⟨A,n,c,fA,_,hj,hu⟩:=hv;have gQ:sliced A 0 j c s = .slice A j c:=by cases A<;>simp[sliced,Addr.add]
     rw[gQ]at hu;let ij:bM:=λb=>match aj b with
      |some k=>bif bP q k then (bif Nat.beq k.length 1 then some [t]else none)else some k
      |none=>none
     have hrel:Rel q aj ij:=⟨h.xk,λb hb=>by simp[ij,hb],λb k hb hk=>by simp[ij,hb,hk]⟩
     have h1:=h.rel hrel (λb k hk=>by
      simp only[ij]at hk;cases hl:aj b with
      |none=>rw[hl]at hk;cases hk
      | some k'=>
       rw[hl]at hk;simp only at hk;refine⟨⟨_,rfl⟩,?_⟩;cases hq:bP q k' with
       | true=>
        rw[hq,aq]at hk;cases hlen:Nat.beq k'.length 1 with
        |true=>rw[hlen,aq]at hk;injection hk with hk;rw[<-hk];simp
        |false=>rw[hlen,au]at hk;cases hk
       | false=>
        rw[hq,au]at hk;injection hk with hk;subst hk;exact(h.dF b k' hl).2.2)
     have cZ:=h.root q _ hm;generalize he:bg.sl (.sl tc (g+2) qn l)=z at cZ;cases cZ with
     |aC=>cases he
     |mp=>cases he
     |gh=>cases he
     | sl v y aO hr=>
      injection he with he;subst he;simp only[cJ,aO]at fA;injection fA with fA;subst fA;have hn:n=l.length:=by cases hr<;>rfl
      have anN:RV w w0.heap.size ij [t] (.sl tc 2 false (l.take j)) (.slice A j c):=by
       cases hr with
       | c9=>
        have:j=0:=by simpa using hj
        subst this;exact .c9 _ _ _
       |dm _ _ _ _ _ ho=>omega
       |dD _ _ _ _ _ ho=>omega
       |az _ _ _ _ _ _ _ _ _ ho=>omega
       | own _ _ _ _ _ b cap cs us dH hh hs nO tf hc hr=>
        have hl:(l.take j).length=j:=by rw[jN];omega
        have hle:∀i (hi:i<(l.take j).length),∃uG:i<l.length,(l.take j)[i]=l[i]:=λi hi=>⟨by omega,List.getElem_take⟩
        have:=RV.own (w:=w) (B:=w0.heap.size) (aj:=ij) [t] tc 0 false (l.take j) b c cs us (by simp[ij,dH,bP]) hh hs (by omega) ⟨tf.1,λh=>by cases h⟩ (λi hi k x hx=>by
         obtain⟨uG,e⟩:=hle i hi;rw[e,Eb tc hf 0 g]at hx;exact hc i uG k x hx) (λi hi k x hx=>by
         obtain⟨uG,e⟩:=hle i hi;rw[e,Eb tc hf 0 g]at hx;exact(hr i uG k x hx).uk (zk tc g _ hf x (hJ hx)))
        rw[hl]at this;exact this
      have hrm:vP w w ij ij t:=⟨gj _,λ_ _ _=>rfl,λ_ _=>rfl,h1.xk⟩
      have h2:=h1.Bo (d:=t) (ρ':=cB ρ t (.eK (.slice A j c))) (x:=.sl (.sl tc 2 false (l.take j))) (h.ef t (.inl hN)) ⟨rfl,rfl,rfl,gj _,λ_ _ _=>rfl⟩ hrm (λb k hb hk=>by
       have:=(h1.dF b k hk).2.1;omega) (λr hr=>cV _ _ _ hr) (.sl _ _ (cG _ _ _) anN)
      refine⟨_,_,h2.below,h2.dF,h2.root,λk=>?_,h2.size,h2.defers,h2.fix,h2.ef⟩
      show RA w w0.heap.size ij _ (cB _ t _ k) _;by_cases hk:k=t
      ·subst hk;rw[cG,hu];exact⟨rfl,by simp only[cJ,cG]⟩
      ·rw[cV _ _ _ hk];exact h2.tmp k
   ·exact⟨aj,ρ,h⟩
 ·exact⟨aj,ρ,h⟩
theorem Rl.wm:∀ (l:af ResultVar) (σ:S) (aj:bM) (ρ:Nat->Loc),Rl w0 N aj ρ σ a w->∃ aD ρ',Rl w0 N aD ρ' (Proofs.YtecofnkoloihpaaGreat.wm N σ l) a w
 |[],_,aj,ρ,h=>⟨aj,ρ,h⟩
 | .tmp t :: r,_,_,_,h=>by
  obtain⟨ij,sv,h1⟩:=h.Im (t:=t);exact Rl.wm r _ ij sv h1
 |.cell _ _::r,_,aj,ρ,h=>Rl.wm r _ aj ρ h
theorem fnM_core{f:Nat}{fn:Func}{code:Code}{ins:af In}{args:af Ar}{k:af In->ig->ak X}(hf:P.funcs[f]?=some fn)(hb:fn.body=some code)(hN:fn.ntmps=N)(xZ:N<=20000)(hlen:args.length<=N)
  (cy:ir P Φ) (iS:rz P N Λ (occs code)) (h:Io P N Φ Λ code fn.results ins args k=some r) (nm:Nat->Nat) (w:World) (aj:bM) (ρ:Nat->Loc) (cq:Array Value)
  (hE:qi w w.heap.size aj ρ 0 ins) (kR:∀b k,aj b=some k->b<w.heap.size/\k≠[]) (dO:cq.size=args.length) (hv:∀i,RA w w.heap.size aj ρ ((zR ins args).t i) (cq.getD i undef)) (hQ:Hd w aj):
  Calls P f cq w λe w'=>∃v aD outs res,k outs res=some r/\e = .returned v/\kJ ⟨w,aj,λ_=>none,hQ,λ_ _=>rfl⟩ w w'/\(∀b k,aD b=some k->(w.heap.size<=b\/aj b≠none)/\b<w'.heap.size/\k≠[])/\sr w' w.heap.size aD nm res v/\sy w w' aD ρ nm 0 res.len ins outs:=by
 let W:Wd:=⟨w,aj,λr=>if 20000<=r/\r<60000 then some (ρ r)else none,hQ,λr hr=>cm (by omega)⟩
 refine calls_of_wp hf hb ?_;unfold Io at h;have hR:R W N (zR ins args) { tmps:=cq++Array.replicate (fn.ntmps-cq.size) undef,defers:=[] } w:=by
  refine⟨aj,ρ,.of (Below.refl w.heap.size w) (gj _),λb k hb=>⟨.inr (by rw[show W.L b=aj b from rfl,hb];simp),kR b k hb⟩,qi.roots ins 0 _ hE (λr x hx=>by cases hx),λj=>?_,by simp[hN];omega,rfl,λr l hr=>?_,λr hr=>?_⟩
  ·by_cases hj:j<cq.size
   ·have e:(cq++Array.replicate (fn.ntmps-cq.size) undef).getD j undef=cq.getD j undef:=by
     rw[jn,Array.getElem?_append_left hj,jn]
    show RA w w.heap.size aj ρ _ ((cq++Array.replicate (fn.ntmps-cq.size) undef).getD j undef);rw[e];exact hv j
   ·have e:(zR ins args).t j = .undef:=by
     simp only[zR,List.getElem?_eq_none (by omega:args.length<=j)]
    rw[e];trivial
  ·have hr:(if 20000<=r/\r<60000 then some (ρ r)else none)=some l:=hr;split at hr
   ·injection hr
   ·cases hr
  ·show (if 20000<=r/\r<60000 then some (ρ r)else none)=none;rw[cm (by omega)]
 refine wp_mono (Ic (w0:=W) cy code _ _ h iS _ w hR) λe a' w' he=>?_
 obtain⟨aA,hk,ij,sv,aV⟩:=he;have fin:Hj P (Proofs.YtecofnkoloihpaaGreat.wm N aA fn.results.toList) fn.results ins k=some r->a'.defers=[]/\∃ v,(results fn a'.tmps).run P w' = .ok v w'/\∃ Ao aD outs res,k outs res=some r/\Ending.returned v=Ending.returned Ao/\kJ ⟨w,aj,λ_=>none,hQ,λ_ _=>rfl⟩ w w'/\(∀ b k,aD b=some k->(w.heap.size<=b\/aj b≠none)/\b<w'.heap.size/\k≠[])/\sr w' w.heap.size aD nm res Ao/\sy w w' aD ρ nm 0 res.len ins outs:=by
  intro nI;obtain⟨outs,res,hko,bE⟩:=ak9 (w0:=W) (N:=N) (fn:=fn) (w1:=w) (vY:=ρ) rfl (λr h1 h2=>bB ⟨h1,h2⟩) (qi.TJ ins 0 hE) nI;obtain⟨dI,fh,mA⟩:=Rl.wm fn.results.toList aA ij sv aV;obtain⟨v,aD,h1,h2,h3,h4⟩:=bE dI fh a' w' mA nm;exact⟨aV.defers,v,h1,v,aD,outs,res,hko,rfl,⟨aV.below.os,aV.below.tape,aV.below.output,aV.below.size,λk hk=>aV.below.block k hk⟩,h2,h3,h4⟩
 split at hk
 next he=>have he:=wj he;subst he;exact fin hk
 next he=>have he:=wj he;subst he;exact fin hk
 ·cases hk
end
end Go.Proofs.YtecofnkoloihpaaGreat
namespace Go.Proofs.YtecofnkoloihpaaGreat
open Go.RowKit
set_option linter.unusedVariables false
def sM:(l:af (Bool×TC×Nat))->af In->ak (vX l)
 |[],[]=>some ()
 | (true,t,g) :: r,.aC cs :: is=>match dec t g cs,sM r is with
  |some x,some xs=>some (x,xs)
  |_,_=>none
 | (false,t,g) :: r,.sl y :: is=>match (bif Nat.ble 1000000 g then (bif y.lM then none else y.en t (g+2))else bif y.lM then y.en t (g+2)else none),sM r is with
  |some x,some xs=>some (x,xs)
  |_,_=>none
 |_,_=>none
def NL:af In->af In->af In->Prop
 |[],[],[]=>True
 |.aC NM::r0,.aC cs::r,.aC fy::r'=>(cz cs fy/\NM.map (λv=>(v.plain,v.az))=fy.map (λv=>(v.plain,v.az))/\∀x∈fy,x.lM=true)/\NL r0 r r'
 |.sl _::r0,.sl y::r,.sl y'::r'=>(Wk y y'/\(y = .nil->y' = .nil))/\NL r0 r r'
 |_,_,_=>False
theorem NN:∀ (ps:af PK) (x0:oL ps) (is:af In) (x:vX (gq ps)),sM (gq ps) is=some x->NL (qj ps x0) is (lS (gq ps) x)
 |[],_,[],x,_=>trivial
 |[],_,_::_,x,h=>by simp[sM,gq]at h
 |.v b t::ps,x0,is,x,h=>NN ps x0.2 is x h
 |.p t g off::ps,x0,[],x,h=>by simp[sM,gq]at h
 |.s t g::ps,x0,[],x,h=>by simp[sM,gq]at h
 |.p t g off::ps,x0,.sl _::_,x,h=>by simp[sM,gq]at h
 |.s t g::ps,x0,.aC _::_,x,h=>by simp[sM,gq]at h
 | .p t g off :: ps,x0,.aC cs :: is,x,h=>by
  have h:sM ((true,t,g)::gq ps) (.aC cs::is)=some x:=h;unfold sM at h;split at h
  next y ys h1 h2=>injection h with h;subst h;exact⟨⟨nW t g cs y h1,akf t g x0.1 y,λz hz=>SM t g y z hz⟩,NN ps x0.2 is ys h2⟩
  ·cases h
 | .s t g :: ps,x0,.sl y :: is,x,h=>by
  have h:sM ((false,t,g)::gq ps) (.sl y::is)=some x:=h;unfold sM at h;split at h
  ·rename_i z zs h1 h2;injection h with h;subst h;refine⟨?_,NN ps x0.2 is zs h2⟩;cases hb:Nat.ble 1000000 g with
   | true=>
    cases hy:y.lM with
    |true=>rw[hb,hy]at h1;cases h1
    | false=>
     have:y = .nil:=by cases y<;>first|rfl|cases hy
     subst this;exact⟨.same _,λ_=>rfl⟩
   | false=>
    cases hy:y.lM with
    |false=>rw[hb,hy]at h1;cases h1
    | true=>
     rw[hb,hy]at h1;exact⟨V.eO h1,λe=>by subst e;cases hy⟩
  ·cases h
theorem sy.typed{w w':World}{aD:bM}{ρ:Nat->Loc}{nm:Nat->Nat}:∀ (ins:af In) (i pos:Nat) (outs EF:af In),sy w w' aD ρ nm i pos ins outs->NL ins outs EF->Hi w w' aD ρ nm i pos ins EF
 |[],i,pos,[],[],h,hk=>trivial
 | .aC NM :: ins,i,pos,.aC cs1 :: outs,.aC Ew :: EF,h,hk=>by
  obtain⟨⟨b,off,cells,oJ,e,e',h1,h2,h3,h4,h5,h6,h7⟩,hr⟩:=h;obtain⟨⟨hw,Vf,hnn⟩,eB⟩:=hk
  refine⟨⟨b,off,cells,oJ,e,e',h1,h2,h3,h4,by rw[<-hw.1];exact h5,by rw[<-hw.1];exact h6,λj x hx=>?_⟩,sy.typed ins _ _ outs EF hr eB⟩
  have hj:j<cs1.length:=by rw[hw.1];exact(dS.1 hx).1
  obtain⟨u,hu,hc⟩:=h7 j _ (cu hj);have hk:=hw.2 j _ x (cu hj) hx;have Vg:∀ x0,NM[j]?=some x0->x0.plain=x.plain/\x0.az=x.az:=by
   intro x0 h0;have e1:(NM.map (λv=>(v.plain,v.az)))[j]?=(Ew.map (λv=>(v.plain,v.az)))[j]?:=by rw[Vf]
   rw[dP,dP,h0,hx]at e1
   simpa using e1
  have hxn:=hnn x (hJ hx);generalize cs1[j]=y at hc hk;refine⟨u,hu,?_⟩;rcases hc with ⟨c1,c2⟩|⟨c1,c2,x0,c3,c4⟩|⟨c1,c2,c6,⟨x0,c3,c4⟩,c5⟩|⟨c1,c2⟩
  ·cases hk with
   |same=>exact .inl ⟨c1,c2⟩
   |nil t o=>cases c1
   |q t o l=>cases c1
   |gr=>cases c1
  ·subst c1 c2;have hf:x.az=false:=by rw[<-(Vg x0 c3).2];exact c4
   cases hk with
   |same=>cases hxn
   |nil t o=>exact .inr (.inr ⟨hf,.c9 _ _ _⟩)
  ·cases hk with
   |same=>exact .inr (.inl ⟨c1,c2,c5⟩)
   |nil t o=>cases c6
   |q t o l=>exact .inr (.inl ⟨rfl,c2,c5⟩)
   |gr t o o' qn l h1 h2=>simp[V.az]at c2;omega
  ·have hf:=hk.aaQ c1;exact .inr (.inr ⟨hf,c2.wk hk⟩)
 | .sl y0 :: ins,i,pos,.sl y1 :: outs,.sl y2 :: EF,h,hk=>by
  obtain⟨h,hr⟩:=h;obtain⟨⟨hw,hn⟩,eB⟩:=hk;exact⟨h.imp hn (λ⟨v,h1,h2⟩=>⟨v,h1,h2.wk hw⟩),sy.typed ins _ _ outs EF hr eB⟩
 |[],_,_,_::_,_,h,_=>h.elim
 |[],_,_,[],_::_,_,h=>h.elim
 |.aC _::_,_,_,[],_,h,_=>h.elim
 |.sl _::_,_,_,[],_,h,_=>h.elim
 |.aC _::_,_,_,.sl _::_,_,h,_=>h.elim
 |.sl _::_,_,_,.aC _::_,_,h,_=>h.elim
 |.aC _::_,_,_,.aC _::_,[],_,h=>h.elim
 |.aC _::_,_,_,.aC _::_,.sl _::_,_,h=>h.elim
 |.sl _::_,_,_,.sl _::_,[],_,h=>h.elim
 |.sl _::_,_,_,.sl _::_,.aC _::_,_,h=>h.elim
theorem acp:∀ (l:af (Bool×TC×Nat)) (ps:af Pt) (x:lR l),n6 l ps=some x->(ps.map λp=>p.2.length)=((uD l x).map λp=>p.2.length)
 |[],[],x,h=>rfl
 | [(b,t,g)],[(b',vs)],x,h=>by
  unfold n6 at h;cases hb:b==b' with
  |false=>rw[hb]at h;cases h
  | true=>
   rw[hb]at h;have h:dec t g vs=some x:=h;simp[uD,(nW t g vs x h).1]
 | (b,t,g) :: q :: r,(b',vs) :: ps,x,h=>by
  unfold n6 at h;cases hb:b==b' with
  |false=>rw[hb]at h;cases h
  | true=>
   rw[hb,aq]at h;split at h
   next y ys h1 h2=>injection h with h;subst h;simp only[uD,lK];rw[acp (q::r) ps ys h2,(nW t g vs y h1).1]
   ·cases h
 |[],_::_,x,h=>by simp[n6]at h
 |[_],[],x,h=>by simp[n6]at h
 |[_],_::_::_,x,h=>by simp[n6]at h
 |_::_::_,[],x,h=>by simp[n6]at h
theorem anO{l:af (Bool×TC×Nat)}{res:ig}{x:lR l}(h:oK l res=some x):res.len=(gi l x).len:=by
 have key:∀ ps,n6 l ps=some x->(ps.map λp=>p.2.length).sum=(gi l x).len:=by
  intro ps h;rw[acp l ps x h];unfold gi
  match hm:uD l x with
  |[q]=>simp[ig.len]
  |[]=>rfl
  |_::_::_=>rfl
 cases res with
 |one p=>have:=key [p] h;simpa [ig.len]using this
 | cU ps=>
  simp only[oK]at h;cases hb:Nat.beq ps.length 1 with
  |true=>rw[hb]at h;cases h
  |false=>rw[hb,au]at h;exact key ps h
section
variable {P:Program} {w w':World} {w0:Wd} {B N:Nat} {aj aD:bM} {ρ ρ':Nat->Loc} {σ:S} {a:Act} {X:Type} {d:Nat} {r:X} {o:Oper} {Φ:fo} {Λ:oQ}
def NO(l ro:af (Bool×TC×Nat))(outs:af In)(res:ig):ak (lR ro×vX l):=
 match oK ro res,sM l outs with
 |some x,some y=>some (x,y)
 |_,_=>none
theorem acq{f:Nat}{fn:Func}{code:Code}{ps:af PK}{ro:af (Bool×TC×Nat)}{F:oL ps->ak (lR ro×vX (gq ps))}(hf:P.funcs[f]?=some fn)(hb:fn.body=some code)(hN:fn.ntmps=N)(lG:(fn.name == "runtime.NumGoroutine")=false)(nJ:Nat.ble ps.length N=true)(xZ:Nat.ble N 20000=true)(cZ:qy ro=true)
  (cy:ir P Φ) (iS:rz P N Λ (occs code)) (hF:∀x,Io P N Φ Λ code fn.results (qj ps x) (mU ps 0 x) (NO (gq ps) ro)=F x):enters P f/\uE P f ⟨ps,ro,F⟩:=by
 refine⟨⟨fn,hf,lG,by rw[hb];rfl⟩,λx y h nm w aj ρ cq hE kR dO hv hQ=>?_⟩
 have h:F x=some y:=h;rw[<-hF x]at h;have hlen:∀ (ps:af PK) (i:Nat) (x:oL ps),(mU ps i x).length=ps.length:=by
  intro ps
  induction ps with
  |nil=>intro i x;rfl
  | cons p ps ih=>
   intro i x;cases p with
   |v=>exact bJ (· + 1) (ih _ _)
   |p=>exact bJ (· + 1) (ih _ _)
   |s=>exact bJ (· + 1) (ih _ _)
 have dO:cq.size=(mU ps 0 x).length:=by rw[hlen];exact dO
 refine(fnM_core hf hb hN (cT xZ) (by rw[hlen];exact cT nJ) cy iS h nm w aj ρ cq hE kR dO hv hQ).mono λe w' uA=>?_
 obtain⟨v,aD,outs,res,hk,he,iV,hl,iX,TX⟩:=uA;unfold NO at hk;split at hk
 next y1 y2 h1 h2=>injection hk with hk;subst hk;refine⟨v,aD,he,iV,hl,acm cZ h1 iX,?_⟩;rw[<-anO h1];exact sy.typed _ _ _ _ _ TX (NN ps x outs y2 h2)
 ·cases hk
end
end Go.Proofs.YtecofnkoloihpaaGreat
namespace Go.Proofs.YtecofnkoloihpaaGreat
open Go.RowKit
set_option linter.unusedVariables false
set_option maxRecDepth 100000
section
variable {P:Program} {w w':World} {w0:Wd} {B N:Nat} {aj aD:bM} {ρ ρ':Nat->Loc} {σ:S} {a:Act} {X:Type} {d:Nat} {r:X} {o:Oper} {Φ:fo} {Λ:oQ}
end
end Go.Proofs.YtecofnkoloihpaaGreat
namespace Go.Proofs.YtecofnkoloihpaaGreat
open Go.RowKit
set_option linter.unusedVariables false
set_option maxRecDepth 100000
def nV(i j:Nat):Nat:=20001+1000*i+j
def EG(i j:Nat)(x:V):Lf:=match x with
 |.sl ..=>.own [nV i j]
 |x=>.v x
def ya(i:Nat):Nat->af V->af Lf
 |_,[]=>[]
 |j,x::xs=>EG i j x::ya i (j+1) xs
def Vh(args:af Pt)(n:Nat):ak bg:=bif Nat.ble 20001 n&&Nat.blt n 60000 then (match args[(n-20001) / 1000]? with
 | some (_,xs)=>(match xs[(n-20001) % 1000]? with
  |some (.sl t g q l)=>some (.sl (.sl t g q l))
  |_=>none)
 |none=>none)else none
def acr(args:af Pt):S:=⟨λi=>match args[i]? with
 |some (false,[x])=>.lf (EG i 0 x)
 |some (true,xs)=>.agg (ya i 0 xs)
 |_=>.undef,Vh args⟩
def NP(σ:S)(rv:Array ResultVar)(a j:Nat)(t:TC):ak (Nat×Nat):=match rv.toList with
 | [.tmp s]=>(match σ.t s with
  |.view [n] sz i k=>bif Nat.beq n (nV a j)&&Nat.beq sz (aB t)then some (i,k)else none
  |_=>none)
 |_=>none
def acs(P:Program)(N:Nat)(Φ:fo)(Λ:oQ)(code:Code)(rv:Array ResultVar)(a j:Nat)(t:TC)(args:af Pt):ak (Nat×Nat):=
 iI P N Φ Λ code (acr args) λe σ=>match Cl e with
  |some 0=>NP σ rv a j t
  |some 1=>NP σ rv a j t
  |_=>none
def Vi(ai:af (Bool×TC))(a j:Nat)(t:TC)(F:oV ai->ak (Nat×Nat)):B2:=⟨a,j,t,λargs=>match An ai args with
 |some x=>F x
 |none=>none⟩
section
variable {P:Program} {w w':World} {w0:Wd} {B N:Nat} {aj aD:bM} {ρ ρ':Nat->Loc} {σ:S} {a:Act} {X:Type} {d:Nat} {r:X} {o:Oper} {Φ:fo} {Λ:oQ}
theorem acu(i:Nat):∀ (xs:af V) (j0 j:Nat),(ya i j0 xs)[j]?=(xs[j]?).map λx=>EG i (j0+j) x
 |[],j0,j=>by simp[ya]
 |x::xs,j0,0=>by simp[ya]
 | x :: xs,j0,j+1=>by
  simp only[ya,List.getElem?_cons_succ,acu i xs (j0+1) j];rw[show j0+1+j=j0+(j+1) by omega]
theorem acv(i:Nat):∀ (xs:af V) (j0:Nat),(ya i j0 xs).length=xs.length
 |[],_=>rfl
 |x::xs,j0=>by simp[ya,acv i xs (j0+1)]
theorem acw{i j:Nat}(h:j<1000):(nV i j-20001) / 1000=i/\(nV i j-20001) % 1000=j:=by
 unfold nV;omega
def Ap(cq:Array Value)(n:Nat):Loc:=.eK ((uI cq ((n-20001) / 1000) ((n-20001) % 1000)).getD undef)
theorem acy{cq:Array Value}{i j:Nat}{x:V}{u:Value}(hj:j<1000)(hu:uI cq i j=some u)(hf:x.az=true)(hr:RV w B (λ_=>none) [] x u):dY w B (λ_=>none) (Ap cq) (EG i j x) u:=by
 unfold EG;split
 ·refine⟨hr.ow rfl rfl,?_⟩;obtain⟨e1,e2⟩:=acw (i:=i) hj;simp only[cJ,Ap,e1,e2,hu];rfl
 ·exact⟨hf,hr⟩
theorem anP{f:Nat}{fn:Func}{code:Code}{ai:af (Bool×TC)}{aa jj:Nat}{t:TC}{F:oV ai->ak (Nat×Nat)}(hf:P.funcs[f]?=some fn)(hb:fn.body=some code)(hN:fn.ntmps=N)(lG:(fn.name == "runtime.NumGoroutine")=false)(nJ:Nat.ble ai.length N=true)(xZ:Nat.ble N 20000=true)(dO:(ai.all λp=>Nat.blt (aB p.2) 1000&&(p.1 || Nat.beq (aB p.2) 1))=true)(hjj:Nat.blt jj 1000=true)(haa:Nat.blt aa 30=true)
  (cy:ir P Φ) (iS:rz P N Λ (occs code)) (hF:∀x,acs P N Φ Λ code fn.results aa jj t (iT ai x)=F x):enters P f/\M5 P f (Vi ai aa jj t F):=by
 refine⟨⟨fn,hf,lG,by rw[hb];rfl⟩,λargs p h w cq iR hQ=>?_⟩
 simp only[Vi]at h;split at h
 ·rename_i x hx;obtain⟨k1,k2⟩:=Ik ai args x hx;have hlen:∀ (l:af (Bool×TC)) (x:oV l),(iT l x).length=l.length:=by
   intro l
   induction l with
   |nil=>intro x;rfl
   |cons p l ih=>obtain⟨b,t⟩:=p;intro x;simp[iT,ih]
  have fA:cq.size=ai.length:=by rw[iR.1,<-k1,hlen]
  have hle:cq.size<=N:=by rw[fA];exact cT nJ
  have xZ:=cT xZ;have xT:∀ (l:af (Bool×TC)) (x:oV l),(l.all λp=>Nat.blt (aB p.2) 1000&&(p.1 || Nat.beq (aB p.2) 1))=true->∀ (j:Nat) p,(iT l x)[j]?=some p->(∀ y∈p.2,y.az=true)/\p.2.length<1000/\(p.1=true\/p.2.length=1):=by
   intro l
   induction l with
   |nil=>intro x _ j p hp;simp[iT]at hp
   | cons c l ih=>
    obtain⟨b,t⟩:=c;intro x hs j p hp;rw[List.all_cons,bx]at hs;cases j with
    | zero=>
     simp[iT]at hp;subst hp
     refine⟨λy hy=>?_,?_⟩
     ·obtain⟨i,hi⟩:=List.mem_iff_getElem?.1 hy;exact mj t 0 x.1 (by omega) i y hi
     ·show (enc t 0 x.1).length<1000/\(b=true\/(enc t 0 x.1).length=1);rw[lA];have h8:=hs.1;rw[bx,fE]at h8;have h9:aB t<1000:=cT h8.1;exact⟨h9,h8.2.imp id cr⟩
    |succ j=>exact ih x.2 hs.2 j p (by simpa [iT]using hp)
  have kL:∀ (i:Nat) (p:Pt),(iT ai x)[i]?=some p->∃ u:Value,cq[i]?=some u/\PV w w.heap.size (λ_=>none) (λ_=>[]) p u/\(∀ y∈p.2,y.az=true)/\p.2.length<1000:=by
   intro i p hp;obtain⟨q,hq,qe,so⟩:=k2 i p hp;obtain⟨u,hu,pE⟩:=iR.2 i q hq;obtain⟨g1,g2,g3⟩:=xT ai x dO i p hp;refine⟨u,hu,?_,g1,g2⟩;obtain⟨b,ys⟩:=p;obtain⟨b',xs⟩:=q;simp only at qe;subst qe;have hw:=pE.sC so;rcases g3 with g3|g3
   ·simp only at g3;subst g3;exact hw.pvS
   ·obtain⟨y,rfl⟩:=List.length_eq_one_iff.1 g3;cases b' with
    |true=>exact hw.pvS
    |false=>exact hw.pv
  have Vj:∀ (i:Nat) (p:Pt),(iT ai x)[i]?=some p->∀ (j:Nat) y,p.2[j]?=some y->∃ u,uI cq i j=some u/\RV w w.heap.size (λ_=>none) [] y u/\y.az=true/\j<1000:=by
   intro i p hp j y hy;obtain⟨u,hu,⟨us,h1,h2,h3⟩,h4,h5⟩:=kL i p hp;obtain⟨v,hv,hr⟩:=h3 j y hy;refine⟨v,?_,hr,h4 y (hJ hy),by have:=(dS.1 hy).1;omega⟩;unfold uI;rw[hu];obtain⟨b,ys⟩:=p;cases b with
   | true=>
    have h1:u = .agg us:=h1;subst h1;exact hv
   | false=>
    have h1:us = #[u]:=h1;subst h1;have hj:j=0:=by
     have:=(ia.1 hv).1
     simpa using this
    subst hj;have:u=v:=by simpa using hv
    subst this;have v8:∀ us,u ≠ .agg us:=by
     rintro us rfl;cases hr
    cases u<;>first|exact absurd rfl (v8 _)|rfl
  let W:Wd:=⟨w,λ_=>none,λr=>if 20000<=r/\r<60000 then some (Ap cq r)else none,hQ,λr hr=>cm (by omega)⟩
  refine calls_of_wp hf hb ?_;rw[<-hF x]at h;unfold acs at h;have hR:R W N (acr (iT ai x)) { tmps:=cq++Array.replicate (fn.ntmps-cq.size) undef,defers:=[] } w:=by
   refine⟨λ_=>none,Ap cq,.of (Below.refl w.heap.size w) (gj _),(λb k hk=>by cases hk),(λn y hy=>?_),λi=>?_,by simp[hN];omega,rfl,λr l hr=>?_,λr hr=>?_⟩
   ·have hy:Vh (iT ai x) n=some y:=hy;unfold Vh at hy;cases hb:(Nat.ble 20001 n&&Nat.blt n 60000)with
    |false=>rw[hb]at hy;cases hy
    | true=>
     rw[hb,aq]at hy;split at hy
     ·rename_i b xs hp;split at hy
      next t' g q l hl=>injection hy with hy;subst hy;obtain⟨u,hu,hr,tr,_⟩:=Vj _ _ hp _ _ hl;refine .sl u _ ?_ (hr.key tr);unfold Ap;rw[hu];rfl
      ·cases hy
     ·cases hy
   ·show RA w w.heap.size _ _ (match (iT ai x)[i]? with | some (false,[x])=>A.lf (EG i 0 x) | some (true,xs)=>.agg (ya i 0 xs) | _=>.undef) _;have D5:∀ p:Pt,(iT ai x)[i]?=some p->∃ u:Value,cq[i]?=some u/\(cq++Array.replicate (fn.ntmps-cq.size) undef).getD i undef=u:=by
     intro p hp;obtain⟨u,hu,_⟩:=kL i p hp;have hi:i<cq.size:=(ia.1 hu).1;exact⟨u,hu,by rw[jn,Array.getElem?_append_left hi,hu];rfl⟩
    split
    ·rename_i x' cW;obtain⟨u,hu,e⟩:=D5 _ cW;rw[e];obtain⟨v,hv,hr,tr,_⟩:=Vj i _ cW 0 x' rfl;have Hg:u=v:=by
      unfold uI at hv;rw[hu]at hv;obtain⟨u2,sq,⟨us,h1,h2,h3⟩,_⟩:=kL i _ cW;rw[hu]at sq;injection sq with sq;subst sq;have h1:us = #[u]:=h1;subst h1;obtain⟨v3,hv3,hr3⟩:=h3 0 x' rfl;have:u=v3:=by simpa using hv3
      subst this;have v8:∀ us,u ≠ .agg us:=by
       rintro us rfl;cases hr3
      cases u<;>first|exact absurd rfl (v8 _)|(simp only[show Nat.beq 0 0=true from rfl,aq,gl]at hv;exact hv)
     subst Hg;exact acy (by omega) hv tr hr
    ·rename_i xs cW;obtain⟨u,hu,e⟩:=D5 _ cW;rw[e];obtain⟨u2,sq,⟨us,h1,h2,h3⟩,_⟩:=kL i _ cW;rw[hu]at sq;injection sq with sq;subst sq;have h1:u = .agg us:=h1
     refine⟨us,h1,by rw[acv];exact h2,λj y hy=>?_⟩
     rw[acu]at hy;cases hz:xs[j]? with
     |none=>rw[hz]at hy;cases hy
     | some z=>
      rw[hz]at hy;injection hy with hy;subst hy;obtain⟨v,hv,hr,tr,hj⟩:=Vj i _ cW j z hz;have huj:us[j]?=some v:=by
       unfold uI at hv;rw[hu,h1]at hv;exact hv
      refine⟨v,huj,?_⟩;rw[fV];exact acy hj hv tr hr
    ·trivial
   ·have hr:(if 20000<=r/\r<60000 then some (Ap cq r)else none)=some l:=hr;split at hr
    ·injection hr
    ·cases hr
   ·show (if 20000<=r/\r<60000 then some (Ap cq r)else none)=none;rw[cm (by omega)]
  refine wp_mono (Ic (w0:=W) cy code _ _ h iS _ w hR) λe a' w' he=>?_
  obtain⟨aA,hk,ij,sv,aV⟩:=he;have fin:NP aA fn.results aa jj t=some p->a'.defers=[]/\∃ u,(results fn a'.tmps).run P w' = .ok u w'/\∃ A n cap,uI cq aa jj=some (.slice A n cap)/\p.1<=p.2/\p.2<=n/\Ending.returned u = .returned (sliced A p.1 p.2 cap (aB t))/\Below w.heap.size w w':=by
   intro nI;unfold NP at nI;split at nI
   ·rename_i s hs;split at nI
    ·rename_i n sz i k hv;cases ga:(Nat.beq n (nV aa jj)&&Nat.beq sz (aB t))with
     |false=>rw[ga]at nI;cases nI
     | true=>
      rw[ga,aq]at nI;injection nI with nI;subst nI;rw[bx]at ga;have hn:=cr ga.1;have anQ:=cr ga.2;subst hn anQ;have h1:=aV.tmp s;rw[hv]at h1;obtain⟨A,m,c,e1,e2,e3,e4⟩:=h1;have hjj:=cT hjj;have v8:20000<=nV aa jj:=by unfold nV;omega
      by_cases bW:nV aa jj<60000
      ·have zU:=aV.fix (nV aa jj) (Ap cq (nV aa jj)) (bB ⟨v8,bW⟩);have e1:(match sv (nV aa jj)with | .eK v=>some v | _=>none)=some (Value.slice A m c):=e1;rw[zU]at e1;obtain⟨d1,d2⟩:=acw (i:=aa) (j:=jj) (by omega);have e1:some ((uI cq ((nV aa jj-20001) / 1000) ((nV aa jj-20001) % 1000)).getD undef)=some (Value.slice A m c):=e1;rw[d1,d2]at e1;injection e1 with e1
       refine⟨aV.defers,_,?_,A,m,c,?_,e2,e3,bJ Ending.returned e4,⟨aV.below.os,aV.below.tape,aV.below.output,aV.below.size,λk hk=>aV.below.block k hk rfl⟩⟩
       ·have iX:results fn a'.tmps=(do let vs <-fn.results.mapM (uB a'.tmps);pure (if h:vs.size=1 then vs[0]else .tuple vs)):=by
         unfold results;congr 1
        have xT:fn.results = #[.tmp s]:=by apply Array.ext';exact hs
        rw[iX,xT,Array.mapM_eq_mapM_toList];simp[uB]
       ·cases hl:uI cq aa jj with
        |none=>rw[hl]at e1;cases e1
        |some u=>rw[hl]at e1;exact bJ some e1
      ·exfalso;have:=cT haa;unfold nV at bW;omega
    ·cases nI
   ·cases nI
  split at hk
  next he=>have he:=wj he;subst he;exact fin hk
  next he=>have he:=wj he;subst he;exact fin hk
  ·cases hk
 ·cases h
end
end Go.Proofs.YtecofnkoloihpaaGreat
namespace Go.Proofs.YtecofnkoloihpaaGreat
open Go.RowKit
set_option linter.unusedVariables false
def Wd.pin(d:Wd)(g:Nat)(l:ak Loc)(hg:20000<=g):Wd:=⟨d.w,d.L,λr=>if r=g then l else d.F r,d.held,λr hr=>by
 show (if r=g then l else d.F r)=none;rw[cm (by omega)];exact d.low r hr⟩
def Aq(g:Nat):af (Bool×af Lf)->A
 |[(false,[x])]=>.lf (x.drop g)
 |[(true,cs)]=>.agg (cs.map (Lf.drop g))
 |[(false,_)]=>.undef
 |ps=>.cU (ps.map λp=>(p.1,p.2.map (Lf.drop g)))
def Cm{X:Type}(P:Program)(g:Nat)(rv:Array ResultVar)(τ:S)(k:S->A->ak X):ak X:=
 qh P τ rv.toList λps=>match τ.m g with
  |some (.gh ys)=>k ⟨λj=>((ys.map (A.drop g))[j]?).getD .undef,(τ.drop g).m⟩ (Aq g ps)
  |_=>none
def acz(g N:Nat)(σ:S)(xs:af A):S:=⟨λj=>((xs.map (A.drop g))[j]?).getD .undef,cB (σ.drop g).m g (some (.gh ((List.range N).map λj=>(σ.t j).drop g)))⟩
def Ip:oQ:=λ_=>none
def Iq{X:Type}(P:Program)(M g:Nat)(Φ:fo)(code:Code)(rv:Array ResultVar)(N:Nat)(σ:S)(xs:af A)(k:S->A->ak X):ak X:=
 bif Nat.ble xs.length M then iI P M Φ Ip code (acz g N σ xs) λe τ=>match Cl e with
  |some 0=>Cm P g rv τ k
  |some 1=>Cm P g rv τ k
  |_=>none
 else none
def acA(P:Program)(M g:Nat)(Φ:fo)(code:Code)(rv:Array ResultVar):uJ:=⟨λX N σ xs k=>Iq P M g Φ code rv N σ xs k⟩
section
variable {P:Program} {w w':World} {w0:Wd} {B M N g:Nat} {aj aD:bM} {ρ ρ':Nat->Loc} {σ:S} {a:Act} {X:Type} {d:Nat} {r:X} {o:Oper} {Φ:fo} {Λ:oQ}
theorem Ir{dst:ak Tmp}{gd:Bool}{k:S->ak X}(h:pI σ dst gd k=some r):∃ τ,k τ=some r/\cR (λX k=>pI (X:=X) σ dst gd k) τ:=by
 unfold pI at h;cases gd with
 |false=>exact⟨σ,h,λX k=>rfl⟩
 | true=>
  rw[aq]at h;split at h
  ·rename_i d;split at h
   ·rename_i b hb;cases b with
    |true=>exact⟨_,h,λX k=>by simp only[pI,aq,hb]⟩
    |false=>exact⟨_,h,λX k=>by simp only[pI,aq,hb,au]⟩
   ·rename_i hb;exact⟨σ,h,λX k=>by
     show pI σ (some d) true k=k σ;unfold pI;simp only[aq]⟩
  ·exact⟨σ,h,λX k=>rfl⟩
theorem anR[Inhabited Wd]{ops:Array Oper}{L i:Nat}{k:S->ak X}(h:Ah P N Φ ops L i σ o k=some r):∃ τ,k τ=some r/\cR (λX k=>Ah (X:=X) P N Φ ops L i σ o k) τ:=by
 unfold Ah at h;split at h
 ·rename_i hw;obtain⟨v,h1,hd,_⟩:=HP (w0:=default) (N:=N) h;cases hv:v.nG (wg Φ ops i L (waits ops i ops.size 0 0) σ) (xN σ ops i L (waits ops i ops.size 0 0))with
  |false=>rw[hv]at h1;cases h1
  | true=>
   rw[hv,aq]at h1;obtain⟨h2,h3⟩:=mC h1;exact⟨_,h2,λX k=>by
    simp only[Ah,hw];refine(hd.at_ _).trans ?_;rw[hv,aq];exact(h3 σ).at_ _⟩
 next hw=>obtain⟨h1,h2⟩:=mC h;exact⟨_,h1,λX k=>by simp only[Ah,hw];exact(h2 σ).at_ _⟩
 ·cases h
theorem Vk[Inhabited Wd](cy:ir P Φ){ops:Array Oper}{k:S->ak X}(h:dN P N Φ ops σ o k=some r):∃ τ,k τ=some r/\cR (λX k=>dN (X:=X) P N Φ ops σ o k) τ:=by
 unfold dN at h;split at h
 next hw=>obtain⟨τ,h1,h2⟩:=Nf cy h;exact⟨τ,h1,λX k=>by simp only[dN,hw];exact h2 X k⟩
 next hw=>obtain⟨h1,h2⟩:=mC h;exact⟨_,h1,λX k=>by simp only[dN,hw];exact(h2 σ).at_ _⟩
 ·cases h
theorem Is[Inhabited Wd](cy:ir P Φ){ops:Array Oper}:∀ (f L:Nat) (σ:S) (k:S->ak X),lU P N Φ ops f L σ k=some r->∃ τ,k τ=some r/\cR (λX k=>lU (X:=X) P N Φ ops f L σ k) τ
 | 0,L,σ,k,h=>by
  unfold lU at h;split at h
  next hr=>exact⟨σ,h,λX k=>by simp only[lU,hr]⟩
  ·cases h
 | f+1,L,σ,k,h=>by
  unfold lU at h;split at h
  next hr=>exact⟨σ,h,λX k=>by simp only[lU,hr]⟩
  ·rename_i i hr;split at h
   ·rename_i o ho;obtain⟨τ,h1,h2⟩:=Vk cy h;obtain⟨gp,h3,h4⟩:=Ir h1;obtain⟨rD,h5,h6⟩:=Is cy f _ gp k h3;exact⟨rD,h5,λX k=>by
     simp only[lU,hr,ho];exact(h2.at_ _).trans ((h4.at_ _).trans (h6.at_ _))⟩
   ·cases h
  ·rename_i rs hn hs;split at h
   ·rename_i i hf;split at h
    ·rename_i o ho;obtain⟨τ,h1,h2⟩:=anR h;obtain⟨gp,h3,h4⟩:=Ir h1;obtain⟨rD,h5,h6⟩:=Is cy f _ gp k h3
     refine⟨rD,h5,λX k=>?_⟩
     show lU P N Φ ops (f+1) L σ k=k rD;unfold lU;split
     next e=>exact absurd e hn
     next i e=>exact absurd e (hs i)
     ·simp only[hf,ho];exact(h2.at_ _).trans ((h4.at_ _).trans (h6.at_ _))
    ·cases h
   ·rename_i hf;split at h
    ·rename_i i Vl;split at h
     ·rename_i o ho;obtain⟨τ,h1,h2⟩:=Vk cy h;obtain⟨gp,h3,h4⟩:=Ir h1;obtain⟨rD,h5,h6⟩:=Is cy f _ gp k h3
      refine⟨rD,h5,λX k=>?_⟩
      show lU P N Φ ops (f+1) L σ k=k rD;unfold lU;split
      next e=>exact absurd e hn
      next i e=>exact absurd e (hs i)
      ·simp only[hf,Vl,ho];exact(h2.at_ _).trans ((h4.at_ _).trans (h6.at_ _))
     ·cases h
    ·rename_i Vl;split at h
     ·rename_i i hf3;split at h
      ·rename_i o ho;obtain⟨τ,h1,h2⟩:=Vk cy h;obtain⟨gp,h3,h4⟩:=Ir h1;obtain⟨rD,h5,h6⟩:=Is cy f _ gp k h3
       refine⟨rD,h5,λX k=>?_⟩
       show lU P N Φ ops (f+1) L σ k=k rD;unfold lU;split
       next e=>exact absurd e hn
       next i e=>exact absurd e (hs i)
       ·simp only[hf,Vl,hf3,ho];exact(h2.at_ _).trans ((h4.at_ _).trans (h6.at_ _))
      ·cases h
     ·cases h
theorem anS{t:TypeId}{x lo hi mx:A}{k:ak X}(h:Ae P σ t x lo hi mx k=some r):k=some r/\∀ (X':Type) (k':ak X'),Ae P σ t x lo hi mx k'=k':=by
 unfold Ae at h;split at h
 ·split at h
  ·rename_i he;split at h
   ·rename_i hn;obtain⟨y,h1,_,hd⟩:=uH _ _ h;split at h1
    ·split at h1
     ·rename_i hb
      refine⟨h1,λX' k'=>?_⟩
      simp only[Ae,he,hn];refine(hd X' _).trans ?_;simp only;rw[bB hb]
     ·cases h1
    ·cases h1
   ·cases h
  ·cases h
 ·cases h
theorem anT[Inhabited Wd](cy:ir P Φ){k:S->ak X}(h:oO P N Φ σ o k=some r):∃ τ,k τ=some r/\∀ (X':Type) (k':S->ak X'),oO P N Φ σ o k'=k' τ:=by
 have same:∀ σ2:S,(∀ (X':Type) (k':S->ak X'),oO P N Φ σ o k'=dU P N Φ σ2 o k')->∃ τ,k τ=some r/\∀ (X':Type) (k':S->ak X'),oO P N Φ σ o k'=k' τ:=by
  intro σ2 e;rw[e]at h;obtain⟨τ,h1,h2⟩:=Nf cy h;exact⟨τ,h1,λX k=>(e X k).trans (h2 X k)⟩
 cases ho:o.op with
 | store t x y=>
  cases hd:o.dst with
  |some d=>exact same σ λX' k'=>by simp only[oO,ho,hd]
  | none=>
   have e:∀ (X':Type) (k':S->ak X'),oO P N Φ σ o k'=(match aH σ y with
    |.view [q] s i j=>Ad P σ q s i j t (aH σ x) k'
    |_=>dU P N Φ σ o k'):=λX' k'=>by simp only[oO,ho,hd];rfl
   rw[e]at h;split at h
   next q s i j hy=>obtain⟨τ,h1,h2⟩:=amq h;exact⟨τ,h1,λX k=>by rw[e];simp only[hy];exact h2.at_ _⟩
   ·rename_i hn;obtain⟨τ,h1,h2⟩:=Nf cy h
    refine⟨τ,h1,λX k=>?_⟩
    rw[e];split
    next q s i j hy=>exact(hn _ _ _ _ hy).elim
    ·exact h2 X k
 | slice t x lo hi mx=>
  cases hd:o.dst with
  |none=>exact same σ λX' k'=>by simp only[oO,ho,hd]
  | some d=>
   cases mx with
   | some m=>
    cases lo with
    |none=>exact same σ λX' k'=>by simp only[oO,ho,hd]
    | some l=>
     cases hi with
     |none=>exact same σ λX' k'=>by simp only[oO,ho,hd]
     | some u=>
      have e:∀(X':Type) (k':S->ak X'),oO P N Φ σ o k'=Ae P σ t (aH σ x) (aH σ l) (aH σ u) (aH σ m) (bif Nat.blt d N then k' (σ.set d .undef)else none):=λX' k'=>by simp only[oO,ho,hd]
      rw[e]at h;obtain⟨h1,h2⟩:=anS h;cases hN:Nat.blt d N with
      |false=>rw[hN]at h1;cases h1
      | true=>
       rw[hN,aq]at h1;exact⟨_,h1,λX k=>by rw[e,h2,hN,aq]⟩
   |none=>exact same σ λX' k'=>by simp only[oO,ho,hd]
 |_=>exact same σ λX' k'=>by simp only[oO,ho]
theorem Vm[Inhabited Wd](cy:ir P Φ){ops:Array Oper}:∀ (rest:af Oper) (j:Nat) (σ:S) (k:S->ak X),v9 P N Φ ops j rest σ k=some r->∃ τ,k τ=some r/\cR (λX k=>v9 (X:=X) P N Φ ops j rest σ k) τ
 |[],j,σ,k,h=>⟨σ,h,λX k=>rfl⟩
 | o :: rest,j,σ,k,h=>by
  unfold v9 at h;split at h
  ·rename_i hw;obtain⟨τ,h1,h2⟩:=anT cy h;obtain⟨gp,h3,h4⟩:=Ir h1;obtain⟨rD,h5,h6⟩:=Vm cy rest _ gp k h3;exact⟨rD,h5,λX k=>by
    simp only[v9,hw];exact(h2 _ _).trans ((h4.at_ _).trans (h6.at_ _))⟩
  ·rename_i hw;obtain⟨h1,h2⟩:=mC h;obtain⟨rD,h5,h6⟩:=Vm cy rest _ _ k h1;exact⟨rD,h5,λX k=>by
    simp only[v9,hw];exact((h2 σ).at_ _).trans (h6.at_ _)⟩
  ·cases h
theorem anU[Inhabited Wd](cy:ir P Φ):∀ (c:Code) (σ:S) (k:Exit->S->ak X),iI P N Φ Ip c σ k=some r->∃ e τ,k e τ=some r/\∀ (X':Type) (k':Exit->S->ak X'),iI P N Φ Ip c σ k'=k' e τ:=by
 intro c
 induction c with
 |skip=>exact λσ k h=>⟨_,_,h,λ_ _=>rfl⟩
 |label l=>exact λσ k h=>⟨_,_,h,λ_ _=>rfl⟩
 |ret=>exact λσ k h=>⟨_,_,h,λ_ _=>rfl⟩
 |exit id=>exact λσ k h=>⟨_,_,h,λ_ _=>rfl⟩
 | region id ops draw=>
  intro σ k h;cases draw with
  | true=>
   simp only[iI]at h;cases hm:P.follows .mixedOrders with
   |false=>rw[hm]at h;cases h
   | true=>
    rw[hm,aq]at h;obtain⟨τ,h1,h2⟩:=Is cy _ _ _ _ h;exact⟨_,τ,h1,λX k=>by simp only[iI,hm,aq];exact h2.at_ _⟩
  | false=>
   simp only[iI]at h;obtain⟨τ,h1,h2⟩:=Vm cy _ _ _ _ h;exact⟨_,τ,h1,λX k=>by simp only[iI];exact h2.at_ _⟩
 | seq x y Ch Ci=>
  intro σ k h;simp only[iI]at h;obtain⟨e,τ,h1,h2⟩:=Ch σ _ h;cases e with
  | normal=>
   obtain⟨e',gp,h3,h4⟩:=Ci τ k h1;exact⟨e',gp,h3,λX k=>by simp only[iI];rw[h2];exact h4 X k⟩
  |_=>exact⟨_,τ,h1,λX k=>by simp only[iI];rw[h2]⟩
 | cond c x y Ch Ci=>
  intro σ k h;simp only[iI]at h;split at h
  ·rename_i b hb;cases b with
   | true=>
    obtain⟨e,τ,h1,h2⟩:=Ch σ k h;exact⟨e,τ,h1,λX k=>by simp only[iI,hb,aq];exact h2 X k⟩
   | false=>
    obtain⟨e,τ,h1,h2⟩:=Ci σ k h;exact⟨e,τ,h1,λX k=>by simp only[iI,hb,au];exact h2 X k⟩
  ·cases h
 | block id c ih=>
  intro σ k h;have e0:∀ (X':Type) (k':Exit->S->ak X'),iI P N Φ Ip (.block id c) σ k'=iI P N Φ Ip c σ λe aA=>match e with
   |.exit sG=>if sG=id then k' .normal aA else k' (.exit sG) aA
   |e=>k' e aA:=λX' k'=>rfl
  rw[e0]at h;obtain⟨e,τ,h1,h2⟩:=ih σ _ h;cases e with
  | exit sG=>
   by_cases hi:sG=id
   ·simp only[hi,if_true]at h1;exact⟨_,τ,h1,λX k=>by rw[e0,h2];simp only[hi,if_true]⟩
   ·simp only[hi,if_false]at h1;exact⟨_,τ,h1,λX k=>by rw[e0,h2];simp only[hi,if_false]⟩
  |_=>exact⟨_,τ,h1,λX k=>by rw[e0,h2]⟩
 |_=>intro σ k h;simp[iI]at h
theorem Vn:∀ (l:af ResultVar) (k:af (Bool×af Lf)->ak X),qh P σ l k=some r->∃ ps,k ps=some r/\cR (λX k=>qh (X:=X) P σ l k) ps
 |[],k,h=>⟨[],h,λX k=>rfl⟩
 | .tmp t :: rest,k,h=>by
  simp only[qh]at h;split at h
  next p hp=>obtain⟨ps,h2,h3⟩:=Vn rest _ h;exact⟨_,h2,λX k=>by simp only[qh,hp];exact h3.at_ _⟩
  ·cases h
 | .cell c ty :: rest,k,h=>by
  simp only[qh]at h;obtain⟨y,hy,hd⟩:=M0 h;split at hy
  ·rename_i p hp;obtain⟨ps,h2,h3⟩:=Vn rest _ hy;exact⟨_,h2,λX k=>by
    simp only[qh];refine(hd.at_ _).trans ?_;simp only[hp];exact h3.at_ _⟩
  ·cases hy
theorem anV{rv:Array ResultVar}{k:S->A->ak X}(h:Cm P g rv σ k=some r):∃ ys ps,σ.m g=some (.gh ys)/\qh P σ rv.toList some=some ps/\k ⟨λj=>((ys.map (A.drop g))[j]?).getD .undef,(σ.drop g).m⟩ (Aq g ps)=some r/\
  ∀(X':Type) (k':S->A->ak X'),Cm P g rv σ k'=k' ⟨λj=>((ys.map (A.drop g))[j]?).getD .undef,(σ.drop g).m⟩ (Aq g ps):=by
 unfold Cm at h;obtain⟨ps,h1,h2⟩:=Vn _ _ h;split at h1
 ·rename_i ys hy;exact⟨ys,ps,hy,h2.at_ _,h1,λX' k'=>by
   unfold Cm;refine(h2.at_ _).trans ?_;simp only[hy]⟩
 ·cases h1
theorem List.acB(xs:af A)(g j:Nat):((xs.map (A.drop g))[j]?).getD .undef=A.drop g ((xs[j]?).getD .undef):=by
 rw[dP];cases xs[j]?<;>rfl
theorem RP.Aq{ps:af (Bool×af Lf)}{vs:af Value}(aO:∀ r,r≠g->ρ' r=ρ r)(hl:vs.length=ps.length)(h:∀ (i:Nat) p v,ps[i]?=some p->vs[i]?=some v->RP w B aj ρ p v):
  RA w B aj ρ' (Aq g ps) (if h:vs.toArray.size=1 then vs.toArray[0]else .tuple vs.toArray):=by
 have cU:ps.length≠1->RA w B aj ρ' (.cU (ps.map λp=>(p.1,p.2.map (Lf.drop g)))) (if h:vs.toArray.size=1 then vs.toArray[0]else .tuple vs.toArray):=by
  intro hn;rw[dif_neg (by simpa [hl]using hn)]
  refine⟨vs.toArray,rfl,by simpa using hl,λj p hp=>?_⟩
  rw[dP]at hp;cases hq:ps[j]? with
  |none=>rw[hq]at hp;cases hp
  | some q=>
   rw[hq]at hp;injection hp with hp;subst hp;have hj:j<vs.length:=by rw[hl];exact(dS.1 hq).1
   exact⟨vs[j],by simp[hj],(h j q vs[j] hq (cu hj)).ff aO⟩
 unfold Proofs.YtecofnkoloihpaaGreat.Aq;split
 ·rename_i x
  match vs,hl,h with
  | [v],_,h=>
   have:=h 0 _ v rfl rfl;obtain⟨u,hu,hr⟩:=this.2 0 x rfl;have:v=u:=by simpa using hu
   subst this;exact hr.ff aO
 ·rename_i cs
  match vs,hl,h with
  |[v],_,h=>exact RP.ff aO (p:=(true,cs)) (h 0 _ v rfl rfl)
 ·trivial
 ·rename_i h1 h2 h3
  refine cU λe=>?_
  obtain⟨⟨b,cs⟩,rfl⟩:=List.length_eq_one_iff.1 e;cases b with
  |true=>exact h2 cs rfl
  |false=>exact h3 cs rfl
theorem anW{f:Nat}{fn:Func}{code:Code}(hf:P.funcs[f]?=some fn)(hb:fn.body=some code)(hN:fn.ntmps=M)(hM:M<=20000)(lG:(fn.name == "runtime.NumGoroutine")=false)(hg:20000<=g/\g<60000)(cy:ir P Φ):
  enters P f/\mB P f (acA P M g Φ code fn.results):=by
 refine⟨⟨fn,hf,lG,by rw[hb];rfl⟩,λX N σ xs k r h=>?_⟩
 have h:Iq P M g Φ code fn.results N σ xs k=some r:=h;unfold Iq at h;cases hl:Nat.ble xs.length M with
 |false=>rw[hl]at h;cases h
 | true=>
  rw[hl,aq]at h;have fU:=cT hl;obtain⟨e,τ,h1,h2⟩:=anU cy _ _ _ h;have h3:(e = .normal\/e = .ret)/\Cm P g fn.results τ k=some r:=by
   split at h1
   next he=>exact⟨.inl (wj he),h1⟩
   next he=>exact⟨.inr (wj he),h1⟩
   ·cases h1
  obtain⟨hex,h3⟩:=h3;obtain⟨ys,ps,hy,iQ,hk,hd⟩:=anV h3
  refine⟨_,_,hk,λX' k'=>?_,λw0 aj ρ a w cq hR dO hv=>?_⟩
  ·show Iq P M g Φ code fn.results N σ xs k'=_;unfold Iq;rw[hl,aq,h2];rcases hex with rfl | rfl
   ·exact hd X' k'
   ·exact hd X' k'
  ·let us:=a.tmps.toList
   let W:Wd:=w0.pin g (some (.cq us)) hg.1
   let sv:=cB ρ g (.cq us)
   have aO:∀r,r≠g->sv r=ρ r:=λr hr=>cV _ _ _ hr
   have gv:∀ j,us.getD j undef=a.tmps.getD j undef:=λj=>by
    show a.tmps.toList.getD j undef=_;rw[fX,nh,jn]
   have hle:cq.size<=M:=by rw[dO];exact fU
   have tG:Rl W M aj sv (acz g N σ xs) { tmps:=cq++Array.replicate (fn.ntmps-cq.size) undef,defers:=[] } w:=by
    refine⟨⟨hR.below.os,hR.below.tape,hR.below.output,hR.below.size,hR.below.block⟩,hR.dF,λr x hx=>?_,λj=>?_,by simp[hN];omega,rfl,λr l hr=>?_,λr hr=>?_⟩
    ·have hx:cB (σ.drop g).m g (some (.gh ((List.range N).map λj=>(σ.t j).drop g))) r=some x:=hx;by_cases rE:r=g
     ·subst rE;rw[cG]at hx;injection hx with hx;subst hx
      refine .gh us _ (cG _ _ _) λj x hj=>?_
      rw[dP]at hj;cases hr:(List.range N)[j]? with
      |none=>rw[hr]at hj;cases hj
      | some j'=>
       rw[hr]at hj;injection hj with hj;obtain⟨bW,pg⟩:=dS.1 hr;rw[nP]at pg;subst pg hj;rw[gv];exact(hR.tmp j).ff aO
     ·rw[cV _ _ _ rE]at hx;have hx:(bif Nat.beq r g then none else (σ.m r).map (bg.drop g))=some x:=hx;cases hb:Nat.beq r g with
      |true=>rw[hb]at hx;cases hx
      | false=>
       rw[hb,au]at hx;cases hm:σ.m r with
       |none=>rw[hm]at hx;cases hx
       | some y=>
        rw[hm]at hx;injection hx with hx;subst hx;exact(hR.root r y hm).ff aO rE
    ·show RA w w0.heap.size aj sv (((xs.map (A.drop g))[j]?).getD .undef) _;rw[List.acB];by_cases hj:j<cq.size
     ·have e1:(cq++Array.replicate (fn.ntmps-cq.size) undef).getD j undef=cq.getD j undef:=by
       rw[jn,Array.getElem?_append_left hj,jn]
      show RA w w0.heap.size aj sv _ ((cq++Array.replicate (fn.ntmps-cq.size) undef).getD j undef);rw[e1];exact(hv j).ff aO
     ·rw[List.getElem?_eq_none (by omega:xs.length<=j)];trivial
    ·have hr:(if r=g then some (Loc.cq us)else w0.F r)=some l:=hr;by_cases rE:r=g
     ·rw[bB rE]at hr;injection hr with hr;rw[rE,<-hr];exact cG _ _ _
     ·rw[cm rE]at hr;rw[aO r rE];exact hR.fix r l hr
    ·show (if r=g then some (Loc.cq us)else w0.F r)=none;rw[cm (by omega)];rcases hr with hr | hr
     ·exact w0.low r (by omega)
     ·exact hR.ef r (.inr hr)
   refine calls_of_wp hf hb ?_
   refine wp_mono (Ic (w0:=W) cy code _ (λe τ=>some (e,τ)) (h2 _ _) (λp hp b hb=>by cases hb) _ w ⟨aj,sv,tG⟩) λe' a' w' he=>?_
   obtain⟨aA,eB,aD,ρ',aV⟩:=he;injection eB with eB;injection eB with k1 k2;subst k1 k2;have Hu:ρ' g = .cq us:=aV.fix g _ (bB rfl);let fh:=cB ρ' g ((w0.F g).getD (.aC 0 0))
   have vW:∀r,r≠g->fh r=ρ' r:=λr hr=>cV _ _ _ hr
   obtain⟨n5,Vo,lN⟩:=Hh (w0:=W) (N:=M) _ _ iQ;injection Vo with Vo;subst Vo;obtain⟨vs,bE,hlen,gW⟩:=lN aD ρ' a' w' aV;have anX:(fn.results.mapM (uB a'.tmps)).run P w' = .ok vs.toArray w':=by
    rw[Array.mapM_eq_mapM_toList];simp[bE]
   have iX:results fn a'.tmps=(do let vs <-fn.results.mapM (uB a'.tmps);pure (if h:vs.size=1 then vs[0]else .tuple vs)):=by
    unfold results;congr 1
   have hRf:Rl w0 N aD fh ⟨λj=>((ys.map (A.drop g))[j]?).getD .undef,(aA.drop g).m⟩ a w':=by
    refine⟨⟨aV.below.os,aV.below.tape,aV.below.output,aV.below.size,aV.below.block⟩,aV.dF,λr x hx=>?_,λj=>?_,hR.size,hR.defers,λr l hr=>?_,hR.ef⟩
    ·have hx:(bif Nat.beq r g then none else (aA.m r).map (bg.drop g))=some x:=hx;cases hb:Nat.beq r g with
     |true=>rw[hb]at hx;cases hx
     | false=>
      have rE:r≠g:=by rintro rfl;simp at hb
      rw[hb,au]at hx;cases hm:aA.m r with
      |none=>rw[hm]at hx;cases hx
      | some y=>
       rw[hm]at hx;injection hx with hx;subst hx;exact(aV.root r y hm).ff vW rE
    ·show RA w' w0.heap.size aD fh (((ys.map (A.drop g))[j]?).getD .undef) _;rw[List.acB];cases hyj:ys[j]? with
     |none=>trivial
     | some y=>
      have cZ:=aV.root g _ hy;generalize hz:bg.gh ys=z at cZ;cases cZ with
      |aC=>cases hz
      |sl=>cases hz
      |mp=>cases hz
      | gh Mq xs' xK hx3=>
       injection hz with hz;subst hz;rw[Hu]at xK;injection xK with xK;subst xK;have:=hx3 j y hyj;rw[gv]at this;exact this.ff vW
    ·by_cases rE:r=g
     ·subst rE;show cB ρ' r ((w0.F r).getD (.aC 0 0)) r=l;rw[cG,hr];rfl
     ·rw[vW r rE];exact aV.fix r l ((cm rE).trans hr)
   have fin:a'.defers=[]/\∃ v,(results fn a'.tmps).run P w' = .ok v w'/\∃ Ao aD ρ',Ending.returned v=Ending.returned Ao/\Rl w0 N aD ρ' ⟨λj=>((ys.map (A.drop g))[j]?).getD .undef,(aA.drop g).m⟩ a w'/\RA w' w0.heap.size aD ρ' (Aq g n5) Ao:=
    ⟨aV.defers,_,by rw[iX,gk,anX,oZ,Sem.run_pure],_,aD,fh,rfl,hRf,RP.Aq vW hlen gW⟩
   rcases hex with rfl|rfl
   ·exact fin
   ·exact fin
end
end Go.Proofs.YtecofnkoloihpaaGreat
