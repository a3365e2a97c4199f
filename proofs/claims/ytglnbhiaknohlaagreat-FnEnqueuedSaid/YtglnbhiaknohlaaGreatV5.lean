/-
  Running the program over pure contents, and that it follows (part 5). Nothing here is a claim.
-/
import Derived.Test.YtglnbhiaknohlaaGreatV4
set_option linter.unusedSimpArgs false
namespace Go.Proofs.YtglnbhiaknohlaaGreat
open Go.RowKit
set_option linter.unusedVariables false
section
variable {P:Program} {w w':World} {w0:Wd} {B N:Nat} {ah aD:bA} {ρ ρ':Nat->Loc} {σ:S} {a:Act} {X:Type} {d:Nat} {r:X} {o:Oper} {Φ:dJ} {p:Nat->Bool} {ops:Array Oper} {e:Nat} {x:aP} {u:A} {Λ:mq}
theorem SL{i W j:Nat}{C:Oper}(D:ops[j]?=some C)(h:FM ops i W j=true):∃ e∈C.after,Region.binds .any e=true/\(e.on=i\/W.testBit e.on=true):=by
 unfold FM at h;rw[D]at h;obtain⟨e,E,hb⟩:=List.any_eq_true.1 h;rw[aK,dy]at hb
 refine⟨e,by simpa using E,hb.1,hb.2.imp (λh=>bQ h) id⟩
theorem LJ{g:Oper->Bool}{C:Oper}{i L W:Nat}:∀ (n j:Nat),CI g ops C i L W n j=true->∀ k,j<=k->k<j+n->k=i\/L.testBit k=true\/(W.testBit k=true/\FM ops i W k=true)\/(W.testBit k=false/\∀ ok,ops[k]?=some ok->g ok=true/\C.apart ops ok=true)
 |0,j,_,k,D,E=>by omega
 | n+1,j,h,k,D,E=>by
  unfold CI at h;rw[aK,dy,dy]at h;by_cases I:k=j
  ·subst I;rcases h.1 with (h | h) | h
   ·exact .inl (bQ h)
   ·exact .inr (.inl h)
   ·cases hw:W.testBit k with
    |true=>rw[hw,ak]at h;exact .inr (.inr (.inl ⟨rfl,h⟩))
    | false=>
     rw[hw,aq]at h
     refine .inr (.inr (.inr ⟨rfl,λok J=>?_⟩))
     rw[J,aK]at h;exact h
  ·exact LJ n (j+1) h.2 k (by omega) (by omega)
theorem oJ{g:Oper->Bool}{i L W:Nat}:∀ (n j:Nat) (k:Nat),j<=k->k<j+n->k≠i->L.testBit k=false->W.testBit k=false->∀ ok,ops[k]?=some ok->g ok=true->gM g ops i L W n j=true
 |0,j,k,J,O,_,_,_,_,_,_=>by omega
 | n+1,j,k,J,O,hi,C,D,ok,E,I=>by
  unfold gM;rw[dy];by_cases Q:k=j
  ·subst Q;refine .inl ?_;have hb:Nat.beq k i=false:=by
    cases hb:Nat.beq k i with
    |false=>rfl
    |true=>exact absurd (bQ hb) hi
   rw[E,hb,C,D]
   simpa using I
  ·exact .inr (oJ n (j+1) k (by omega) (by omega) hi C D ok E I)
theorem Zj{g:Oper->Bool}{i L W:Nat}:∀ (n j:Nat),gM g ops i L W n j=true->∃ k ok,ops[k]?=some ok/\k≠i/\L.testBit k=false/\W.testBit k=false/\g ok=true
 |0,j,h=>by cases h
 | n+1,j,h=>by
  unfold gM at h;rw[dy]at h;rcases h with h|h
  ·rw[aK,fM,lZ,lZ]at h;obtain⟨⟨⟨D,E⟩,I⟩,C⟩:=h;split at C
   next ok J=>exact⟨j,ok,J,(by rintro rfl;rw[Nat.beq_refl]at D;cases D),E,I,C⟩
   ·cases C
  ·exact Zj n (j+1) h
theorem akW[Inhabited Wd]{L i:Nat}{k:S->aj X}(I:fk o.op=true\/e9 σ ops o=some false)(C:Sa σ (tO Φ ops i L (waits ops i ops.size 0 0) σ) (vh σ ops i L (waits ops i ops.size 0 0)) o=true)(h:xR P N Φ ops L i σ o k=some r):
  ∃v,k (fB σ o.dst v)=some r/\mw P ops o (tO Φ ops i L (waits ops i ops.size 0 0) σ) (vh σ ops i L (waits ops i ops.size 0 0)) v σ/\∀σ:S,gI N σ o.dst v some=some (fB σ o.dst v):=by
 unfold xR at h;unfold Sa at C;rw[aK]at C;split at h
 ·rename_i D;obtain⟨v,E,Y,_⟩:=CK (w0:=default) (N:=N) h;cases J:v.jS (tO Φ ops i L (waits ops i ops.size 0 0) σ) (vh σ ops i L (waits ops i ops.size 0 0))with
  |false=>rw[J]at E;cases E
  | true=>
   rw[J,ak]at E;obtain⟨O,Q⟩:=jf E;have I:fk o.op=true:=I.resolve_right (by rw[D];simp)
   refine⟨v,O,.inl ⟨D,I,Y,λy T=>cv.1 C.1 y (by simpa using T),J,λt y r j e T=>?_⟩,λσ=>(Q σ).at_ _⟩
   have U:=C.2;rw[e]at U;simp only[T]at U
   simpa using U
 next D=>obtain⟨O,Q⟩:=jf h;exact⟨.skip,O,.inr ⟨D,rfl⟩,λσ=>(Q σ).at_ _⟩
 ·cases h
theorem CT{i L W n:Nat}(h:xP Φ ops i L W σ n=true):tO Φ ops i L W σ n=true:=by unfold tO;rw[h];rfl
theorem akX{i L W:Nat}(h:ES Φ ops i L W σ o=true):∃ ty t y,o.op = .store ty (.tmp t) y/\o.dst=none/\Lg Φ ops i L W σ t=true/\(∀ k,σ.t t ≠ .ptr k)/\∀ r j,σ.t t = .aH r j->xO σ o=[r]:=by
 unfold ES at h;split at h
 ·rename_i ty t y C;rw[aK,aK]at h
  refine⟨ty,t,y,C,by simpa using h.1.1,h.1.2,λk E=>?_,λr j I=>by simp only[xO,C,I]⟩
  have D:=h.2;rw[E]at D;cases D
 ·cases h
theorem akY{i L W:Nat}(h:R8 Φ ops i L W o=true):∃ x y t C,o.op = .call ⟨.builtin .append,⟨[.tmp x,y]⟩,⟨[t,C]⟩⟩/\mj Φ ops i L W x=true/\(nP t=false/\Nat.beq t C=true/\Ab o.dst t (.tmp x)=false):=by
 unfold R8 at h;split at h
 ·rw[aK,aK,aK]at h;exact⟨_,_,_,_,by assumption,h.1,by simpa using h.2.1.1,h.2.1.2,by simpa using h.2.2⟩
 ·cases h
theorem akZ{i L W:Nat}(h:R7 Φ ops i L W σ o=true):∃ f args C c,o.op = .call { callee:=.value (.func f),args:=args,argTypes:=C }/\Φ f=some (.m c)/\Lc c=true/\qB (λt r=>!gM (jR t) ops i L W ops.size 0 && !gM (λok=>dK ok r) ops i L W ops.size 0 && !gM isApp ops i L W ops.size 0) σ c.ps args.toList=true/\oG Φ σ o=gZ σ c.ps args.toList:=by
 unfold R7 at h;split at h
 ·rename_i f args C D;split at h
  next c E=>rw[aK]at h;exact⟨f,args,C,c,D,E,h.1,h.2,by simp only[oG,D,E]⟩
  ·cases h
 ·cases h
theorem F2{p:Nat->Bool}:∀ (ps:aa PK) (xs:aa Operand),(∀ x∈xs,(aE σ x).nr p=true)->∀ n∈gZ σ ps xs,p n=false
 |[],[],_,n,hn=>by cases hn
 |[],_::_,_,n,hn=>by cases hn
 |.v _ _::_,[],_,n,hn=>by cases hn
 |.p _ _ _::_,[],_,n,hn=>by cases hn
 |.s _ _::_,[],_,n,hn=>by cases hn
 |.v _ _::ps,x::xs,h,n,hn=>F2 ps xs (λy C=>h y (.tail _ C)) n hn
 |.s _ _::ps,x::xs,h,n,hn=>F2 ps xs (λy C=>h y (.tail _ C)) n hn
 | .p _ _ _ :: ps,x :: xs,h,n,hn=>by
  simp only[gZ]at hn;split at hn
  ·rename_i I j E;rcases fF.1 hn with rfl | hn
   ·have D:=h x (.head _);rw[E]at D;have D:(!p n)=true:=D
    simpa using D
   ·exact F2 ps xs (λy C=>h y (.tail _ C)) n hn
  ·exact F2 ps xs (λy C=>h y (.tail _ C)) n hn
theorem LK{D:aj Tmp}{g:Bool}{k:S->aj X}(h:nQ σ D g k=some r):k σ=some r:=by
 unfold nQ at h;cases g with
 |false=>exact h
 | true=>
  rw[ak]at h;split at h
  ·rename_i d;split at h
   ·rename_i b hb;have:∀ c,b=c->σ.set d (.lf (.v (.bool c)))=σ:=by
     rintro c rfl
     refine S.ext' (λk=>?_) λ_=>rfl
     show bL _ _ _ _=_;by_cases C:k=d
     ·subst C;rw[bO,hb]
     ·rw[cu _ _ _ C]
    cases b with
    |true=>rw[ak,this true rfl]at h;exact h
    |false=>rw[aq,this false rfl]at h;exact h
   ·exact h
  ·exact h
theorem Zk{L j:Nat}(h:kR ops L j=true):j<ops.size:=by
 obtain⟨_,o,C,_⟩:=FX.1 h;exact(fl.1 C).1
theorem Aj{L j:Nat}:j∈(List.range ops.size).filter (kR ops L) ↔ kR ops L j=true:=by
 rw[List.mem_filter,eD];exact⟨λh=>h.2,λh=>⟨Zk h,h⟩⟩
structure Zl (ops:Array Oper) (p:Nat->Bool) (σ:S) (o:Oper):Prop where
 is:m7 o=true
 want:e9 σ ops o=some true
 axh:∀y∈o.op.operands,(aE σ y).fk=true/\∀t,y = .tmp t->p t=false
 guard:∀g c t,o.guard=some (g,c)->(ops[g]?).bind (·.dst)=some t->p t=false
theorem ak0{x:A}{n:Nat}{z:V}(h:qC x n=some z)(X:Type)(k:A->aj X):uL x n k=k (.lf (.v z)):=by
 unfold qC at h;split at h
 ·split at h
  next xs _ _ C=>injection h with h;subst h;simp only[uL,C,Option.bind_some,qg]
  ·cases h
 ·cases h
theorem Zm{x:A}{n:Nat}{z:V}{g:Lf->Lf}{G:A->A}(C:∀ xs,G (.ct xs) = .ct (xs.map λp=>(p.1,p.2.map g)))(D:∀ z,g (.v z) = .v z)(h:qC x n=some z):qC (G x) n=some z:=by
 unfold qC at h;split at h
 ·split at h
  next xs _ _ E=>injection h with h;subst h;rw[C];simp only[qC,cO,E,gF,ig,List.map_nil,D]
  ·cases h
 ·cases h
theorem SM{v:A}(C:∀ q,v.drop q=v){rr d:Nat}{key:Nat->aa Nat}:∀ (f j:Nat) (xs:aa Lf) (σ:S),gL rr key f j xs (σ.set d v)=(gL rr key f j xs σ).map λp=>(p.1,p.2.set d v)
 |_,_,[],σ=>by simp[gL]
 |0,j,x::xs,σ=>by cases x<;>simp[gL]
 | f+1,j,.v x :: xs,σ=>by
  simp only[gL,SM C f];cases gL rr key f (j+1) xs σ<;>rfl
 | f+1,j,.own [q] :: xs,σ=>by
  simp only[gL];show (match σ.m q with
   |some (.sl z)=>_
   |_=>none)=_
  cases D:σ.m q with
  |none=>rfl
  | some y=>
   cases y with
   | sl z=>
    simp only;cases Nat.beq q rr with
    |true=>rfl
    | false=>
     simp only[aq];rw[S.drop_set q (C q),SM C f];cases gL rr key f (j+1) (xs.map (Lf.drop q)) (σ.drop q)<;>rfl
   |_=>rfl
 |f+1,j,.own []::xs,σ=>rfl
 |f+1,j,.own (_::_::_)::xs,σ=>rfl
 |f+1,j,.dead::xs,σ=>rfl
theorem SN{rr:Nat}{key:Nat->aa Nat}{x n:Nat}{z:V}:∀ (f j:Nat) (xs:aa Lf) (σ C:S) (E:aa V),gL rr key f j xs σ=some (E,C)->qC (σ.t x) n=some z->qC (C.t x) n=some z
 | _,_,[],σ,C,E,h,D=>by
  simp only[gL]at h;injection h with h;injection h with _ h;subst h;exact D
 |0,j,y::xs,σ,C,E,h,D=>by cases y<;>simp[gL]at h
 | f+1,j,.v y :: xs,σ,C,E,h,D=>by
  simp only[gL]at h;cases I:gL rr key f (j+1) xs σ with
  |none=>rw[I]at h;cases h
  | some p=>
   rw[I]at h;injection h with h;injection h with _ h;subst h;exact SN f (j+1) xs σ p.2 p.1 I D
 | f+1,j,.own [q] :: xs,σ,C,E,h,D=>by
  simp only[gL]at h;split at h
  ·cases hb:Nat.beq q rr with
   |true=>rw[hb]at h;cases h
   | false=>
    rw[hb,aq]at h;cases I:gL rr key f (j+1) (xs.map (Lf.drop q)) (σ.drop q)with
    |none=>rw[I]at h;cases h
    | some p=>
     rw[I]at h;injection h with h;injection h with _ h;subst h;refine SN f (j+1) _ (σ.drop q) p.2 p.1 I ?_;exact Zm (G:=A.drop q) (g:=Lf.drop q) (λ_=>rfl) (λ_=>rfl) D
  ·cases h
 |f+1,j,.own []::xs,σ,C,E,h,D=>by cases h
 |f+1,j,.own (_::_::_)::xs,σ,C,E,h,D=>by cases h
 |f+1,j,.dead::xs,σ,C,E,h,D=>by cases h
theorem ak1{d:Nat}{v:V}{t:TypeId}{x y:A}{J:S}(h:qz P (σ.set d (.lf (.v v))) t x y some=some J):∃ E,qz P σ t x y some=some E/\J=E.set d (.lf (.v v))/\∀ (e n:Nat) (z:V),qC (σ.t e) n=some z->qC (E.t e) n=some z:=by
 unfold qz at h;split at h
 ·rename_i n xs j i s rr U Y;split at h
  ·rename_i hlen;cases I:xs.all Lf.live with
   |false=>rw[I]at h;cases h
   | true=>
    rw[I,ak]at h;split at h
    ·rename_i vs τ1 C;rw[SM (v:=.lf (.v v)) (λ_=>rfl)]at C;cases D:gL rr (λm=>(j+m) :: i :: s :: [rr]) xs.length 0 xs σ with
     |none=>rw[D]at C;cases C
     | some p=>
      rw[D]at C;obtain⟨vs0,L⟩:=p;injection C with C;injection C with Z e2;subst Z e2;split at h
      ·rename_i O Q T l ju;have ak2:L.m rr=some (.sl (.sl O (Q+2) T l)):=ju;split at h
       ·rename_i mT;split at h
        ·rename_i hi;split at h
         ·rename_i hj;split at h
          ·rename_i e he;injection h with h
           refine⟨L.bz [rr] [] [(rr,.sl (.sl O (Q+2) T (l.set i e)))],?_,?_,λex nx z hz=>?_⟩
           ·simp only[qz,U,Y,bk hlen,I,ak,D,ak2,bk mT,aG hi,bk hj,he]
           ·rw[<-h];exact S.Ls _ rfl
           ·exact Zm (G:=A.bz [rr] []) (g:=Lf.bz [rr] []) (λ_=>rfl) (λ_=>rfl) (SN _ _ _ _ _ _ D hz)
          ·cases h
         ·cases h
        ·cases h
       ·cases h
      ·cases h
    ·cases h
  ·cases h
 ·cases h
theorem Zn{t:TypeId}{a b:Operand}(C:o.op = .store t a b)(D:o.dst=none)(E:tL (aE σ a) (aE σ b)=true):cR P N Φ σ o some=qz P σ t (aE σ a) (aE σ b) some:=by
 unfold cR;rw[show fk o.op=false by rw[C];rfl,aq];simp only[gC,C,D,E,ak]
theorem ak3[Inhabited Wd](fo:fm P Φ){K:S->Prop}{f L i:Nat}{U:Oper}{Z:S}(hi:ops[i]?=some U)(hr:kR ops L i=true)(D:Sc ops L σ i=true)(I:cS P N Φ ops σ U some=some Z)(H:Any P N Φ ops K f (L ||| 2 ^ i) Z):Any P N Φ ops K (f+1) L σ:=by
 unfold Sc at D;rw[hi]at D;split at D
 ·rename_i oi' j0 e1 ak4;injection e1 with e1;subst e1;split at D
  ·rename_i x n d oj xW xX F3 hj0;split at D
   ·rename_i ty a b Y Zo Zp;rw[aK,aK]at D;obtain⟨⟨c1,c2⟩,c3⟩:=D;obtain⟨z,hz⟩:=Option.isSome_iff_exists.1 c1;obtain⟨a1,a2,a3⟩:=Oper.apart_spec c3;have hpd:∀ j,j<ops.size->j≠i->L.testBit j=false->j=j0:=by
     intro j E J O;have:j∈(List.range ops.size).filter (λj=>!(Nat.beq j i || L.testBit j)):=by
      rw[List.mem_filter];refine⟨eD.2 E,?_⟩;rw[O,Bool.or_false];cases hb:Nat.beq j i with
      |false=>rfl
      |true=>exact absurd (bQ hb) J
     rw[ak4]at this;exact kY.1 this
    have pH:∀ σ2:S,qC (σ2.t x) n=some z->cS P N Φ ops σ2 U some=gI N σ2 (some d) (.lf (.v z)) some:=by
     intro σ2 h2;unfold cS;simp only[e9,F3];unfold cR;rw[show fk U.op=true by rw[xW];rfl,ak,xW];simp only[cI];rw[show aE σ2 (.tmp x)=σ2.t x from rfl,ak0 h2,xX]
    have hN:∀ σ2:S,gI N σ2 (some d) (.lf (.v z)) some=some (σ2.set d (.lf (.v z))):=by
     intro σ2;rw[pH σ hz]at I;obtain⟨_,g2⟩:=jf I;exact(g2 σ2).at_ _
    have hE:Z=σ.set d (.lf (.v z)):=by
     rw[pH σ hz,hN]at I;injection I with I;exact I.symm
    rw[hE]at H
    refine Lw (W:=0) hi (λj oj _ E=>by rw[Nat.zero_testBit]at E;cases E) (λσ=>σ.set d (.lf (.v z)))
     (λL' C=>qC (C.t x) n=some z/\∀j,j<ops.size->j≠i->L'.testBit j=false->j=j0/\tL (aE C a) (aE C b)=true)
     (λL' C Q=>(pH C Q.1).trans (hN C)) (λL' C j oj' pG Q T J O _ tQ=>?_) f L σ (λj E=>by rw[Nat.zero_testBit]at E;cases E) hr
     ⟨hz,λj E J O=>⟨hpd j E J O,c2⟩⟩ H
    obtain⟨rfl,hg⟩:=Q.2 j (fl.1 T).1 J O;rw[hj0]at T;injection T with T;subst T;have ha:aE (C.set d (.lf (.v z))) a=aE C a:=Af (a1 d xX) _ (by rw[Y];simp[Op.operands]);have hb:aE (C.set d (.lf (.v z))) b=aE C b:=Af (a1 d xX) _ (by rw[Y];simp[Op.operands]);have kL:cS P N Φ ops (C.set d (.lf (.v z))) oj some=qz P (C.set d (.lf (.v z))) ty (aE C a) (aE C b) some:=by
     unfold cS;simp only[e9,Zp];rw[Zn Y Zo (by rw[ha,hb];exact hg),ha,hb]
    rw[kL]at tQ;obtain⟨σ2,h1,h2,h3⟩:=ak1 tQ
    refine⟨σ2,?_,h2,h3 _ _ _ Q.1,λk hk SO F4=>?_⟩
    ·unfold cS;simp only[e9,Zp];rw[Zn Y Zo hg];exact h1
    ·exfalso;rw[qE,lZ]at F4;have:=(Q.2 k hk SO F4.1).1;subst this;simp at F4
   ·cases D
  ·cases D
 ·cases D
theorem Ak[Inhabited Wd](fo:fm P Φ):∀ (f L:Nat) (σ:S) (k:S->aj X),je P N Φ ops f L σ k=some r->Any P N Φ ops (λτ=>k τ=some r) f L σ
 | 0,L,σ,k,h=>by
  unfold je at h;split at h
  ·rename_i hr
   refine⟨λj=>?_,h⟩
   cases T:kR ops L j with
   |false=>rfl
   |true=>have:=Aj.2 T;rw[hr]at this;cases this
  ·cases h
 | f+1,L,σ,k,h=>by
  unfold je at h;split at h
  ·rename_i hr
   refine⟨λ_=>h,λj T=>?_⟩
   have:=Aj.2 T;rw[hr]at this;cases this
  ·rename_i i hr;have hi:kR ops L i=true:=Aj.1 (by rw[hr];exact .head _)
   refine⟨λh=>absurd (h i) (by rw[hi];simp),λj T=>?_⟩
   have T:=Aj.2 T;rw[hr]at T;obtain rfl:=kY.1 T;split at h
   next o ho=>obtain⟨τ,h1,h2⟩:=Ln fo h;exact⟨o,τ,ho,h2,Ak fo f _ τ k (LK h1)⟩
   ·cases h
  ·rename_i rs Z hs;split at h
   ·rename_i i hf;have hc:=List.find?_some hf;have hm:=List.mem_of_find?_eq_some hf;have hi:=Aj.1 hm;split at h
    ·rename_i o ho;unfold YP at hc;rw[ho,aK,aK,aK]at hc;obtain⟨⟨⟨c1,c2⟩,c3⟩,c4⟩:=hc;have c1:fk o.op=true\/e9 σ ops o=some false:=by
      rw[dy]at c1
      refine c1.imp id λc1=>?_
      split at c1
      next b hb=>rw[hb];cases b<;>first|rfl|cases c1
      ·cases c1
     obtain⟨v,h1,hF,hN⟩:=akW c1 c4 h;have m9:=LJ _ _ c3;have c2:=bQ c2;have Al:∀ j,(waits ops i ops.size 0 0).testBit j=true->(L ||| 2 ^ i).testBit j=false:=by
      intro j T;have:((L |||2 ^ i) &&& waits ops i ops.size 0 0).testBit j=false:=by rw[c2];exact Nat.zero_testBit j
      rw[Nat.testBit_and,T,Bool.and_true]at this;exact this
     have sx:∀ j,(waits ops i ops.size 0 0).testBit j=true->L.testBit j=false:=by
      intro j T;have:=Al j T;rw[qE,lZ]at this;exact this.1
     refine akB (W:=waits ops i ops.size 0 0) (ok:=λt r=>!gM (jR t) ops i L (waits ops i ops.size 0 0) ops.size 0 && !gM (λok=>dK ok r) ops i L (waits ops i ops.size 0 0) ops.size 0 && !gM isApp ops i L (waits ops i ops.size 0 0) ops.size 0) (qD:=Lg Φ ops i L (waits ops i ops.size 0 0) σ) (mm:=mm Φ ops i L (waits ops i ops.size 0 0) σ) (mj:=mj Φ ops i L (waits ops i ops.size 0 0)) fo ho hN (λj C D T=>?_) f L σ (λt r iA j C D J O Q=>?_) (λx hx j C D J O Q=>?_) (λx hx=>?_) (λt iA j C D J O Q=>?_) (λt iA j C D J O Q=>?_) (λj C D J O Q=>?_) sx hi hF (Ak fo f _ _ k (LK h1))
     ·have dn:=(fl.1 D).1;rcases m9 j (by omega) (by omega)with e | e | e | e
      ·subst e;have:=Al j T;rw[qE]at this;simp at this
      ·rw[sx j T]at e;cases e
      ·exact SL D e.2
      ·rw[T]at e;cases e.1
     ·have dn:=(fl.1 D).1;rw[aK,aK,fM,fM,fM]at iA
      refine⟨λU=>?_,?_,?_⟩
      ·have:=oJ (g:=jR t) ops.size 0 j (by omega) (by omega) J O Q C D (by unfold jR;rw[U];exact Nat.beq_refl t);rw[iA.1.1]at this;cases this
      ·cases Z:dK C r with
       |false=>rfl
       | true=>
        have:=oJ (g:=λok=>dK ok r) ops.size 0 j (by omega) (by omega) J O Q C D Z;rw[iA.1.2]at this;cases this
      ·cases Z:isApp C with
       |false=>rfl
       | true=>
        have:=oJ (g:=isApp) ops.size 0 j (by omega) (by omega) J O Q C D Z;rw[iA.2]at this;cases this
     ·have dn:=(fl.1 D).1;unfold mm at hx;rw[aK]at hx;intro U;have:=oJ (g:=jR x) ops.size 0 j (by omega) (by omega) J O Q C D (by unfold jR;rw[U];exact Nat.beq_refl x);rw[this]at hx;cases hx.1
     ·unfold mm at hx;rw[aK]at hx;have hx:=hx.2;cases hz:σ.t x with
      |aH r j=>rw[hz]at hx;exact hx
      |gG cs=>trivial
      |_=>rw[hz]at hx;cases hx
     ·have dn:=(fl.1 D).1;by_cases U:C.dst=some t
      ·refine .inr ?_;have SP:jR t C=true:=by unfold jR;rw[U];exact Nat.beq_refl t
       cases CQ:tN C with
       | false=>
        cases F5:Le Φ ops i L (waits ops i ops.size 0 0) σ C with
        | false=>
         have:=oJ (g:=λok=>jR t ok && !(tN ok ||Le Φ ops i L (waits ops i ops.size 0 0) σ ok)) ops.size 0 j (by omega) (by omega) J O Q C D (by rw[SP,CQ,F5];rfl);unfold Lg at iA;rw[this]at iA;cases iA
        | true=>
         unfold Le at F5;split at F5
         next s x f xY=>exact .inr ⟨s,x,f,xY,F5⟩
         ·cases F5
       | true=>
        refine .inl ⟨rfl,?_⟩;refine CT ?_;unfold xP;rw[dy]
        refine .inl (oJ (g:=λo=>dK o t) _ 0 j (by omega) (by omega) J O Q C D ?_)
        obtain⟨ty,e,h1,_,h3,_⟩:=Y4 CQ;unfold dK;rw[U,h1];exact Nat.beq_refl t
      ·exact .inl U
     ·have dn:=(fl.1 D).1;by_cases U:C.dst=some t
      ·refine .inr ?_;have SP:jR t C=true:=by unfold jR;rw[U];exact Nat.beq_refl t
       cases xZ:m7 C with
       | false=>
        cases hma:isApp C with
        |true=>exact .inr (.inl rfl)
        | false=>
         cases Ag:xQ Φ C with
         |true=>exact .inr (.inr rfl)
         | false=>
          have:=oJ (g:=λok=>jR t ok && !(m7 ok ||isApp ok ||xQ Φ ok)) ops.size 0 j (by omega) (by omega) J O Q C D (by rw[SP,xZ,hma,Ag];rfl);unfold mj at iA;rw[this]at iA;cases iA
       | true=>
        refine .inl ?_;have oF:dK C t=true:=by
         unfold m7 at xZ;rw[aK]at xZ;have h1:=xZ.1;unfold dK;rw[U];split at h1
         next uU=>simp only[uU];exact Nat.beq_refl t
         next uU=>simp only[uU];exact Nat.beq_refl t
         next uU=>simp only[uU];exact Nat.beq_refl t
         ·cases h1
        have h9:=oJ (g:=λo=>dK o t) ops.size 0 j (by omega) (by omega) J O Q C D oF;refine⟨rfl,?_,?_⟩
        ·refine CT ?_;unfold xP;rw[dy];exact .inl h9
        ·unfold vh;rw[dy];exact .inl h9
      ·exact .inl U
     ·have dn:=(fl.1 D).1;rcases m9 j (by omega) (by omega)with e | e | e | e
      ·exact absurd e J
      ·rw[O]at e;cases e
      ·rw[Q]at e;cases e.1
      ·obtain⟨e1,e2⟩:=e.2 C D
       refine⟨e2,?_,λn Z=>?_⟩
       ·rw[dy,dy,dy]at e1;rcases e1 with ((e1 | e1) | e1) | e1
        ·exact .inl e1
        ·obtain⟨f',args,gW,c,g1,g2,g3,g4,g5⟩:=akZ e1
         refine .inr (.inl ⟨f',args,gW,c,g1,g2,g3,g4,λn Z=>?_⟩)
         refine CT ?_;unfold xP;rw[dy]
         refine .inr (oJ (g:=λo=>bV n (oG Φ σ o) ||bV n (xO σ o)) _ 0 j (by omega) (by omega) J O Q C D ?_)
         rw[g5,sk.2 Z];rfl
        ·obtain⟨ty,t,y,g1,g2,g3,g4,g5⟩:=akX e1;refine .inr (.inr (.inl ⟨ty,t,y,g1,g2,g3,?_⟩));cases hx:σ.t t with
         | aH r' j'=>
          show tO Φ ops i L (waits ops i ops.size 0 0) σ r'=true;refine CT ?_;unfold xP;rw[dy]
          refine .inr (oJ (g:=λo=>bV r' (oG Φ σ o) ||bV r' (xO σ o)) _ 0 j (by omega) (by omega) J O Q C D ?_)
          rw[g5 r' j' hx,dy];exact .inr (sk.2 (.head _))
         |ptr k=>exact absurd hx (g4 k)
         |_=>trivial
        ·obtain⟨x,y,t1,t2,g1,g2,g3⟩:=akY e1
         refine .inr (.inr (.inr ⟨x,y,t1,t2,g1,g2,g3,λr' gH=>⟨?_,?_⟩⟩))
         ·refine CT ?_;unfold xP;rw[dy]
          refine .inr (oJ (g:=λo=>bV r' (oG Φ σ o) ||bV r' (xO σ o)) _ 0 j (by omega) (by omega) J O Q C D ?_)
          have:xO σ C=[r']:=by simp only[xO,g1,gH]
          rw[this,dy];exact .inr (sk.2 (.head _))
         ·unfold vh;rw[dy]
          refine .inr (oJ (g:=λo=>bV r' (Ld σ o)) _ 0 j (by omega) (by omega) J O Q C D ?_)
          have:Ld σ C=[r']:=by simp only[Ld,g1,gH]
          rw[this];exact sk.2 (.head _)
       ·have h9:=oJ (g:=λo=>dK o n) ops.size 0 j (by omega) (by omega) J O Q C D Z;refine⟨?_,?_⟩
        ·refine CT ?_;unfold xP;rw[dy];exact .inl h9
        ·unfold vh;rw[dy];exact .inl h9
    ·cases h
   ·split at h
    ·rename_i i hf;have hc:=List.find?_some hf;have hm:=List.mem_of_find?_eq_some hf;have hi:=Aj.1 hm;split at h
     ·rename_i o ho;unfold YQ at hc;rw[ho,aK,aK,aK,aK,aK]at hc;obtain⟨⟨⟨⟨⟨c1,c2⟩,c3⟩,c4⟩,c5⟩,c6⟩:=hc;have m9:=LJ _ _ c3;have c2:=bQ c2;have Al:∀ j,(waits ops i ops.size 0 0).testBit j=true->(L ||| 2 ^ i).testBit j=false:=by
       intro j T;have:((L |||2 ^ i) &&& waits ops i ops.size 0 0).testBit j=false:=by rw[c2];exact Nat.zero_testBit j
       rw[Nat.testBit_and,T,Bool.and_true]at this;exact this
      have sx:∀ j,(waits ops i ops.size 0 0).testBit j=true->L.testBit j=false:=by
       intro j T;have:=Al j T;rw[qE,lZ]at this;exact this.1
      obtain⟨τ,h1,h2⟩:=Ln fo h;generalize hp:(λn=>gM (λo=>CJ o n) ops i L (waits ops i ops.size 0 0) ops.size 0)=p at c4 c5;have hpe:∀ j C e,ops[j]?=some C->j≠i->L.testBit j=false->(waits ops i ops.size 0 0).testBit j=false->C.dst=some e->p e=true:=by
       intro j C e D J O Q U;have dn:=(fl.1 D).1;rw[<-hp];exact oJ (g:=λo=>CJ o e) _ 0 j (by omega) (by omega) J O Q C D (by unfold CJ jR;rw[U];exact Nat.beq_refl e)
      have Ai:∀ j C,ops[j]?=some C->j≠i->L.testBit j=false->(waits ops i ops.size 0 0).testBit j=false->Sb ops i L (waits ops i ops.size 0 0) σ C=true/\o.apart ops C=true:=by
       intro j C D J O Q;have dn:=(fl.1 D).1;rcases m9 j (by omega) (by omega)with e|e|e|e
       ·exact absurd e J
       ·rw[O]at e;cases e
       ·rw[Q]at e;cases e.1
       ·exact e.2 C D
      have xZ:∀ j C,ops[j]?=some C->j≠i->L.testBit j=false->(waits ops i ops.size 0 0).testBit j=false->Zl ops p σ C:=by
       intro j C D J O Q;have hb:=(Ai j C D J O Q).1;unfold Sb at hb;rw[aK,aK,aK]at hb;obtain⟨⟨⟨b1,b2⟩,b3⟩,b4⟩:=hb;have Lu:∀t,gM (jR t) ops i L (waits ops i ops.size 0 0) ops.size 0=false->p t=false:=λt Y=>by rw[<-hp];exact Y
       refine⟨b1,?_,λy I=>?_,λg c t hg Y=>?_⟩
       ·split at b2
        next b FB=>rw[FB,b2]
        ·cases b2
       ·have:=cv.1 b3 y (by simpa using I);rw[aK]at this
        refine⟨this.1,λt Y=>?_⟩
        have h2:=this.2;rw[Y]at h2;exact Lu t (by simpa using h2)
       ·rw[hg]at b4;simp only[Y]at b4;exact Lu t (by simpa using b4)
      have FY:∀ n,20000<=n->p n=false:=by
       intro n Z;cases Am:p n with
       |false=>rfl
       | true=>
        rw[<-hp]at Am;obtain⟨k',SQ,Zq,An,ya,tR,Ao⟩:=Zj _ _ Am;have hm:=(xZ k' SQ Zq An ya tR).is;unfold m7 at hm;rw[aK]at hm;have hm:=hm.2;unfold CJ jR at Ao;split at Ao
        next e he=>rw[he]at hm;have h1:e=n:=bQ Ao;subst h1;exact absurd (cB hm) (Nat.not_le_of_gt (Nat.lt_succ_of_le Z))
        ·cases Ao
      have hE:τ=(cS P N Φ ops σ o some).getD σ:=by rw[h2];rfl
      refine Lw (W:=waits ops i ops.size 0 0) ho (λj C D T=>?_) (λσ=>(cS P N Φ ops σ o some).getD σ)
       (λL' E=>((cS P N Φ ops E o some).isSome=true/\R9 E p o=true/\(oG Φ E o).all (vj E p)=true/\vi E o=true)/\(∀ j,L'.testBit j=false->L.testBit j=false)/\
        ∀j C,ops[j]?=some C->j≠i->L'.testBit j=false->(waits ops i ops.size 0 0).testBit j=false->Zl ops p E C)
       (λL' E hI=>?_) (λL' E j C pG hI D J O Q ju=>?_) f L σ sx hi ⟨⟨by rw[h2];rfl,c4,c5,c6⟩,λ_ h=>h,xZ⟩ (by rw[<-hE];exact Ak fo f _ τ k (LK h1))
      ·have dn:=(fl.1 D).1;rcases m9 j (by omega) (by omega)with e | e | e | e
       ·subst e;have:=Al j T;rw[qE]at this;simp at this
       ·rw[sx j T]at e;cases e
       ·exact SL D e.2
       ·rw[T]at e;cases e.1
      ·obtain⟨z,hz⟩:=Option.isSome_iff_exists.1 hI.1.1;rw[hz];rfl
      ·obtain⟨⟨i1,i2,i3,i6⟩,i4,i5⟩:=hI;have ap:=(Ai j C D J (i4 j O) Q).2;obtain⟨m1,m2,m3,m4⟩:=i5 j C D J O Q;obtain⟨a1,a2,a3⟩:=Oper.apart_spec ap;obtain⟨z,hz⟩:=Option.isSome_iff_exists.1 i1;have hEz:(cS P N Φ ops E o some).getD E=z:=by rw[hz];rfl
       have ju:cS P N Φ ops z C some=some pG:=by rw[<-hEz];exact ju
       have Zr:∀ t,(E.t t).fk=true->o.dst≠some t->z.t t=E.t t:=by
        intro t Y U;unfold cS at hz;split at hz
        ·exact akV fo c1 i6 hz Y U
        ·obtain⟨g1,_⟩:=jf hz;injection g1 with g1;rw[<-g1];cases xX:o.dst with
         |none=>rfl
         |some d=>exact cu _ _ _ (by rintro rfl;exact U xX)
        ·cases hz
       have ak5:∀ g c t,C.guard=some (g,c)->(ops[g]?).bind (·.dst)=some t->(E.t t).fk=true\/E.t t = .skip:=by
        intro g c t hg Y;unfold e9 at m2;rw[hg]at m2;simp only[Y]at m2;split at m2
        next b hb=>left;rw[hb];rfl
        next hb=>exact .inr hb
        ·cases m2
       have F3:∀ g c t,C.guard=some (g,c)->(ops[g]?).bind (·.dst)=some t->o.dst≠some t:=by
        intro g c t hg Y U;refine a1 t U (List.mem_append_right _ ?_);rw[hg];simp only[Y];simp
       have hwz:e9 z ops C=some true:=by
        rw[vn (σ:=E) λg c t hg Y=>?_]
        ·exact m2
        ·rcases ak5 g c t hg Y with h | h
         ·exact Zr t h (F3 g c t hg Y)
         ·exfalso;unfold e9 at m2;rw[hg]at m2;simp only[Y,h]at m2;cases m2
       have ak6:∀ y∈C.op.operands,aE z y=aE E y:=by
        intro y I;cases y with
        | tmp t=>
         refine Zr t (m3 _ I).1 λU=>?_
         exact a1 t U (List.mem_append_left _ (List.mem_filterMap.2 ⟨.tmp t,by simpa using I,rfl⟩))
        |_=>rfl
       obtain⟨e,x,u,U,he,hx,hu,tQ,mz⟩:=FV m1 hwz ju;have Ap:=hpe j C e D J (i4 j O) Q U;have r5:=a3 e U;have q8:∀ y∈o.op.operands,(aE E y).nr p=true/\y ≠ .tmp e:=by
        intro y I;refine⟨cv.1 i2 y (by simpa using I),?_⟩;rintro rfl;exact r5 (List.mem_append_left _ (List.mem_filterMap.2 ⟨.tmp e,by simpa using I,rfl⟩))
       have xX:o.dst≠some e:=λh=>a2 e h U
       have LL:e9 (cz e x u E) ops o=e9 E ops o:=by
        have hw:∃ b,e9 E ops o=some b:=by
         unfold cS at hz;cases hw:e9 E ops o with
         |none=>rw[hw]at hz;cases hz
         |some b=>exact⟨b,rfl⟩
        obtain⟨b,hw⟩:=hw
        refine vn λg c t' Cd Zs=>?_
        rw[qF,bB ?_]
        ·exact A.q6 (p:=p) (pb:=p) (Sl hw g c t' Cd Zs) Ap Ap
        ·rintro rfl;refine r5 (List.mem_append_right _ ?_);rw[Cd];simp only[Zs];simp
       have pH:cS P N Φ ops (cz e x u E) o some=some (cz e x u z):=by
        unfold cS at hz ⊢;rw[LL];split at hz
        next hw=>exact akU fo hx hu he Ap FY c1 i6 xX q8 (λn Z=>cv.1 i3 n Z) hz
        next hw=>obtain⟨g1,g2⟩:=jf hz;injection g1 with g1;refine((g2 (cz e x u E)).at_ _).trans ?_;rw[<-g1,Sx xX rfl]
        ·cases hz
       have SR:∀y∈o.op.operands,aE (cz e x u E) y=aE E y:=λy I=>vo (q8 y I).1 Ap (q8 y I).2
       have hL:∀ k,(L' ||| 2 ^ j).testBit k=false->L'.testBit k=false/\k≠j:=by
        intro k hk;rw[qE,lZ]at hk;refine⟨hk.1,?_⟩;rintro rfl;simp at hk
       refine⟨cz e x u E,mz E m2 (λy I=>(ak6 y I).symm),?_,⟨by rw[pH];rfl,?_,?_,?_⟩,λk hk=>i4 k (hL k hk).1,λk SQ hk SO F4 hkW=>?_⟩
       ·rw[tQ,pH];rfl
       ·unfold R9;rw[cv];intro y I;rw[SR y (by simpa using I)];exact(q8 y (by simpa using I)).1
       ·have hrj:oG Φ (cz e x u E) o=oG Φ E o:=by
         unfold oG;split
         ·rename_i f' args gW xY;split
          ·refine FU _ _ λy I=>SR y ?_
           rw[xY];simp only[Op.operands,Call.operands];simp only[Array.mem_append]
           first
            |exact .inr (by simpa using I)
            |exact .inl (by simpa using I)
          ·rfl
         ·rfl
        rw[hrj,cv];intro n Z;have h3:=cv.1 i3 n Z;have dY:n≠e:=by
         rintro rfl;have Am:p n=false:=by
          unfold oG at Z;split at Z
          ·rename_i f' args gW xY;split at Z
           ·refine F2 _ _ (λy I=>(q8 y ?_).1) n Z
            rw[xY];simp only[Op.operands,Call.operands];simp only[Array.mem_append]
            first
             |exact .inr (by simpa using I)
             |exact .inl (by simpa using I)
           ·cases Z
          ·cases Z
         rw[Ap]at Am;cases Am
        unfold vj at h3 ⊢;rw[nc,bB dY];cases hm:E.m n with
        |none=>rfl
        | some y=>
         cases y with
         |sl=>rfl
         |mp=>rfl
         |gh=>rfl
         | ax cs=>
          rw[hm]at h3;simp only[gF,aP.drop,gB.lJ h3 Ap];exact h3
       ·unfold vi at i6 ⊢;split
        next ty t y xY=>rw[xY]at i6;have e1:(cz e x u E).t t=E.t t:=SR (.tmp t) (by rw[xY];simp[Op.operands]);rw[e1];exact i6
        ·rfl
       ·obtain⟨n1,n2,n3,n4⟩:=i5 k SQ hk SO (hL k F4).1 hkW;have ak7:∀ t,p t=false->t≠e:=by rintro t Y rfl;rw[Ap]at Y;cases Y
        have Zt:∀ t,(E.t t).fk=true->p t=false->(cz e x u E).t t=E.t t:=by
         intro t Y htp;rw[qF,bB (ak7 t htp)];exact A.LI Y e
        refine⟨n1,?_,λy I=>?_,n4⟩
        ·rw[vn (σ:=E) λg c t hg Y=>?_]
         ·exact n2
         ·unfold e9 at n2;rw[hg]at n2;simp only[Y]at n2;split at n2
          next b hb=>exact Zt t (by rw[hb];rfl) (n4 g c t hg Y)
          next hb=>cases n2
          ·cases n2
        ·refine⟨?_,(n3 y I).2⟩;cases y with
         | tmp t=>
          show ((cz e x u E).t t).fk=true;rw[Zt t (n3 _ I).1 ((n3 _ I).2 t rfl)];exact(n3 _ I).1
         |const v=>exact(n3 _ I).1
         |global g=>exact(n3 _ I).1
         |func f=>exact(n3 _ I).1
     ·cases h
    ·split at h
     ·rename_i i hf;have hc:=List.find?_some hf;have hm:=List.mem_of_find?_eq_some hf;have hi:=Aj.1 hm;split at h
      next o ho=>obtain⟨τ,h1,h2⟩:=Ln fo h;exact ak3 fo ho hi hc h2 (Ak fo f _ τ k (LK h1))
      ·cases h
     ·cases h
theorem CU{b:Bool}(h:e9 σ ops o=some b)(hR:Rl w0 N ah ρ σ a w):Region.wanted o (yielded ops a.tmps)=b:=by
 unfold e9 at h;split at h
 next I=>injection h with h;subst h;simp[Region.wanted,I]
 ·rename_i j want I;split at h
  ·rename_i t J;have E:=hR.tmp t;rw[gE]at E;split at h
   ·rename_i c L;rw[L]at E;have C:=E.2.w5;injection h with h;subst h;cases D:a.tmps[t]? with
    |none=>rw[D]at C;cases C
    | some v=>
     rw[D]at C;have C:v = .bool c:=C;subst C;simp only[Region.wanted,I,yielded,J,Option.bind_some,D];cases c<;>cases want<;>rfl
   ·rename_i L;rw[L]at E;injection h with h;subst h;cases D:a.tmps[t]? with
    |none=>simp[Region.wanted,I,yielded,J,D]
    | some v=>
     rw[D]at E;have C:v=undef:=E;subst C;simp only[Region.wanted,I,yielded,J,Option.bind_some,D,undef];cases want<;>rfl
   ·cases h
  ·cases h
structure ri (ops:Array Oper) (Zu:Array Bool) (L:Nat):Prop where
 size:Zu.size=ops.size
 bit:∀j,j<ops.size->Zu[j]?=some (L.testBit j)
 out:∀j,ops.size<=j->L.testBit j=false
theorem ri.Zv{C:Array Bool}{L:Nat}(h:ri ops C L)(j:Nat):C.getD j false=L.testBit j:=by
 rw[gE];by_cases D:j<ops.size
 ·rw[h.bit j D];rfl
 ·rw[h.out j (by omega),Array.getElem?_eq_none (by rw[h.size];omega)];rfl
theorem ri.ready{O:Array Bool}{L:Nat}(h:ri ops O L)(j:Nat):j∈Region.ready .any ops O ↔ kR ops L j=true:=by
 rw[mem_ready,FX];constructor
 ·rintro⟨D,o,C,E⟩;have I:=(fl.1 C).1;rw[gE,h.bit j I]at D;exact⟨D,o,C,λe J hb=>by rw[<-h.Zv];exact E e J hb⟩
 ·rintro⟨D,o,C,E⟩;have I:=(fl.1 C).1;exact⟨by rw[gE,h.bit j I];exact D,o,C,λe J hb=>by rw[h.Zv];exact E e J hb⟩
theorem ri.set{E:Array Bool}{L i:Nat}(h:ri ops E L)(hi:i<ops.size):ri ops (E.setIfInBounds i true) (L ||| 2 ^ i):=by
 refine⟨by simp[h.size],λj C=>?_,λj C=>?_⟩
 ·rw[qE];by_cases D:i=j
  ·subst D;rw[Array.getElem?_setIfInBounds_self_of_lt (by rw[h.size];exact hi)];simp
  ·rw[Array.getElem?_setIfInBounds_ne D,h.bit j C];simp[D]
 ·rw[qE,h.out j C];have:i≠j:=by omega
  simpa using this
theorem ri.start:ri ops (Array.replicate ops.size false) 0:=
 ⟨by simp,λj C=>by simp[C],λj _=>Nat.zero_testBit j⟩
theorem ak8(T:fm P Φ){k:S->aj X}{i:Nat}(hi:ops[i]?=some o)(h:cS P N Φ ops σ o k=some r):∃ E,k E=some r/\∀ a w (K:Act->World->Prop) (Q:Exit->Act->World->Prop),R w0 N σ a w->(∀ O w',R w0 N E O w'->K O w')->wpOp P ops Q i K a w:=by
 unfold cS at h;split at h
 ·rename_i I;obtain⟨E,U,Y⟩:=Sg (w0:=w0) T h
  refine⟨E,U,λa w K Q hR D=>?_⟩
  obtain⟨ah,ρ,C⟩:=hR;unfold wpOp;rw[hi];simp only[CU I C,if_true];exact .inl (Y a w K Q ⟨ah,ρ,C⟩ D)
 ·rename_i I;unfold gI at h;split at h
  ·rename_i J
   refine⟨σ,h,λa w K Q hR D=>?_⟩
   obtain⟨ah,ρ,C⟩:=hR;unfold wpOp;rw[hi];simp only[CU I C,J];exact D _ _ ⟨ah,ρ,C⟩
  ·rename_i d J;cases L:Nat.blt d N with
   |false=>rw[L]at h;cases h
   | true=>
    rw[L,ak]at h
    refine⟨_,h,λa w K Q hR D=>?_⟩
    obtain⟨ah,ρ,C⟩:=hR;unfold wpOp;rw[hi];simp only[CU I C,J];exact D _ _ ⟨ah,ρ,C.set rfl (by have:=cB L;omega)⟩
 ·cases h
theorem SS(T:fm P Φ){K:S->Prop}{Q:Exit->Act->World->Prop}(I:∀ J,K J->∀ a w,R w0 N J a w->Q .normal a w):
  ∀(f L:Nat) (σ:S) (E:Array Bool),Any P N Φ ops K f L σ->ri ops E L->∀a w,R w0 N σ a w->wpAny P .any ops Q f E a w
 | 0,L,σ,E,h,D,a,w,hR=>by
  refine⟨List.eq_nil_iff_forall_not_mem.2 λj C=>?_,I σ h.2 a w hR⟩
  rw[D.ready,h.1 j]at C;cases C
 | f+1,L,σ,E,h,D,a,w,hR=>by
  refine⟨λY=>I σ (h.1 λj=>?_) a w hR,λj C=>?_⟩
  ·cases C:kR ops L j with
   |false=>rfl
   | true=>
    have:=(D.ready j).2 C;rw[Y]at this;cases this
  ·have U:=(D.ready j).1 C;obtain⟨o,J,Z,hd,hA⟩:=h.2 j U;obtain⟨pG,O,hw⟩:=ak8 (w0:=w0) T Z hd;injection O with O;subst O;exact hw a w _ Q hR λa' w' gf=>SS T I f (L |||2 ^ j) _ _ hA (D.set (Zk U)) a' w' gf
theorem R.drawn(hR:R w0 N σ a w):R w0 N σ a { w with drawn:=w.drawn+1 }:=by
 obtain⟨ah,ρ,h⟩:=hR;exact⟨ah,ρ,h.grow ⟨rfl,rfl,rfl,dV _,λ_ _=>rfl⟩ (λ_ _=>rfl) (λb k hb hl=>absurd (h.cH b k hl).2.1 (Nat.not_lt.2 hb))⟩
theorem ak9[Inhabited Wd](C:fm P Φ){id:Nat}{k:S->aj X}(E:P.follows .mixedOrders=true)(h:je P N Φ ops ops.size 0 σ k=some r){Q:Exit->Act->World->Prop}(I:∀ D,k D=some r->∀ a w,R w0 N D a w->Q .normal a w)(hR:R w0 N σ a w):
  (Code.region id ops true).wp P Q a w:=
 wp_region_any E (SS C I _ _ _ _ (Ak C _ _ _ _ h) ri.start a _ hR.drawn)
def fe(e:Nat)(σ:S):Prop:=σ.drop e=σ
theorem fe.t_(h:fe e σ)(k:Nat):(σ.t k).drop e=σ.t k:=congrFun (bD S.t h) k
theorem fe.m_(h:fe e σ)(r:Nat):(bif Nat.beq r e then none else (σ.m r).map (aP.drop e))=σ.m r:=congrFun (bD S.m h) r
theorem fe.pF(h:fe e σ)(y:Operand):(aE σ y).drop e=aE σ y:=by
 cases y with
 |tmp t=>exact h.t_ t
 | const v=>
  show (Ce v).drop e=Ce v;unfold Ce;split<;>rfl
 |global g=>rfl
 |func f=>rfl
def nS(e n:Nat):Bool:=Nat.beq n e
theorem LM(e:Nat):nS e e=true:=Nat.beq_refl e
theorem SU{k:aa Nat}(h:aY e k=false):dI (nS e) k=true:=by
 unfold dI;unfold aY at h;split
 ·rename_i r C;rw[C]at h;unfold nS;cases hb:Nat.beq r e with
  |false=>rfl
  | true=>
   have:=bQ hb;subst this;simp at h
 ·rfl
theorem Lf.CV{l:Lf}(h:l.drop e=l):l.nr (nS e)=true:=by
 cases l with
 | own k=>
  have h:(bif aY e k then Lf.dead else .own k) = .own k:=h;cases hl:aY e k with
  |true=>rw[hl]at h;cases h
  |false=>exact SU hl
 |v z=>rfl
 |dead=>rfl
theorem gB.of_map{cs:aa Lf}(h:cs.map (Lf.drop e)=cs):∀ c∈cs,c.drop e=c:=by
 induction cs with
 |nil=>intro c hc;cases hc
 | cons c cs C=>
  rw[ig]at h;injection h with D E;intro I hc;rcases fF.1 hc with rfl|hc
  ·exact D
  ·exact C E I hc
theorem gB.Zw{cs:aa Lf}(h:∀ c∈cs,c.drop e=c):cs.map (Lf.drop e)=cs:=by
 rw[ic h,List.map_id']
theorem A.CV{y:A}(h:y.drop e=y):y.nr (nS e)=true:=by
 cases y with
 |lf l=>injection h with h;exact Lf.CV h
 | agg cs=>
  injection h with h;exact cv.2 λc C=>Lf.CV (gB.of_map h c C)
 | ct xs=>
  injection h with h
  refine cv.2 λq hq=>cv.2 λc C=>Lf.CV ?_
  have D:∀ q∈xs,(q.1,q.2.map (Lf.drop e))=q:=by
   clear hq
   induction xs with
   |nil=>intro q hq;cases hq
   | cons z J E=>
    rw[ig]at h;injection h with I D;intro q hq;rcases fF.1 hq with rfl|hq
    ·exact I
    ·exact E D q hq
  exact gB.of_map (bD Prod.snd (D q hq)) c C
 | ptr k=>
  have h:(bif aY e k then A.undef else .ptr k) = .ptr k:=h;cases hl:aY e k with
  |true=>rw[hl]at h;cases h
  |false=>exact SU hl
 | view k s i j=>
  have h:(bif aY e k then A.undef else .view k s i j) = .view k s i j:=h;cases hl:aY e k with
  |true=>rw[hl]at h;cases h
  |false=>exact SU hl
 | aH r j=>
  have h:(bif Nat.beq r e then A.undef else .aH r j) = .aH r j:=h;cases hl:Nat.beq r e with
  |true=>rw[hl]at h;cases h
  |false=>show (!nS e r)=true;unfold nS;rw[hl];rfl
 | pk r j=>
  have h:(bif Nat.beq r e then A.undef else .pk r j) = .pk r j:=h;cases hl:Nat.beq r e with
  |true=>rw[hl]at h;cases h
  |false=>show (!nS e r)=true;unfold nS;rw[hl];rfl
 | fn f cap=>
  have h:(bif cap.any (λp=>Nat.beq p.1 e)then A.undef else .fn f cap) = .fn f cap:=h;cases hl:cap.any (λp=>Nat.beq p.1 e)with
  |true=>rw[hl]at h;cases h
  | false=>
   refine cv.2 λq hq=>?_
   have:=iW.1 hl q hq;show (!nS e q.1)=true;unfold nS;cases hb:Nat.beq q.1 e with
   |false=>rfl
   |true=>exact absurd hb this
 |_=>rfl
theorem Lf.sA(l:Lf):(l.drop e).drop e=l.drop e:=by
 cases l with
 | own k=>
  show Lf.drop e (bif aY e k then Lf.dead else .own k)=(bif aY e k then Lf.dead else .own k)
  cases hl:aY e k with
  |true=>rfl
  | false=>
   show (bif aY e k then Lf.dead else .own k)=_;rw[hl,aq]
 |_=>rfl
theorem gB.sA(cs:aa Lf):(cs.map (Lf.drop e)).map (Lf.drop e)=cs.map (Lf.drop e):=by
 rw[List.map_map];exact ic λc _=>Lf.sA c
theorem A.sA(y:A):(y.drop e).drop e=y.drop e:=by
 cases y with
 |lf l=>exact bD A.lf (Lf.sA l)
 |agg cs=>exact bD A.agg (gB.sA cs)
 | ct xs=>
  show A.ct ((xs.map λp=>(p.1,p.2.map (Lf.drop e))).map λp=>(p.1,p.2.map (Lf.drop e)))=A.ct (xs.map λp=>(p.1,p.2.map (Lf.drop e)));rw[List.map_map]
  refine bD A.ct (ic λp _=>?_)
  exact bD (Prod.mk p.1) (gB.sA p.2)
 | ptr k=>
  show A.drop e (bif aY e k then A.undef else .ptr k)=(bif aY e k then A.undef else .ptr k)
  cases hl:aY e k with
  |true=>rfl
  |false=>show (bif aY e k then A.undef else .ptr k)=_;rw[hl,aq]
 | view k s i j=>
  show A.drop e (bif aY e k then A.undef else .view k s i j)=(bif aY e k then A.undef else .view k s i j)
  cases hl:aY e k with
  |true=>rfl
  |false=>show (bif aY e k then A.undef else .view k s i j)=_;rw[hl,aq]
 | aH r j=>
  show A.drop e (bif Nat.beq r e then A.undef else .aH r j)=(bif Nat.beq r e then A.undef else .aH r j)
  cases hl:Nat.beq r e with
  |true=>rfl
  |false=>show (bif Nat.beq r e then A.undef else .aH r j)=_;rw[hl,aq]
 | pk r j=>
  show A.drop e (bif Nat.beq r e then A.undef else .pk r j)=(bif Nat.beq r e then A.undef else .pk r j)
  cases hl:Nat.beq r e with
  |true=>rfl
  |false=>show (bif Nat.beq r e then A.undef else .pk r j)=_;rw[hl,aq]
 | fn f cap=>
  show A.drop e (bif cap.any (λp=>Nat.beq p.1 e)then A.undef else .fn f cap)=(bif cap.any (λp=>Nat.beq p.1 e)then A.undef else .fn f cap)
  cases hl:cap.any (λp=>Nat.beq p.1 e)with
  |true=>rfl
  |false=>show (bif cap.any (λp=>Nat.beq p.1 e)then A.undef else .fn f cap)=_;rw[hl,aq]
 |_=>rfl
theorem aP.sA(y:aP):(y.drop e).drop e=y.drop e:=by
 cases y with
 |ax cs=>exact bD aP.ax (gB.sA cs)
 |sl y=>rfl
 |mp l=>rfl
 | gh xs=>
  refine bD aP.gh ?_;rw[List.map_map];exact ic λx _=>A.sA x
theorem fe.drop(σ:S):fe e (σ.drop e):=by
 refine S.ext' (λk=>A.sA _) λn=>?_
 show (bif Nat.beq n e then none else ((bif Nat.beq n e then none else (σ.m n).map (aP.drop e))).map (aP.drop e))=(bif Nat.beq n e then none else (σ.m n).map (aP.drop e))
 cases Nat.beq n e with
 |true=>rfl
 | false=>
  simp only[aq];cases σ.m n with
  |none=>rfl
  |some y=>simp only[gF,aP.sA]
theorem fe.set(h:fe e σ){v:A}(D:v.drop e=v)(d:Nat):fe e (σ.set d v):=by
 refine S.ext' (λk=>?_) λn=>h.m_ n
 show (bL σ.t d v k).drop e=bL σ.t d v k;by_cases C:k=d
 ·subst C;rw[bO,D]
 ·rw[cu _ _ _ C,h.t_]
theorem fe.put(h:fe e σ){v:A}(D:v.drop e=v)(C:aj Tmp):fe e (fB σ C v):=by
 cases C with
 |none=>exact h
 |some d=>exact h.set D d
theorem fe.sl(h:fe e σ){c:Nat}(z:V)(E:e≠c):fe e ((σ.drop c).root c (.sl z)):=by
 refine S.ext' (λk=>?_) λn=>?_
 ·show ((σ.t k).drop c).drop e=(σ.t k).drop c;rw[A.oI,h.t_]
 ·show (bif Nat.beq n e then none else (((σ.drop c).root c (.sl z)).m n).map (aP.drop e))=((σ.drop c).root c (.sl z)).m n;rw[Sw];by_cases D:n=c
  ·rw[bk D,LB (by rintro rfl;exact E D),aq];rfl
  ·rw[bB D];have C:=h.m_ n;cases hb:Nat.beq n e with
   | true=>
    rw[hb,ak]at C;rw[<-C];rfl
   | false=>
    rw[hb,aq]at C;rw[aq];cases I:σ.m n with
    |none=>rfl
    | some y=>
     rw[I]at C;injection C with C;simp only[gF];rw[aP.oI,C]
theorem fe.fO(C:e<d):∀ (xs:aa V) (c:Nat) (σ:S),d<=c->fe e σ->fe e (fO c σ xs)
 |[],c,σ,_,h=>h
 | x :: xs,c,σ,D,h=>by
  simp only[Go.Proofs.YtglnbhiaknohlaaGreat.fO];refine fe.fO C xs (c+1) _ (by omega) ?_;cases x.aA with
  |true=>exact h
  |false=>exact h.sl x (by omega)
theorem fe.iK(C:e<d):∀ (ps:aa Pt) (c:Nat) (σ:S),d<=c->fe e σ->fe e (iK c σ ps)
 |[],c,σ,_,h=>h
 |q::ps,c,σ,D,h=>fe.iK C ps _ _ (by omega) (fe.fO C q.2 c σ D h)
/-! Values. -/
theorem fe.ala(y:Operand):aE (σ.root e x) y=aE σ y:=by cases y<;>rfl
theorem fe.Zx{l:Lf}(hl:l.nr (nS e)=true)(k:V->aj X):gJ (σ.root e x) l k=gJ σ l k:=by
 cases l with
 |own q=>exact tP (LM e) q k hl
 |v z=>rfl
 |dead=>rfl
theorem fe.val(h:fe e σ){op:Op}(E:Lh op=true)(k:A->aj X):cI P (σ.root e x) op k=cI P σ op k:=by
 have D:∀y,aE (σ.root e x) y=aE σ y:=fe.ala;have I:∀y,(aE σ y).nr (nS e)=true:=λy=>A.CV (h.pF y)
 cases op with
 |move y=>simp only[cI,D]
 |assign y=>simp only[cI,D]
 |unOp f t y=>simp only[cI,D]
 |field s y f=>simp only[cI,D]
 |fieldAddr s y f=>simp only[cI,D]
 |index t y i=>simp only[cI,D]
 | load t y=>
  simp only[cI,D];have C:=I y;generalize aE σ y=u at C;unfold iG;split
  ·rfl
  ·split
   ·rename_i r j;have J:r≠e:=by
     rintro rfl;have C:(!nS r r)=true:=C;rw[LM]at C;cases C
    have:(σ.root e x).m r=σ.m r:=cu _ _ _ J;rw[this]
   ·rfl
   ·rename_i j i s q;have L:dI (nS e) (j :: i :: s :: q)=true:=C;cases q with
    |nil=>rfl
    | cons Q q=>
     refine tP (LM e) _ _ ?_
     simpa [dI,List.getLast?_cons_cons]using L
   ·rfl
 | binOp f t y z yt=>
  simp only[cI,D]
  refine Li λl hl k=>fe.Zx ?_ k
  have C:=I y;rw[hl]at C;exact C
 | call c=>
  obtain⟨callee,⟨args⟩,⟨O⟩⟩:=c;cases callee with
  | builtin b=>
   cases b<;>try (cases E)
   match args,O with
   | [y],[t]=>
    simp only[cI,D];have C:=I y;generalize aE σ y=u at C;unfold l9;split
    ·exact fe.Zx C _
    ·rfl
    ·rfl
   |[],_=>rfl
   |[_],[]=>rfl
   |[_],_::_::_=>rfl
   |_::_::_,_=>rfl
  |_=>cases E
 |_=>cases E
theorem SV{t:TypeId}{cs:aa Lf}{v:A}(h:jL P t cs some=some v)(C:∀ c∈cs,c.drop e=c):v.drop e=v:=by
 unfold jL at h;split at h
 ·split at h
  ·split at h
   ·injection h with h;subst h;exact bD A.agg (gB.Zw C)
   ·split at h
    ·injection h with h;subst h;exact bD A.lf (C _ (.head _))
    ·cases h
   ·cases h
  ·cases h
 ·cases h
theorem alb{op:BinOp}{t:TypeId}{y z v:A}(h:kM P σ op t y z some=some v):v.drop e=v:=by
 have E:∀ (a b:A),(vK a λa=>vK b λb=>l8 P t op a b λz=>some (A.lf (.v z)))=some v->v.drop e=v:=by
  intro a b h;obtain⟨_,C,_⟩:=CE h;obtain⟨_,I,_⟩:=CE C;obtain⟨_,D,_⟩:=Yn I;injection D with D;subst D;rfl
 unfold kM at h;split at h
 ·split at h
  ·rename_i cs L xs ys _ _;cases hb:(P.eqGuardType P.depth t || !isStr P t)with
   |true=>rw[hb]at h;cases h
   | false=>
    rw[hb,aq]at h;split at h
    ·injection h with h;subst h;rfl
    ·cases h
  ·cases h
 ·split at h
  ·obtain⟨z,C,J⟩:=xD h;clear J;split at C
   ·injection C with C;subst C;rfl
   ·injection C with C;subst C;rfl
   ·rename_i l;cases hb:iR l with
    |true=>rw[hb]at C;cases C
    |false=>rw[hb]at C;injection C with C;subst C;rfl
   ·cases C
  ·cases h
 ·exact E _ _ h
theorem fe.res(h:fe e σ){op:Op}(Q:Lh op=true){v:A}(C:cI P σ op some=some v):v.drop e=v:=by
 cases op with
 |move y=>simp only[cI]at C;injection C with C;subst C;exact h.pF y
 |assign y=>simp only[cI]at C;injection C with C;subst C;exact h.pF y
 | unOp f t y=>
  simp only[cI]at C;obtain⟨_,D,_⟩:=CE C;obtain⟨_,I,_⟩:=Yo D;injection I with I;subst I;rfl
 | field s y f=>
  simp only[cI]at C;have D:=h.pF y;generalize aE σ y=u at D C;unfold uP at C;split at C
  ·rename_i fd cs _;injection D with D;have O:=gB.of_map D;split at C
   ·split at C
    ·injection C with C;subst C;exact bD A.agg (gB.Zw λc E=>O c (List.mem_of_mem_drop (List.mem_of_mem_take E)))
    ·cases C
   ·split at C
    next z U=>injection C with C;subst C;exact bD A.lf (O _ (fL U))
    ·cases C
   ·cases C
  ·cases C
 | fieldAddr s y f=>
  simp only[cI]at C;have D:=h.pF y;generalize aE σ y=u at D C;unfold rZ at C;split at C
  ·cases C
  ·split at C
   ·split at C
    ·rename_i r j;injection C with C;subst C;have D:(bif Nat.beq r e then A.undef else .aH r j) = .aH r j:=D;cases hl:Nat.beq r e with
     |true=>rw[hl]at D;cases D
     |false=>show (bif Nat.beq r e then A.undef else _)=_;rw[hl,aq]
    ·injection C with C;subst C;rfl
    ·rename_i j i J q;injection C with C;subst C;have D:(bif aY e (j :: i :: J :: q)then A.undef else .ptr (j :: i :: J :: q)) = .ptr (j :: i :: J :: q):=D;cases hl:aY e (j :: i :: J :: q)with
     |true=>rw[hl]at D;cases D
     | false=>
      have Y:∀ L,aY e (L :: i :: J :: q)=false:=by
       intro L;unfold aY at hl ⊢
       simpa [List.getLast?_cons_cons]using hl
      show (bif aY e _ then A.undef else _)=_;rw[Y,aq]
    ·cases C
   ·cases C
 | index t y i=>
  simp only[cI]at C;unfold xd at C;split at C
  ·split at C
   ·split at C
    ·injection C with C;subst C;rfl
    ·cases C
   ·cases C
  ·cases C
 | load t y=>
  simp only[cI]at C;have D:=h.pF y;generalize aE σ y=u at D C;unfold iG at C;split at C
  ·cases C
  ·split at C
   ·rename_i r j;split at C
    ·rename_i cs Z;have E:=h.m_ r;rw[Z]at E;have O:cs.map (Lf.drop e)=cs:=by
      cases hb:Nat.beq r e with
      |true=>rw[hb]at E;cases E
      | false=>
       rw[hb]at E;injection E with E;injection E
     exact SV C λc E=>gB.of_map O c (List.mem_of_mem_drop (List.mem_of_mem_take E))
    ·cases C
   ·refine SV C λc E=>?_
    obtain⟨z,_,rfl⟩:=List.mem_map.1 E;rfl
   ·rename_i j i s q;obtain⟨y,I,hg,_⟩:=qy _ _ C;have hq:∀ L,aY e (L :: i :: s :: q)=false:=by
     have D:(bif aY e (j :: i :: s :: q)then A.undef else .ptr (j :: i :: s :: q)) = .ptr (j :: i :: s :: q):=D;have hl:aY e (j :: i :: s :: q)=false:=by
      cases hl:aY e (j::i::s::q)with
      |false=>rfl
      |true=>rw[hl]at D;cases D
     intro L;unfold aY at hl ⊢
     simpa [List.getLast?_cons_cons]using hl
    split at I
    ·split at I
     ·split at I
      ·refine SV I λc E=>?_
       obtain⟨n,T⟩:=List.getElem?_of_mem E;rw[Qo]at T;obtain⟨z,_,rfl⟩:=Option.map_eq_some_iff.1 T;cases z.aA with
       |true=>rfl
       | false=>
        show (bif aY e _ then Lf.dead else _)=_;rw[hq];rfl
      ·cases I
     ·cases I
    ·cases I
   ·cases C
 |binOp f t y z yt=>exact alb (by simpa only [cI]using C)
 | call c=>
  obtain⟨callee,⟨args⟩,⟨gW⟩⟩:=c;cases callee with
  | builtin b=>
   cases b<;>try (cases Q)
   match args,gW,C with
   | [y],[t],C=>
    simp only[cI]at C;unfold l9 at C;split at C
    ·obtain⟨_,D,_⟩:=xD C;split at D
     ·split at D
      ·injection D with D;subst D;rfl
      ·cases D
     ·split at D
      ·injection D with D;subst D;rfl
      ·cases D
     ·split at D
      ·injection D with D;subst D;rfl
      ·cases D
     ·cases D
    ·split at C
     ·injection C with C;subst C;rfl
     ·cases C
    ·cases C
   |[],_,C=>cases C
   |[_],[],C=>cases C
   |[_],_::_::_,C=>cases C
   |_::_::_,_,C=>cases C
  |_=>cases Q
 |_=>cases Q
theorem alc{op:Op}(h:Lh op=true):fk op=true:=by
 cases op with
 | call c=>
  obtain⟨callee,args,C⟩:=c;cases callee with
  |builtin b=>cases b<;>first|rfl|cases h
  |_=>cases h
 |_=>first|rfl|cases h
theorem ald[Inhabited Wd](fo:fm P Φ){ops:Array Oper}{C:Oper}{τ:S}(hx:nR x)(hu:mA e u)(he:e<20000)(hb:Sd Φ C=true)(hl:e ∉ C.looksAt ops)(Q:C.dst≠some e)(h:fe e σ)
  (E:cS P N Φ ops (cz e x u σ) C some=some τ):∃T,cS P N Φ ops σ C some=some T/\τ=cz e x u T/\fe e T:=by
 have U:cz e x u σ=(σ.root e x).set e u:=by
  unfold cz;rw[show σ.drop e=σ from h]
 have q8:∀ y∈C.op.operands,aE (cz e x u σ) y=aE (σ.root e x) y:=λy L=>by
  rw[U];exact Af hl u L
 have hw:e9 (cz e x u σ) ops C=e9 σ ops C:=by
  rw[U];exact(vn (Lo (σ:=σ.root e x) hl u)).trans rfl
 unfold cS at E ⊢;rw[hw]at E;split at E
 ·unfold Sd at hb;rw[dy]at hb;rcases hb with hb | hb
  ·have jM:∀ (k:A->aj S),cI P (cz e x u σ) C.op k=cI P σ C.op k:=λk=>
    (CM (σ:=σ.root e x) (σ2:=cz e x u σ) C.op (by rw[U];rfl) q8 k).trans (h.val hb k)
   have O:∀ σ2:S,cR P N Φ σ2 C some=cI P σ2 C.op λv=>gI N σ2 C.dst v some:=by
    intro σ2;unfold cR;rw[alc hb,ak]
   rw[O,jM]at E;obtain⟨v,D,F0,_⟩:=CK (w0:=default) (N:=N) E;obtain⟨I,J⟩:=jf D;injection I with I;have hv:=h.res hb (F0.at_ (X:=A) some);refine⟨fB σ C.dst v,?_,?_,h.put hv _⟩
   ·rw[O];exact(F0.at_ _).trans ((J σ).at_ _)
   ·rw[<-I,Sx Q hv]
  ·split at hb
   ·rename_i f args gW Y;split at hb
    ·rename_i c hc;have O:∀ σ2,cR P N Φ σ2 C some=ef C λd=>uT N σ2 d c args.toList some:=by
      intro σ2;unfold cR;rw[show fk C.op=false by rw[Y];rfl,aq];simp only[gC,Y,hc]
     rw[O]at E;obtain⟨d,Z,E⟩:=fT E;have FZ:d≠e:=by rintro rfl;exact Q Z
     obtain⟨res,pG,D,I,J⟩:=CF (fo f _ hc).2 E;injection I with I;subst I;have kO:∀ y∈args.toList,(aE σ y).nr (nS e)=true/\y ≠ .tmp e:=by
      intro y L;have zG:y∈C.op.operands:=by
       rw[Y];simp only[Op.operands,Call.operands];simp only[Array.mem_append]
       first
        |exact .inr (by simpa using L)
        |exact .inl (by simpa using L)
      refine⟨A.CV (h.pF y),?_⟩;rintro rfl;exact hl (List.mem_append_left _ (List.mem_filterMap.2 ⟨.tmp e,by simpa using zG,rfl⟩))
     have Zy:∀(X:Type) (k:aa Pt->aj X),jt σ args.toList k=jt (cz e x u σ) args.toList k:=λX k=>(SB (LM e) _ k kO).symm
     unfold nO at D J;cases res with
     | one q=>
      simp only at D J;split at D
      ·rename_i y L;injection D with D;refine⟨(fO (1000000000100000+1000*d) σ q.2).set d y,?_,?_,?_⟩
       ·rw[O];unfold ef;rw[Z];exact(J σ _ Zy (by rw[L])).at_ _
       ·rw[<-D,CR hx hu _ _ _ (by omega),xV FZ (LG L (CS _ _ (by omega)))]
       ·exact(fe.fO (d:=20000) he _ _ _ (by omega) h).set (LG L (CS _ _ (by omega))) d
      ·cases D
     | ct ps=>
      simp only at D J;injection D with D;refine⟨(iK (1000000000100000+1000*d) σ ps).set d (.ct (kN (1000000000100000+1000*d) ps)),?_,?_,?_⟩
      ·rw[O];unfold ef;rw[Z];exact(J σ _ Zy rfl).at_ _
      ·rw[<-D,LC hx hu _ _ _ (by omega),xV FZ (LH _ _ (by omega))]
      ·exact(fe.iK (d:=20000) he _ _ _ (by omega) h).set (LH _ _ (by omega)) d
    ·cases hb
   ·cases hb
 ·obtain⟨I,J⟩:=jf E;injection I with I;refine⟨fB σ C.dst .skip,(J σ).at_ _,?_,h.put rfl _⟩;rw[<-I,Sx Q rfl]
 ·cases E
theorem Rl.SW(h:Rl w0 N ah ρ σ a w)(d:Nat):Rl w0 N ah ρ (σ.drop d) a w:=by
 refine⟨h.below,h.cH,λr y C=>?_,λk=>(h.tmp k).dQ λ_ _=>rfl,h.size,h.defers,h.fix,h.dm⟩
 have C:(bif Nat.beq r d then none else (σ.m r).map (aP.drop d))=some y:=C;cases hb:Nat.beq r d with
 |true=>rw[hb]at C;cases C
 | false=>
  rw[hb,aq]at C;obtain⟨z,D,rfl⟩:=Option.map_eq_some_iff.1 C;exact(h.root r z D).dQ (λ_ _=>rfl) (by rintro rfl;simp at hb)
theorem R.SW(h:R w0 N σ a w)(d:Nat):R w0 N (σ.drop d) a w:=by
 obtain⟨ah,ρ,h⟩:=h;exact⟨ah,ρ,h.SW d⟩
theorem ale[Inhabited Wd](E:fm P Φ){ops:Array Oper}{k:S->aj X}(h:xS P N Φ ops σ k=some r):∃ Y,(∀ w0 a w,R w0 N σ a w->R w0 N Y a w)/\Any P N Φ ops (λZ=>k Z=some r) ops.size 0 Y:=by
 unfold xS at h;split at h
 ·rename_i i hf;have I:=List.find?_some hf;have hi:=eD.1 (List.mem_of_find?_eq_some hf);split at h
  ·rename_i o ho;split at h
   ·rename_i e O;unfold early at I;rw[ho]at I;simp only[aK]at I;obtain⟨⟨⟨⟨⟨⟨_,c1⟩,c2⟩,c3⟩,c4⟩,Q⟩,c6⟩:=I;have m9:=LJ _ _ c6;have Q:=bQ Q;have Al:∀ j,(waits ops i ops.size 0 0).testBit j=true->(0 ||| 2 ^ i).testBit j=false:=by
     intro j J;have:((0 |||2 ^ i) &&& waits ops i ops.size 0 0).testBit j=false:=by rw[Q];exact Nat.zero_testBit j
     rw[Nat.testBit_and,J,Bool.and_true]at this;exact this
    have hg:o.guard=none:=Option.isNone_iff_eq_none.1 c2;have LL:∀σ2,e9 σ2 ops o=some true:=λσ2=>by unfold e9;rw[hg]
    obtain⟨Z,h1,h2⟩:=Ln E h;obtain⟨e',x,u,C,Cw,hx,hu,ju,mz⟩:=FV c1 (LL _) h2;rw[O]at C;injection C with C;subst C;obtain⟨n,hn⟩:∃n,ops.size=n+1:=⟨ops.size-1,by omega⟩
    have hconst:∀ σ2 y,y∈o.op.operands->aE σ2 y=aE (σ.drop e) y:=by
     intro σ2 y hy;have:=cv.1 c4 y (by simpa using hy);cases y with
     |const v=>rfl
     |_=>cases this
    refine⟨σ.drop e,λw0 a w hR=>hR.SW e,?_⟩
    have T:=Ak E _ _ _ k h1;rw[ju]at T;have fE:ops.size-1=n:=by omega
    rw[fE]at T;rw[hn]
    refine Lw (W:=waits ops i ops.size 0 0) ho (λj oj D J=>?_) (λσ=>cz e x u σ) (λ_ σ=>fe e σ) (λL U _=>mz U (LL _) (hconst U)) (λL U j oj pG hF D hji Y8 q9 tQ=>?_) n 0 (σ.drop e) (λj _=>Nat.zero_testBit j) c3 (fe.drop σ) T
    ·have dn:=(fl.1 D).1;rcases m9 j (by omega) (by omega)with e1 | e1 | e1 | e1
     ·subst e1;have:=Al j J;rw[qE]at this;simp at this
     ·rw[Nat.zero_testBit]at e1;cases e1
     ·exact SL D e1.2
     ·rw[J]at e1;cases e1.1
    ·have dn:=(fl.1 D).1;rcases m9 j (by omega) (by omega)with e1 | e1 | e1 | e1
     ·exact absurd e1 hji
     ·rw[Nat.zero_testBit]at e1;cases e1
     ·rw[q9]at e1;cases e1.1
     ·obtain⟨b1,b2⟩:=e1.2 oj D;obtain⟨a1,a2,a3⟩:=Oper.apart_spec b2;exact ald E hx hu Cw b1 (a1 e O) (λC=>a2 e O C) hF tQ
   ·cases h
  ·cases h
 ·exact⟨σ,λ_ _ _ h=>h,Ak E _ _ _ _ h⟩
theorem axi[Inhabited Wd](C:fm P Φ){ops:Array Oper}{id:Nat}{k:S->aj X}(E:P.follows .mixedOrders=true)(h:xS P N Φ ops σ k=some r){Q:Exit->Act->World->Prop}(I:∀ D,k D=some r->∀ a w,R w0 N D a w->Q .normal a w)(hR:R w0 N σ a w):
  (Code.region id ops true).wp P Q a w:=by
 obtain⟨O,J,L⟩:=ale C h;exact wp_region_any E (SS C I _ _ _ _ L ri.start a _ (J _ _ _ hR).drawn)
theorem alf{E:aj Tmp}{g:Bool}{k:S->aj X}(h:nQ σ E g k=some r):∃ C,k C=some r/\∀ a w,R w0 N σ a w->R w0 N C a w:=by
 unfold nQ at h;cases g with
 |false=>exact⟨σ,h,λ_ _ h=>h⟩
 | true=>
  rw[ak]at h;split at h
  ·rename_i d;split at h
   ·rename_i b hb;have key:∀ c:Bool,b=c->∀ a w,R w0 N σ a w->R w0 N (σ.set d (.lf (.v (.bool c)))) a w:=by
     rintro c rfl a w ⟨ah,ρ,hR⟩
     refine⟨ah,ρ,hR.below,hR.cH,hR.root,λk=>?_,hR.size,hR.defers,hR.fix,hR.dm⟩
     show RA w w0.heap.size ah ρ (bL σ.t d (.lf (.v (.bool b))) k) _;by_cases D:k=d
     ·subst D;rw[bO,<-hb];exact hR.tmp k
     ·rw[cu _ _ _ D];exact hR.tmp k
    cases b with
    |true=>exact⟨_,h,key true rfl⟩
    |false=>exact⟨_,h,key false rfl⟩
   ·exact⟨σ,h,λ_ _ h=>h⟩
  ·exact⟨σ,h,λ_ _ h=>h⟩
theorem LN(O:fm P Φ)(ops:Array Oper):∀ (rest:aa Oper) (j:Nat) (σ:S) (k:S->aj X),tM P N Φ ops j rest σ k=some r->∃ Z,k Z=some r/\∀ a w,R w0 N σ a w->∀ Q,(∀ E w',R w0 N Z E w'->Q Exit.normal E w')->wpList P ops Q rest a w
 |[],j,σ,k,h=>⟨σ,h,λa w hR Q D=>D a w hR⟩
 | o :: rest,j,σ,k,h=>by
  unfold tM at h;split at h
  ·rename_i T;obtain⟨qx,h1,xW⟩:=aj4 (w0:=w0) O h;obtain⟨σ2,h2,uH⟩:=alf (w0:=w0) (N:=N) h1;obtain⟨I,J,L⟩:=LN O ops rest (j+1) σ2 k h2
   refine⟨I,J,λa w hR Q D=>?_⟩
   obtain⟨ah,ρ,C⟩:=hR;simp only[wpList,CU T C,if_true];exact .inl (xW a w _ Q ⟨ah,ρ,C⟩ λE w' va=>L E w' (uH E w' va) Q D)
  ·rename_i T;unfold gI at h;split at h
   ·rename_i U;obtain⟨I,J,L⟩:=LN O ops rest (j+1) σ k h
    refine⟨I,J,λa w hR Q D=>?_⟩
    obtain⟨ah,ρ,C⟩:=hR;simp only[wpList,CU T C,U];exact L a w ⟨ah,ρ,C⟩ Q D
   ·rename_i d U;cases Y:Nat.blt d N with
    |false=>rw[Y]at h;cases h
    | true=>
     rw[Y,ak]at h;obtain⟨I,J,L⟩:=LN O ops rest (j+1) _ k h
     refine⟨I,J,λa w hR Q D=>?_⟩
     obtain⟨ah,ρ,C⟩:=hR;simp only[wpList,CU T C,U];exact L _ w ⟨ah,ρ,C.set rfl (by have:=cB Y;omega)⟩ Q D
  ·cases h
theorem CW(Y:fm P Φ):∀ (c:Code) (σ:S) (k:Exit->S->aj X),fX P N Φ Λ c σ k=some r->oH P N Λ (occs c)->AW P w0 N c σ λe D=>k e D=some r:=by
 intro c
 induction c with
 |skip=>exact λσ k h _ a w hR=>wp_skip ⟨σ,h,hR⟩
 |label l=>exact λσ k h _ a w hR=>wp_label ⟨σ,h,hR⟩
 |ret=>exact λσ k h _ a w hR=>wp_ret ⟨σ,h,hR⟩
 |exit id=>exact λσ k h _ a w hR=>wp_exit ⟨σ,h,hR⟩
 | region id ops draw=>
  intro σ k h _ a w hR;cases draw with
  | true=>
   simp only[fX]at h;cases hm:P.follows .mixedOrders with
   |false=>rw[hm]at h;cases h
   | true=>
    rw[hm,ak]at h
    haveI:Inhabited Wd:=⟨w0⟩
    exact ak9 Y hm h (λτ ju a w hR=>⟨τ,ju,hR⟩) hR
  | false=>
   simp only[fX]at h;obtain⟨D,h',hw⟩:=LN (w0:=w0) Y ops _ _ _ _ h;exact wp_region_list (hw a w hR _ λL w' C=>⟨D,h',C⟩)
 | seq x y O Q=>
  intro σ k h I a w hR;simp only[fX]at h;have T:=O σ _ h (λp E=>I p (List.mem_append_left _ E))
  refine wp_seq (wp_mono (T a w hR) λe L w' U=>?_)
  obtain⟨D,J,C⟩:=U;cases e with
  |normal=>exact Q D k J (λp E=>I p (List.mem_append_right _ E)) L w' C
  |_=>exact⟨D,J,C⟩
 | cond c x y O Q=>
  intro σ k h I a w hR;simp only[fX]at h;split at h
  ·rename_i b hb;obtain⟨ah,ρ,C⟩:=hR;have Z:=C.aE c;rw[hb]at Z;have Zz:=Z.2.w5;cases b with
   |true=>exact wp_cond_true Zz (O σ k h (λp E=>I p (List.mem_append_left _ E)) a w ⟨ah,ρ,C⟩)
   |false=>exact wp_cond_false Zz (Q σ k h (λp E=>I p (List.mem_append_right _ E)) a w ⟨ah,ρ,C⟩)
  ·cases h
 | block id c ih=>
  intro σ k h I a w hR;simp only[fX]at h;split at h
  next b hb=>exact I (id,c) (.head _) b hb X σ k r w0 h a w hR
  ·have T:=ih σ _ h (λp E=>I p (.tail _ E))
   refine wp_block (wp_mono (T a w hR) λe L w' U=>?_)
   obtain⟨D,J,C⟩:=U;cases e with
   | exit ZA=>
    simp only[Exit.inBlock];by_cases hid:ZA=id
    ·simp only[hid,if_true]at J ⊢;exact⟨D,J,C⟩
    ·simp only[hid,if_false]at J ⊢;exact⟨D,J,C⟩
   |_=>exact⟨D,J,C⟩
 |_=>exact λσ k h=>by simp[fX]at h
end
/-! What a loop carries. -/
inductive Lm where
 |int (k:IntKind)
 |bool
 |str
 |own (r:Nat)
 |aA (t:TC) (o:Nat)
def Lm.T:Lm->Type
 |.int _=>Int
 |.bool=>Bool
 |.str=>ByteArray
 |.own _=>af
 |.aA t _=>aa (Proofs.YtglnbhiaknohlaaGreat.T t)
def Lm.mk:(m:Lm)->m.T->Lf
 |.int k,n=>.v (.int k n)
 |.bool,b=>.v (.bool b)
 |.str,s=>.v (.str s)
 |.own r,_=>.own [r]
 |.aA t o,l=>.v (.sl t o false l)
def Lm.rd:(m:Lm)->Lf->aj m.T
 |.int k,.v (.int C n)=>if C=k then some n else none
 |.bool,.v (.bool b)=>some b
 |.str,.v (.str s)=>some s
 |.own r,.own [D]=>bif Nat.beq D r then some ()else none
 |.aA t o,.v x=>bif Nat.blt o 2 then x.dw t o else none
 |_,_=>none
inductive Tm where
 |lf (m:Lm)
 |aH (r j:Nat)
 |fp (t:TC) (o:Nat)
 |fc (f:Nat) (t:TC)
 |ag (t:TC)
 |pk (r n:Nat)
def Tm.T:Tm->Type
 |.lf m=>m.T
 |.aH _ _=>af
 |.fp t _=>Proofs.YtglnbhiaknohlaaGreat.T t
 |.fc _ t=>Proofs.YtglnbhiaknohlaaGreat.T t
 |.ag t=>Proofs.YtglnbhiaknohlaaGreat.T t
 |.pk _ _=>af
def Tm.mk:(m:Tm)->m.T->A
 |.lf m,x=>.lf (m.mk x)
 |.aH r j,_=>.aH r j
 |.fp t o,x=>.gG (enc t o x)
 |.fc f t,x=>.ko f (enc t 0 x)
 |.ag t,x=>.agg ((enc t 0 x).map .v)
 |.pk r n,_=>.pk r n
def Tm.rd:(m:Tm)->A->aj m.T
 |.lf m,.lf x=>m.rd x
 |.aH r j,.aH C D=>bif Nat.beq C r&&Nat.beq D j then some ()else none
 |.fp t o,.gG cs=>bif Nat.blt o 2 then dec t o cs else none
 |.fc f t,.ko E cs=>bif Nat.beq E f then dec t 0 cs else none
 | .ag t,.agg cs=>(match tv cs with
  |some I=>dec t 0 I
  |none=>none)
 |.pk r n,.pk C J=>bif Nat.beq C r&&Nat.beq J n then some ()else none
 |_,_=>none
def F6:aa Lm->Type
 |[]=>af
 |m::C=>m.T×F6 C
def vp:(C:aa Lm)->F6 C->aa Lf
 |[],_=>[]
 |m::C,x=>m.mk x.1::vp C x.2
def CX:(C:aa Lm)->aa Lf->aj (F6 C)
 |[],[]=>some ()
 | m :: C,x :: xs=>match m.rd x,CX C xs with
  |some y,some ys=>some (y,ys)
  |_,_=>none
 |_,_=>none
inductive Rm where
 |sl (t:TC) (o:Nat)
 |st (t:TC)
 |ax (ms:List Lm)
 |mp
def Rm.T:Rm->Type
 |.sl t _=>aa (Proofs.YtglnbhiaknohlaaGreat.T t)
 |.st t=>Proofs.YtglnbhiaknohlaaGreat.T t
 |.ax C=>F6 C
 |.mp=>aa (Int×Bool)
def Rm.mk:(m:Rm)->m.T->aP
 |.sl t o,l=>.sl (.sl t o false l)
 |.st t,x=>.ax ((enc t 0 x).map .v)
 |.ax C,x=>.ax (vp C x)
 |.mp,l=>.mp l
def Rm.rd:(m:Rm)->aP->aj m.T
 |.sl t o,.sl y=>y.dw t o
 | .st t,.ax cs=>(match tv cs with
  |some C=>dec t 0 C
  |none=>none)
 |.ax D,.ax cs=>CX D cs
 |.mp,.mp l=>some l
 |_,_=>none
def CY:aa (Nat×Tm)->Type
 |[]=>af
 |(_,m)::C=>m.T×CY C
def vr:(C:aa (Nat×Tm))->CY C->Nat->A
 |[],_,_=>.undef
 |(n,m)::C,x,k=>bif Nat.beq k n then m.mk x.1 else vr C x.2 k
def F7:(C:aa (Nat×Tm))->(Nat->A)->aj (CY C)
 |[],_=>some ()
 | (n,m) :: C,t=>match m.rd (t n),F7 C t with
  |some x,some xs=>some (x,xs)
  |_,_=>none
def vt:aa (Nat×Rm)->Type
 |[]=>af
 |(_,m)::C=>m.T×vt C
def vu:(C:aa (Nat×Rm))->vt C->Nat->aj aP
 |[],_,_=>none
 |(n,m)::C,x,k=>bif Nat.beq k n then some (m.mk x.1)else vu C x.2 k
def CZ:(C:aa (Nat×Rm))->(Nat->aj aP)->aj (vt C)
 |[],_=>some ()
 | (n,m) :: C,t=>match (t n).bind m.rd,CZ C t with
  |some x,some xs=>some (x,xs)
  |_,_=>none
structure jg where
 ts:List (Nat×Tm)
 rs:List (Nat×Rm)
def jg.St(C:jg):Type:=CY C.ts×vt C.rs
def jg.mk'(C:jg)(x:C.St):S:=⟨vr C.ts x.1,vu C.rs x.2⟩
def jg.LO(C:jg)(σ:S):aj C.St:=match F7 C.ts σ.t,CZ C.rs σ.m with
 |some x,some y=>some (x,y)
 |_,_=>none
/-! Roots by other names. -/
abbrev Rn:=aa (Nat×Nat)
def Rn.inv(rs:Rn)(n:Nat):aj Nat:=(rs.find? λp=>Nat.beq p.2 n).map (·.1)
def Rn.add(rs:Rn)(r n:Nat):Rn:=bif rs.any (λp=>Nat.beq p.1 r&&Nat.beq p.2 n)then rs else (r,n)::rs
def SX(n:Nat):aj Nat->Bool
 |some m=>Nat.beq m n
 |none=>false
def Rn.ok(rs:Rn):Bool:=rs.all λp=>(Nat.beq p.1 p.2 ||Nat.ble 60000 p.2)&&SX p.2 (rs.lookup p.1)&&SX p.1 (rs.inv p.2)
def Lf.dS(rs:Rn):Lf->Lf
 |.v x=>.v x
 | .own [r]=>(match rs.lookup r with
  |some n=>.own [n]
  |none=>.dead)
 |_=>.dead
def A.dS(rs:Rn):A->A
 |.lf x=>.lf (x.dS rs)
 | .aH r j=>(match rs.lookup r with
  |some n=>.aH n j
  |none=>.undef)
 |.gG cs=>.gG cs
 |.ko f cs=>.ko f cs
 |.agg cs=>.agg (cs.map (Lf.dS rs))
 |_=>.undef
def aP.dS(rs:Rn):aP->aP
 |.ax cs=>.ax (cs.map (Lf.dS rs))
 |.sl y=>.sl y
 |.mp l=>.mp l
 |.gh _=>.gh []
def S.dS(rs:Rn)(σ:S):S:=⟨λk=>(σ.t k).dS rs,λn=>match rs.inv n with
 |some r=>(σ.m r).map (aP.dS rs)
 |none=>none⟩
def ZB:Lm->Lf->Rn->Rn
 |.own n,.own [r],rs=>rs.add r n
 |_,_,rs=>rs
def SY:aa Lm->aa Lf->Rn->Rn
 |m::C,x::xs,rs=>SY C xs (ZB m x rs)
 |_,_,rs=>rs
def rnT:Tm->A->Rn->Rn
 |.lf m,.lf x,rs=>ZB m x rs
 |.aH n j,.aH r C,rs=>rs.add r n
 |_,_,rs=>rs
def ZC(t:Nat->A):aa (Nat×Tm)->Rn->Rn
 |[],rs=>rs
 |(k,m)::C,rs=>ZC t C (rnT m (t k) rs)
def ZD(m:Nat->aj aP):aa (Nat×Rm)->Rn->Rn
 |[],rs=>rs
 | (n,x) :: xs,rs=>ZD m xs (match x,rs.inv n with
  | .ax C,some r=>(match m r with
   |some (.ax cs)=>SY C cs rs
   |_=>rs)
  | .ax C,none=>(match m n with
   |some (.ax cs)=>SY C cs (rs.add n n)
   |_=>rs)
  |_,some _=>rs
  |_,none=>rs.add n n)
def jg.rn(C:jg)(σ:S):Rn:=ZD σ.m C.rs (ZC σ.t C.ts [])
def SZ(rs:aa (Nat×Rm))(p:Nat×Tm)(σ:S):S:=match p.2,σ.t p.1 with
 | .lf (.own n),.lf (.v .nil)=>(match rs.lookup n with
  |some (.sl t o)=>bif Nat.ble 60000 n then ⟨bL ((σ.drop n).root n (.sl (.sl t o false []))).t p.1 (.lf (.own [n])),((σ.drop n).root n (.sl (.sl t o false []))).m⟩else σ
  |_=>σ)
 |_,_=>σ
def LP(rs:aa (Nat×Rm)):aa (Nat×Tm)->S->S
 |[],σ=>σ
 |p::ps,σ=>LP rs ps (SZ rs p σ)
def S0(n j r:Nat)(σ:S):S:=match σ.m r with
 | some (.ax cs)=>(match cs[j]? with
  |some (.v .nil)=>⟨σ.t,bL σ.m r (some (.ax (cs.set j (.own [n]))))⟩
  |_=>σ)
 |_=>σ
def S1(rs:aa (Nat×Rm))(n j r:Nat)(σ:S):S:=match rs.lookup n with
 |some (.sl t o)=>bif Nat.ble 60000 n then S0 n j r ((σ.drop n).root n (.sl (.sl t o false [])))else σ
 |_=>σ
def Aq(rs:aa (Nat×Rm))(r:Nat):Nat->aa Lm->aa Lf->S->S
 |j,.own n::C,.v .nil::cs,σ=>Aq rs r (j+1) C cs (S1 rs n j r σ)
 |j,_::C,_::cs,σ=>Aq rs r (j+1) C cs σ
 |_,_,_,σ=>σ
def F8(rs:aa (Nat×Rm)):aa (Nat×Rm)->S->S
 |[],σ=>σ
 | (r,.ax C) :: ps,σ=>F8 rs ps (match σ.m r with
  |some (.ax cs)=>Aq rs r 0 C cs σ
  |_=>σ)
 |_::ps,σ=>F8 rs ps σ
def jg.ZE(C:jg)(σ:S):aj C.St:=bif (C.rn σ).ok then C.LO (F8 C.rs C.rs (σ.dS (C.rn σ)))else none
def jg.rd(C:jg)(σ:S):aj C.St:=match C.LO σ with
 |some x=>some x
 |none=>C.ZE (LP C.rs C.ts σ)
section
variable {P:Program} {w w':World} {w0:Wd} {B N:Nat} {ah aD:bA} {ρ ρ':Nat->Loc} {σ:S} {a:Act} {X:Type} {d:Nat} {r:X} {o:Oper} {Φ:dJ} {Λ:mq}
theorem Lm.pI{m:Lm}{x:Lf}{y:m.T}(h:m.rd x=some y){u:Value}(C:cQ w B ah ρ x u):cQ w B ah ρ (m.mk y) u:=by
 unfold Lm.rd at h;split at h
 ·split at h
  next D=>subst D;injection h with h;subst h;exact C
  ·cases h
 ·injection h with h;subst h;exact C
 ·injection h with h;subst h;exact C
 ·rename_i E I;cases hb:Nat.beq I E with
  |false=>rw[hb]at h;cases h
  |true=>obtain rfl:=bQ hb;exact C
 ·rename_i t o x;cases hb:Nat.blt o 2 with
  |false=>rw[hb]at h;cases h
  | true=>
   rw[hb]at h;have h:V.dw t o x=some y:=h;have:=cB hb;exact⟨by simp[V.aA];omega,C.2.wk (V.dN h)⟩
 ·cases h
theorem Tm.pI{m:Tm}{x:A}{y:m.T}(h:m.rd x=some y){u:Value}(J:RA w B ah ρ x u):RA w B ah ρ (m.mk y) u:=by
 cases m with
 | lf m=>
  cases x with
  |lf x=>exact Lm.pI (m:=m) h J
  |_=>cases h
 | aH r j=>
  cases x with
  | aH O j'=>
   have h:(bif Nat.beq O r&&Nat.beq j' j then some ()else none)=some y:=h;cases hb:(Nat.beq O r&&Nat.beq j' j)with
   |false=>rw[hb]at h;cases h
   | true=>
    rw[aK]at hb;obtain rfl:=bQ hb.1;obtain rfl:=bQ hb.2;exact J
  |_=>cases h
 | fp t o=>
  cases x with
  | gG cs=>
   have h:(bif Nat.blt o 2 then dec t o cs else none)=some y:=h;cases hb:Nat.blt o 2 with
   |false=>rw[hb]at h;cases h
   | true=>
    rw[hb,ak]at h;have ho:=cB hb;have D:=lu t o cs y h;obtain⟨b,off,Q,U,Y,h4⟩:=J
    refine⟨b,off,Q,U,Y,λj z C=>?_⟩
    have Z:j<cs.length:=by rw[D.1];exact(c7.1 C).1
    have E:=bK Z;obtain⟨g1,v,g2,g3⟩:=h4 j _ E;exact⟨jr t o y (by omega) j z C,v,g2,g3.wk (D.2 j _ z E C)⟩
  |_=>cases h
 | fc f t=>
  cases x with
  | ko f' cs=>
   have h:(bif Nat.beq f' f then dec t 0 cs else none)=some y:=h;cases hb:Nat.beq f' f with
   |false=>rw[hb]at h;cases h
   | true=>
    rw[hb,ak]at h;obtain rfl:=bQ hb;have D:=lu t 0 cs y h;obtain⟨pv,e0,b,off,Q,U,Y,h4⟩:=J
    refine⟨pv,e0,b,off,Q,U,Y,λj z C=>?_⟩
    have Z:j<cs.length:=by rw[D.1];exact(c7.1 C).1
    have E:=bK Z;obtain⟨g1,v,g2,g3⟩:=h4 j _ E;exact⟨jr t 0 y (by omega) j z C,v,g2,g3.wk (D.2 j _ z E C)⟩
  |_=>cases h
 | ag t=>
  cases x with
  | agg cs=>
   have h:(match tv cs with|some L=>dec t 0 L|none=>none)=some y:=h;cases kJ:tv cs with
   |none=>rw[kJ]at h;cases h
   | some L=>
    rw[kJ]at h;have h:dec t 0 L=some y:=h;have iQ:=Kr _ _ kJ;have D:=lu t 0 L y h;obtain⟨us,Q,U,Y⟩:=J
    refine⟨us,Q,?_,λj x I=>?_⟩
    ·rw[U,iQ,cZ,cZ,D.1]
    ·rw[cO]at I;cases C:(enc t 0 y)[j]? with
     |none=>rw[C]at I;cases I
     | some z=>
      rw[C]at I;injection I with I;subst I;have Z:j<L.length:=by rw[D.1];exact(c7.1 C).1
      have E:=bK Z;obtain⟨v,g1,g2⟩:=Y j (.v L[j]) (by rw[iQ,cO,E];rfl);exact⟨v,g1,jr t 0 y (by omega) j z C,g2.2.wk (D.2 j _ z E C)⟩
  |_=>cases h
 | pk r n=>
  cases x with
  | pk O n'=>
   have h:(bif Nat.beq O r&&Nat.beq n' n then some ()else none)=some y:=h;cases hb:(Nat.beq O r&&Nat.beq n' n)with
   |false=>rw[hb]at h;cases h
   | true=>
    rw[aK]at hb;obtain rfl:=bQ hb.1;obtain rfl:=bQ hb.2;exact J
  |_=>cases h
theorem ZF:∀ (C:aa Lm) (cs:aa Lf) (y:F6 C),CX C cs=some y->(vp C y).length=cs.length/\∀ (j:Nat) x,(vp C y)[j]?=some x->∃ z,cs[j]?=some z/\(∀ (w:World) (B:Nat) (ah:bA) (ρ:Nat->Loc) (u:Value),cQ w B ah ρ z u->cQ w B ah ρ x u)
 |[],[],y,h=>⟨rfl,λj x D=>by simp[vp]at D⟩
 | m :: C,c :: cs,y,h=>by
  unfold CX at h;split at h
  ·rename_i Q ys E I;injection h with h;subst h;obtain⟨J,L⟩:=ZF C cs ys I
   refine⟨by simp[vp,J],λj x D=>?_⟩
   cases j with
   |zero=>simp[vp]at D;subst D;exact⟨c,rfl,λw B ah ρ u O=>Lm.pI E O⟩
   |succ j=>exact L j x (by simpa [vp]using D)
  ·cases h
 |[],_::_,y,h=>by simp[CX]at h
 |_::_,[],y,h=>by simp[CX]at h
theorem Rm.pI{m:Rm}{x:aP}{y:m.T}(h:m.rd x=some y){n:Nat}(C:dH w B ah ρ n x):dH w B ah ρ n (m.mk y):=by
 cases m with
 | sl t o=>
  cases C with
  |sl v y' E hr=>exact .sl v _ E (hr.wk (V.dN h))
  |ax=>cases h
  |mp=>cases h
  |gh=>cases h
 | mp=>
  cases C with
  |gh=>cases h
  |sl=>cases h
  |ax=>cases h
  |mp b c es l E hl J he=>injection h with h;subst h;exact .mp b c es _ E hl J he
 | st t=>
  cases C with
  |sl=>cases h
  |mp=>cases h
  |gh=>cases h
  | ax b off cells e cs us E hl J L O=>
   have h:(match tv cs with|some I=>dec t 0 I|none=>none)=some y:=h;cases Q:tv cs with
   |none=>rw[Q]at h;cases h
   | some I=>
    rw[Q]at h;have h:dec t 0 I=some y:=h;have Y:=Kr _ _ Q;have U:=lu t 0 I y h
    refine .ax b off cells e _ us E hl J (by rw[cZ,<-U.1];rw[Y,cZ]at L;exact L) λj x C=>?_
    rw[cO]at C;cases D:(enc t 0 y)[j]? with
    |none=>rw[D]at C;cases C
    | some z=>
     rw[D]at C;injection C with C;subst C;have hj:j<I.length:=by rw[U.1];exact(c7.1 D).1
     have Z:=bK hj;obtain⟨h1,h2⟩:=O j (.v I[j]) (by rw[Y,cO,Z];rfl);exact⟨h1,jr t 0 y (by omega) j z D,h2.2.wk (U.2 j _ z Z D)⟩
 | ax ms=>
  cases C with
  |sl=>cases h
  |mp=>cases h
  |gh=>cases h
  | ax b off cells e cs us E hl J L O=>
   obtain⟨k1,k2⟩:=ZF ms cs y h
   refine .ax b off cells e _ us E hl J (by show off+(vp ms y).length<=_;rw[k1];exact L) λj x C=>?_
   obtain⟨z,D,hm⟩:=k2 j x C;exact⟨(O j z D).1,hm _ _ _ _ _ (O j z D).2⟩
theorem S2:∀ (C:aa (Nat×Tm)) (t:Nat->A) (y:CY C),F7 C t=some y->∀ k,vr C y k = .undef\/∃ m z,(Tm.rd m (t k)=some z/\vr C y k=m.mk z)
 |[],t,y,h,k=>.inl rfl
 | (n,m) :: C,t,y,h,k=>by
  unfold F7 at h;split at h
  ·rename_i x xs E I;injection h with h;subst h;by_cases D:k=n
   ·subst D;exact .inr ⟨m,x,E,by simp[vr]⟩
   ·have hb:Nat.beq k n=false:=by
     cases hb:Nat.beq k n with
     |false=>rfl
     |true=>exact absurd (bQ hb) D
    simp only[vr,hb,aq];exact S2 C t xs I k
  ·cases h
theorem S3:∀ (C:aa (Nat×Rm)) (t:Nat->aj aP) (y:vt C),CZ C t=some y->∀ k,vu C y k=none\/∃ m x z,t k=some x/\Rm.rd m x=some z/\vu C y k=some (m.mk z)
 |[],t,y,h,k=>.inl rfl
 | (n,m) :: C,t,y,h,k=>by
  unfold CZ at h;split at h
  ·rename_i x xs D J;injection h with h;subst h;by_cases E:k=n
   ·subst E;cases I:t k with
    |none=>rw[I]at D;cases D
    |some z=>rw[I]at D;exact .inr ⟨m,z,x,rfl,D,by simp[vu]⟩
   ·have hb:Nat.beq k n=false:=by
     cases hb:Nat.beq k n with
     |false=>rfl
     |true=>exact absurd (bQ hb) E
    simp only[vu,hb,aq];exact S3 C t xs J k
  ·cases h
theorem jg.ZG{D:jg}{x:D.St}(h:D.LO σ=some x)(hR:R w0 N σ a w):R w0 N (D.mk' x) a w:=by
 unfold jg.LO at h;split at h
 ·rename_i u v J L;injection h with h;subst h;obtain⟨ah,ρ,hR⟩:=hR
  refine⟨ah,ρ,hR.below,hR.cH,λn y C=>?_,λk=>?_,hR.size,hR.defers,hR.fix,hR.dm⟩
  ·have C:vu D.rs v n=some y:=C;rcases S3 D.rs σ.m v L n with e | ⟨m,x,z,E,I,O⟩
   ·rw[e]at C;cases C
   ·rw[O]at C;injection C with C;subst C;exact Rm.pI I (hR.root n x E)
  ·show RA _ _ _ _ (vr D.ts u k) _;rcases S2 D.ts σ.t u J k with e | ⟨m,z,E,I⟩
   ·rw[e];trivial
   ·rw[I];exact Tm.pI E (hR.tmp k)
 ·cases h
theorem ZH{n:Nat}{o:aj Nat}(h:SX n o=true):o=some n:=by
 cases o with
 |none=>cases h
 |some m=>rw[bQ h]
theorem ZI{rs:Rn}{r n:Nat}(h:rs.lookup r=some n):(r,n)∈rs:=by
 induction rs with
 |nil=>cases h
 | cons p rs C=>
  obtain⟨x,y⟩:=p;rw[List.lookup_cons]at h;split at h
  next hb=>injection h with h;subst h;rw[eq_of_beq hb];exact .head _
  ·exact .tail _ (C h)
theorem ZJ{rs:Rn}{r n:Nat}(h:rs.inv n=some r):(r,n)∈rs:=by
 unfold Rn.inv at h;cases C:rs.find? (λp=>Nat.beq p.2 n)with
 |none=>rw[C]at h;cases h
 | some p=>
  rw[C]at h;injection h with h;subst h;have D:=List.find?_some C;have E:=List.mem_of_find?_eq_some C;rw[<-bQ D];exact E
def Rn.dQ(rs:Rn)(ρ:Nat->Loc):Nat->Loc:=λn=>match rs.inv n with
 |some r=>ρ r
 |none=>ρ n
theorem Rn.LQ{rs:Rn}(h:rs.ok=true){r n:Nat}(C:(r,n)∈rs):(r=n\/60000<=n)/\rs.lookup r=some n/\rs.inv n=some r:=by
 have:=cv.1 h _ C;rw[aK,aK,dy]at this;refine⟨?_,ZH this.1.2,ZH this.2⟩;rcases this.1.1 with h|h
 ·exact .inl (bQ h)
 ·exact .inr (cB h)
theorem cQ.dS{rs:Rn}(D:rs.ok=true){x:Lf}{u:Value}(h:cQ w B ah ρ x u):cQ w B (eA ah rs id) (rs.dQ ρ) (x.dS rs) u:=by
 unfold Lf.dS;split
 ·exact⟨h.1,h.2.Fi h.1 λb=>uW⟩
 ·rename_i r;split
  next n E=>have hi:=(Rn.LQ D (ZI E)).2.2;refine⟨h.1,?_⟩;have C:=h.2;simp only[cm]at C ⊢;unfold Rn.dQ;rw[hi];exact C
  ·trivial
 ·trivial
theorem Rl.dS{rs:Rn}(L:rs.ok=true)(h:Rl w0 N ah ρ σ a w):Rl w0 N (eA ah rs id) (rs.dQ ρ) (σ.dS rs) a w:=by
 have hl:∀ b r n,ah b=some [r]->rs.lookup r=some n->eA ah rs id b=some [n]:=by
  intro b r n E I;simp[eA,E,I]
 refine⟨h.below,λb k D=>?_,λn x C=>?_,λk=>?_,h.size,h.defers,λr l O=>?_,h.dm⟩
 ·unfold eA at D;split at D
  ·cases D
  ·rename_i k0 CC;split at D
   ·cases D
   ·rename_i r O;cases Y:rs.lookup r with
    |none=>rw[Y]at D;cases D
    | some n=>
     rw[Y]at D;injection D with D;subst D;obtain⟨E,I,_⟩:=h.cH b k0 CC;exact⟨E,I,by simp⟩
 ·have C:(match rs.inv n with | some r=>(σ.m r).map (aP.dS rs) | none=>none)=some x:=C;cases hi:rs.inv n with
  |none=>rw[hi]at C;cases C
  | some r=>
   rw[hi]at C;have C:(σ.m r).map (aP.dS rs)=some x:=C;have xw:=(Rn.LQ L (ZJ hi)).2.1;have Z:rs.dQ ρ n=ρ r:=by unfold Rn.dQ;rw[hi]
   cases hm:σ.m r with
   |none=>rw[hm]at C;cases C
   | some y=>
    rw[hm]at C;injection C with C;subst C;cases h.root r y hm with
    | ax b off cells e cs us E I hh hs hc=>
     refine .ax b off cells e _ us (Z.trans E) (hl b r n I xw) hh (by rw[cZ];exact hs) λj x C=>?_
     rw[cO]at C;cases J:cs[j]? with
     |none=>rw[J]at C;cases C
     | some z=>
      rw[J]at C;injection C with C;subst C;exact⟨(hc j z J).1,(hc j z J).2.dS L⟩
    | sl v y E I=>
     exact .sl v y (Z.trans E) (RV.eA (p:=[]) (nm:=id) I xw)
    |mp b c es l E I hh he=>exact .mp b c es l (Z.trans E) (hl b r n I xw) hh he
    |gh us xs E C=>exact .gh us _ (Z.trans E) λj x hj=>by simp at hj
 ·show RA _ _ _ _ ((σ.t k).dS rs) _;have D:=h.tmp k;generalize σ.t k=x at D;unfold A.dS;split
  ·exact D.dS L
  ·rename_i r j;split
   next n Y=>have hi:=(Rn.LQ L (ZI Y)).2.2;obtain⟨b,off,E,I⟩:=D;exact⟨b,off,by unfold Rn.dQ;rw[hi];exact E,I⟩
   ·trivial
  ·obtain⟨b,off,Q,T,U,g4⟩:=D
   refine⟨b,off,Q,T,uW U,λj x C=>?_⟩
   obtain⟨f1,v,f2,f3⟩:=g4 j x C;exact⟨f1,v,f2,f3.Fi f1 λb=>uW⟩
  ·obtain⟨pv,e0,b,off,Q,T,U,g4⟩:=D
   refine⟨pv,e0,b,off,Q,T,uW U,λj x C=>?_⟩
   obtain⟨f1,v,f2,f3⟩:=g4 j x C;exact⟨f1,v,f2,f3.Fi f1 λb=>uW⟩
  ·obtain⟨us,Q,T,U⟩:=D
   refine⟨us,Q,by rw[cZ];exact T,λj x C=>?_⟩
   rw[cO]at C;rename_i cs;cases J:cs[j]? with
   |none=>rw[J]at C;cases C
   | some z=>
    rw[J]at C;injection C with C;subst C;obtain⟨v,f1,f2⟩:=U j z J;exact⟨v,f1,f2.dS L⟩
  ·trivial
 ·show rs.dQ ρ r=l;unfold Rn.dQ;split
  ·rename_i r0 hi;rcases(Rn.LQ L (ZJ hi)).1 with e | e
   ·rw[e];exact h.fix r l O
   ·rw[h.dm r (.inr e)]at O;cases O
  ·exact h.fix r l O
theorem alg{rs:aa (Nat×Rm)}{p:Nat×Tm}(hR:R w0 N σ a w):R w0 N (SZ rs p σ) a w:=by
 unfold SZ;split
 ·rename_i n Q J;split
  ·rename_i t o hl;cases hb:Nat.ble 60000 n with
   |false=>exact hR
   | true=>
    have L:=cB hb;obtain⟨ah,ρ,hR⟩:=hR;have D:=hR.tmp p.1;rw[J]at D;have O:a.tmps.getD p.1 undef = .slice none 0 0:=by
     have E:=D.2;generalize a.tmps.getD p.1 undef=u at E;cases E;rfl
    have C:=hR.new (d:=n) (x:=.sl (.sl t o false [])) (.de (.slice none 0 0)) (.sl _ _ (bO _ _ _) (.cG _ _ _)) (hR.dm n (.inr L))
    refine⟨ah,_,C.below,C.cH,C.root,λk=>?_,C.size,C.defers,C.fix,C.dm⟩
    show RA _ _ _ _ (bL ((σ.drop n).root n (.sl (.sl t o false []))).t p.1 (.lf (.own [n])) k) _;by_cases I:k=p.1
    ·subst I;rw[bO,O];exact⟨rfl,by simp only[cm,bO]⟩
    ·rw[cu _ _ _ I];exact C.tmp k
  ·exact hR
 ·exact hR
theorem alh{n j r:Nat}{y:V}(hR:Rl w0 N ah ρ σ a w)(Q:ρ n = .de (.slice none 0 0)):Rl w0 N ah ρ (S0 n j r σ) a w:=by
 unfold S0;split
 ·rename_i cs T;split
  ·rename_i J
   refine⟨hR.below,hR.cH,λE x C=>?_,hR.tmp,hR.size,hR.defers,hR.fix,hR.dm⟩
   have C:bL σ.m r (some (.ax (cs.set j (.own [n])))) E=some x:=C;by_cases L:E=r
   ·subst L;rw[bO]at C;injection C with C;subst C;cases hR.root E _ T with
    | ax b off cells e cs us U I Y Z O=>
     refine .ax b off cells e _ us U I Y (by rw[jE];exact Z) λi z D=>?_
     rw[List.getElem?_set]at D;by_cases hi:j=i
     ·subst hi;have dn:j<cs.length:=(c7.1 J).1;rw[bk rfl,bk dn]at D;injection D with D;subst D;obtain⟨k1,k2⟩:=O j _ J;refine⟨k1,?_⟩;have hu:us j = .slice none 0 0:=by
       have I:=k2.2;generalize us j=u at I;cases I;rfl
      rw[hu];exact⟨rfl,by simp only[cm,Q]⟩
     ·rw[bB hi]at D;exact O i z D
   ·rw[cu _ _ _ L]at C;exact hR.root E x C
  ·exact hR
 ·exact hR
theorem ali{rs:aa (Nat×Rm)}{n j r:Nat}(hR:R w0 N σ a w):R w0 N (S1 rs n j r σ) a w:=by
 unfold S1;split
 ·rename_i t o hl;cases hb:Nat.ble 60000 n with
  |false=>exact hR
  | true=>
   have C:=cB hb;obtain⟨ah,ρ,hR⟩:=hR;exact⟨ah,_,alh (y:=.nil) (hR.new (d:=n) (x:=.sl (.sl t o false [])) (.de (.slice none 0 0)) (.sl _ _ (bO _ _ _) (.cG _ _ _)) (hR.dm n (.inr C))) (bO _ _ _)⟩
 ·exact hR
theorem S4{rs:aa (Nat×Rm)}{r:Nat}:∀ (C:aa Lm) (cs:aa Lf) (j:Nat) (σ:S),R w0 N σ a w->R w0 N (Aq rs r j C cs σ) a w
 |[],cs,j,σ,h=>by unfold Aq;exact h
 | m :: C,[],j,σ,h=>by
  unfold Aq;split<;>first|exact h|contradiction
 | m :: C,c :: cs,j,σ,h=>by
  unfold Aq;split
  next D E=>cases D;cases E;exact S4 C cs _ _ (ali h)
  next D E=>cases D;cases E;exact S4 C cs _ _ h
  ·exact h
theorem F9{rs:aa (Nat×Rm)}:∀ (ps:aa (Nat×Rm)) (σ:S),R w0 N σ a w->R w0 N (F8 rs ps σ) a w
 |[],σ,h=>h
 |(r,.sl t o)::ps,σ,h=>F9 ps σ h
 |(r,.st t)::ps,σ,h=>F9 ps σ h
 |(r,.mp)::ps,σ,h=>F9 ps σ h
 | (r,.ax C) :: ps,σ,h=>by
  unfold F8;refine F9 ps _ ?_;split
  ·exact S4 C _ 0 σ h
  ·exact h
theorem ZK{rs:aa (Nat×Rm)}:∀ (ps:aa (Nat×Tm)) (σ:S),R w0 N σ a w->R w0 N (LP rs ps σ) a w
 |[],σ,h=>h
 |p::ps,σ,h=>ZK ps _ (alg h)
theorem jg.pI{C:jg}{x:C.St}(h:C.rd σ=some x)(hR:R w0 N σ a w):R w0 N (C.mk' x) a w:=by
 unfold jg.rd at h;split at h
 next y D=>injection h with h;subst h;exact jg.ZG D hR
 ·have hR:=ZK (rs:=C.rs) C.ts σ hR;revert h hR;generalize LP C.rs C.ts σ=E;intro h hR;unfold jg.ZE at h;cases hb:(C.rn E).ok with
  |false=>rw[hb]at h;cases h
  | true=>
   rw[hb,ak]at h;obtain⟨ah,ρ,hR⟩:=hR;exact jg.ZG h (F9 C.rs _ ⟨_,_,hR.dS hb⟩)
end
def vw:aa V->aa Nat->aa Lf
 |[],_=>[]
 | x :: xs,ns=>bif x.plain then .v x :: vw xs ns else (match ns with
  |n::ns=>.own [n]::vw xs ns
  |[]=>.dead::vw xs [])
def As:aa V->aa Nat->(Nat->aj aP)->Nat->aj aP
 |[],_,m,k=>m k
 | x :: xs,ns,m,k=>bif x.plain then As xs ns m k else (match ns with
  |n::ns=>bif Nat.beq k n then some (.sl x)else As xs ns m k
  |[]=>As xs [] m k)
def ku(m:Nat->aj aP):aa Lf->aa Nat->aj (aa V)
 |[],[]=>some []
 | .v x :: cs,ns=>bif x.plain then (match ku m cs ns with
  |some C=>some (x::C)
  |none=>none)else none
 | .own [r] :: cs,n :: ns=>bif Nat.beq r n then (match m n with
  | some (.sl y)=>bif y.plain then none else (match ku m cs ns with
   |some C=>some (y::C)
   |none=>none)
  |_=>none)else none
 |_,_=>none
abbrev Gp:=Nat×TC×Nat×aa Nat
def Ga:aa Gp->Type->Type
 |[],X=>X
 |g::gs,X=>T g.2.1×Ga gs X
def LR:(gs:aa Gp)->(rs:aa (Nat×Rm))->Ga gs (vt rs)->Nat->aj aP
 |[],rs,x,k=>vu rs x k
 |(n,t,o,ns)::gs,rs,x,k=>bif Nat.beq k n then some (.ax (vw (enc t o x.1) ns))else As (enc t o x.1) ns (LR gs rs x.2) k
def LS:(gs:aa Gp)->(rs:aa (Nat×Rm))->(Nat->aj aP)->aj (Ga gs (vt rs))
 |[],rs,m=>CZ rs m
 | (n,t,o,ns) :: gs,rs,m=>match m n with
  | some (.ax cs)=>(match ku m cs ns with
   | some C=>(match dec t o C,LS gs rs m with
    |some x,some y=>some (x,y)
    |_,_=>none)
   |none=>none)
  |_=>none
def C0:aa V->aa Nat->aa Lm
 |[],_=>[]
 |.int k _::xs,ns=>.int k::C0 xs ns
 |.bool _::xs,ns=>.bool::C0 xs ns
 |.str _::xs,ns=>.str::C0 xs ns
 |_::xs,n::ns=>.own n::C0 xs ns
 |_::xs,[]=>.bool::C0 xs []
def S5:aa V->aa Nat->aa (Nat×Rm)
 |.sl t o _ _::xs,n::ns=>(n,.sl t o)::S5 xs ns
 |_::xs,ns=>S5 xs ns
 |[],_=>[]
def S6:aa Gp->aa (Nat×Rm)->aa (Nat×Rm)
 |[],rs=>rs
 |(n,t,o,ns)::gs,rs=>(n,.ax (C0 (WS t o) ns))::(S5 (WS t o) ns++S6 gs rs)
structure cN where
 ts:List (Nat×Tm)
 rs:List (Nat×Rm)
 gs:List Gp
def cN.St(C:cN):Type:=CY C.ts×Ga C.gs (vt C.rs)
def cN.mk'(C:cN)(x:C.St):S:=⟨vr C.ts x.1,LR C.gs C.rs x.2⟩
def cN.LU(C:cN)(σ:S):aj C.St:=match F7 C.ts σ.t,LS C.gs C.rs σ.m with
 |some x,some y=>some (x,y)
 |_,_=>none
def cN.rd(C:cN)(σ:S):aj C.St:=match C.LU σ with
 |some x=>some x
 | none=>match jg.rd ⟨C.ts,S6 C.gs C.rs⟩ σ with
  |some z=>C.LU (jg.mk' ⟨C.ts,S6 C.gs C.rs⟩ z)
  |none=>none
section
variable {P:Program} {w w':World} {w0:Wd} {B N:Nat} {ah aD:bA} {ρ ρ':Nat->Loc} {σ:S} {a:Act} {m:Nat->aj aP}
theorem bS.inv{x:V}{xs ys:aa V}(k:bS (x :: xs) ys):∃ y C,ys=y :: C/\Wk x y/\bS xs C:=by
 obtain⟨D,E⟩:=k;cases ys with
 |nil=>simp at D
 |cons y C=>exact⟨y,C,rfl,E 0 x y rfl rfl,by simpa using D,λj a b I hb=>E (j+1) a b (by simpa using I) (by simpa using hb)⟩
theorem Wk.ZL{x y:V}(h:Wk x y)(C:x.plain=true):y=x:=by
 cases h<;>first|rfl|cases C
theorem Wk.ZM{x y:V}(h:Wk x y)(C:x.plain=false):y.plain=false:=by
 cases h<;>first|exact C|rfl
theorem S7:∀ (cs:aa Lf) (ns:aa Nat) (C ys:aa V),ku m cs ns=some C->bS C ys->(vw ys ns).length=cs.length/\∀ (j:Nat) z,(vw ys ns)[j]?=some z->cs[j]?=some z
 | [],[],C,ys,h,I=>by
  simp only[ku,fh]at h;subst h;have:ys=[]:=List.eq_nil_of_length_eq_zero I.1.symm;subst this;exact⟨rfl,λj z E=>by simp[vw]at E⟩
 | .v x :: cs,ns,C,ys,h,I=>by
  unfold ku at h;cases D:x.plain with
  |false=>rw[D]at h;cases h
  | true=>
   rw[D,ak]at h;split at h
   ·rename_i us J;injection h with h;subst h;obtain⟨y,L,rfl,O,Q⟩:=I.inv;obtain rfl:=O.ZL D;obtain⟨T,U⟩:=S7 cs ns us L J Q;simp only[vw,D,ak]
    refine⟨by simp[T],λj z E=>?_⟩
    cases j with
    |zero=>simpa using E
    |succ j=>exact U j z (by simpa using E)
   ·cases h
 | .own [r] :: cs,n :: ns,C,ys,h,I=>by
  unfold ku at h;cases hb:Nat.beq r n with
  |false=>rw[hb]at h;cases h
  | true=>
   rw[hb,ak]at h;obtain rfl:=bQ hb;split at h
   ·rename_i y Z;cases D:y.plain with
    |true=>rw[D]at h;cases h
    | false=>
     rw[D,aq]at h;split at h
     ·rename_i us J;injection h with h;subst h;obtain⟨y',L,rfl,O,Q⟩:=I.inv;have Y:=O.ZM D;obtain⟨T,U⟩:=S7 cs ns us L J Q;simp only[vw,Y,aq]
      refine⟨by simp[T],λj z E=>?_⟩
      cases j with
      |zero=>simpa using E
      |succ j=>exact U j z (by simpa using E)
     ·cases h
   ·cases h
 |[],_::_,C,ys,h,_=>by simp[ku]at h
 |.dead::_,_,C,ys,h,_=>by simp[ku]at h
 |.own []::_,_,C,ys,h,_=>by simp[ku]at h
 |.own (_::_::_)::_,_,C,ys,h,_=>by simp[ku]at h
 |.own [_]::_,[],C,ys,h,_=>by simp[ku]at h
theorem S8{f:Nat->aj aP}{k:Nat}{x:aP}:∀ (cs:aa Lf) (ns:aa Nat) (D ys:aa V),ku m cs ns=some D->bS D ys->As ys ns f k=some x->f k=some x\/∃ v y,m k=some (.sl v)/\x = .sl y/\Wk v y
 | [],[],D,ys,h,I,C=>by
  simp only[ku,fh]at h;subst h;have:ys=[]:=List.eq_nil_of_length_eq_zero I.1.symm;subst this;exact .inl C
 | .v U :: cs,ns,D,ys,h,I,C=>by
  unfold ku at h;cases E:U.plain with
  |false=>rw[E]at h;cases h
  | true=>
   rw[E,ak]at h;split at h
   next us L=>injection h with h;subst h;obtain⟨y,O,rfl,J,Q⟩:=I.inv;obtain rfl:=J.ZL E;simp only[As,E,ak]at C;exact S8 cs ns us O L Q C
   ·cases h
 | .own [r] :: cs,n :: ns,D,ys,h,I,C=>by
  unfold ku at h;cases hb:Nat.beq r n with
  |false=>rw[hb]at h;cases h
  | true=>
   rw[hb,ak]at h;obtain rfl:=bQ hb;split at h
   ·rename_i y Y;cases E:y.plain with
    |true=>rw[E]at h;cases h
    | false=>
     rw[E,aq]at h;split at h
     ·rename_i us L;injection h with h;subst h;obtain⟨Z,O,rfl,J,Q⟩:=I.inv;have hq:=J.ZM E;simp only[As,hq,aq]at C;cases T:Nat.beq k r with
      | true=>
       rw[T,ak]at C;injection C with C;obtain rfl:=bQ T;exact .inr ⟨y,Z,Y,C.symm,J⟩
      | false=>
       rw[T,aq]at C;exact S8 cs ns us O L Q C
     ·cases h
   ·cases h
 |[],_::_,D,ys,h,_,_=>by simp[ku]at h
 |.dead::_,_,D,ys,h,_,_=>by simp[ku]at h
 |.own []::_,_,D,ys,h,_,_=>by simp[ku]at h
 |.own (_::_::_)::_,_,D,ys,h,_,_=>by simp[ku]at h
 |.own [_]::_,[],D,ys,h,_,_=>by simp[ku]at h
theorem ZN:∀ (gs:aa Gp) (rs:aa (Nat×Rm)) (y:Ga gs (vt rs)),LS gs rs m=some y->∀ k x,LR gs rs y k=some x->∃ J,m k=some J/\∀ (w:World) (B:Nat) (ah:bA) (ρ:Nat->Loc),dH w B ah ρ k J->dH w B ah ρ k x
 | [],rs,y,h,k,x,C=>by
  have h:CZ rs m=some y:=h;have C:vu rs y k=some x:=C;rcases S3 rs m y h k with e|⟨m',J,z,E,I,Y⟩
  ·rw[e]at C;cases C
  ·rw[Y]at C;injection C with C;subst C;exact⟨J,E,λw B ah ρ D=>Rm.pI I D⟩
 | (n,t,o,ns) :: gs,rs,y,h,k,x,C=>by
  unfold LS at h;split at h
  ·rename_i cs Z;split at h
   ·rename_i L T;split at h
    ·rename_i x1 y1 h1 h2;injection h with h;subst h;have U:=lu t o L x1 h1;simp only[LR]at C;cases O:Nat.beq k n with
     | true=>
      rw[O,ak]at C;injection C with C;subst C;obtain rfl:=bQ O;obtain⟨E,I⟩:=S7 cs ns L _ T U
      refine⟨_,Z,λw B ah ρ D=>?_⟩
      cases D with
      |ax b off cells e _ us Q hl hh hs hc=>exact .ax b off cells e _ us Q hl hh (by rw[E];exact hs) λj z hz=>hc j z (I j z hz)
     | false=>
      rw[O,aq]at C;rcases S8 cs ns L _ T U C with e|⟨v,y',E,rfl,I⟩
      ·exact ZN gs rs y1 h2 k x e
      ·refine⟨_,E,λw B ah ρ D=>?_⟩
       cases D with
       |sl u _ Q D=>exact .sl u _ Q (D.wk I)
    ·cases h
   ·cases h
  ·cases h
theorem cN.ZO{C:cN}{x:C.St}(h:C.LU σ=some x)(hR:R w0 N σ a w):R w0 N (C.mk' x) a w:=by
 unfold cN.LU at h;split at h
 ·rename_i u v I J;injection h with h;subst h;obtain⟨ah,ρ,hR⟩:=hR
  refine⟨ah,ρ,hR.below,hR.cH,λn y L=>?_,λk=>?_,hR.size,hR.defers,hR.fix,hR.dm⟩
  ·obtain⟨O,D,E⟩:=ZN C.gs C.rs v J n y L;exact E _ _ _ _ (hR.root n O D)
  ·show RA _ _ _ _ (vr C.ts u k) _;rcases S2 C.ts σ.t u I k with e | ⟨m,z,D,E⟩
   ·rw[e];trivial
   ·rw[E];exact Tm.pI D (hR.tmp k)
 ·cases h
theorem cN.pI{C:cN}{x:C.St}(h:C.rd σ=some x)(hR:R w0 N σ a w):R w0 N (C.mk' x) a w:=by
 unfold cN.rd at h;split at h
 next y D=>injection h with h;subst h;exact cN.ZO D hR
 ·split at h
  next z E=>exact cN.ZO h (jg.pI E hR)
  ·cases h
end
def yb:Exit->aj Nat
 |.normal=>some 0
 |.ret=>some 1
 |.exit n=>some (n+2)
 |_=>none
def S9:Nat->Exit
 |0=>.normal
 |1=>.ret
 |n+2=>.exit n
theorem rj{e:Exit}{n:Nat}(h:yb e=some n):e=S9 n:=by
 cases e<;>simp[yb]at h<;>subst h<;>rfl
def sB:aa (Nat×cN)->Type
 |[]=>Empty
 |(_,C)::r=>C.St⊕sB r
def LV:(l:aa (Nat×cN))->Nat->S->aj (sB l)
 |[],_,_=>none
 | (n,C) :: r,e,σ=>bif Nat.beq n e then (match C.rd σ with
  |some x=>some (.inl x)
  |none=>none)else (match LV r e σ with
  |some x=>some (.inr x)
  |none=>none)
def Ta{X:Type}:(l:aa (Nat×cN))->sB l->(Exit->S->aj X)->aj X
 |[],z,_=>nomatch z
 | (n,C) :: r,z,k=>match z with
  |.inl x=>k (S9 n) (C.mk' x)
  |.inr z=>Ta r z k
def iter{α β:Type}(step:α->aj (α⊕β)):Nat->α->aj β
 |0,_=>none
 | n+1,x=>match step x with
  |some (.inl y)=>iter step n y
  |some (.inr z)=>some z
  |none=>none
def C1(P:Program)(N:Nat)(Φ:dJ)(Λ:mq)(body:Code)(C:cN)(D:aa (Nat×cN))(x:C.St):aj (C.St⊕sB D):=
 fX P N Φ Λ body (C.mk' x) λe σ=>match yb e with
  | some 0=>(match C.rd σ with
   |some x=>some (.inl x)
   |none=>none)
  | some n=>(match LV D n σ with
   |some x=>some (.inr x)
   |none=>none)
  |none=>none
def Tb{X:Type}(id:Nat)(k:Exit->S->aj X)(e:Exit)(σ:S):aj X:=
 match e with
 |.exit C=>if C=id then k .normal σ else k (.exit C) σ
 |e=>k e σ
def LW(id:Nat)(C:cN)(D:aa (Nat×cN))(F:C.St->aj (C.St⊕sB D))(fuel:C.St->Nat):q5:=
 ⟨λX σ k=>match C.rd σ with
  | some x=>(match iter F (fuel x) x with
   |some z=>Ta D z (Tb id k)
   |none=>none)
  |none=>none⟩
def ng:aa (Bool×TC)->Type
 |[]=>af
 |(_,t)::r=>T t×ng r
def gu:(l:aa (Bool×TC))->ng l->aa Pt
 |[],_=>[]
 |(b,t)::r,x=>(b,enc t 0 x.1)::gu r x.2
def yc:(l:aa (Bool×TC))->aa Pt->aj (ng l)
 |[],[]=>some ()
 | (b,t) :: r,(C,D) :: ps=>bif b==C then (match dec t 0 D,yc r ps with
  |some x,some xs=>some (x,xs)
  |_,_=>none)else none
 |_,_=>none
def aR(ai:aa (Bool×TC))(ro:aa (Bool×TC×Nat))(F:ng ai->aj (jQ ro)):jc:=
 ⟨λX args k=>match yc ai args with
  | some x=>(match F x with
   |some y=>k (eI ro y)
   |none=>none)
  |none=>none⟩
def Tc:Pt->A
 |(false,[x])=>.lf (.v x)
 |(true,xs)=>.agg (xs.map .v)
 |(false,.bool true::c::cs)=>.gG (c::cs)
 |(false,.bool false::.int .i64 (.ofNat g)::c::cs)=>.ko g (c::cs)
 |_=>.undef
def ZP(args:aa Pt):S:=⟨λk=>match args[k]? with
 |some p=>Tc p
 |none=>.undef,λ_=>none⟩
def rm{X:Type}(P:Program)(N:Nat)(Φ:dJ)(Λ:mq)(code:Code)(C:Array ResultVar)(args:aa Pt)(k:fS->aj X):aj X:=
 fX P N Φ Λ code (ZP args) λe σ=>match yb e with
  |some 0=>Ff P σ C k
  |some 1=>Ff P σ C k
  |_=>none
section
variable {P:Program} {w w':World} {w0:Wd} {B N:Nat} {ah aD:bA} {ρ ρ':Nat->Loc} {σ:S} {a:Act} {X:Type} {d:Nat} {r:X} {o:Oper} {Φ:dJ} {Λ:mq}
theorem ZQ:∀ (l:aa (Nat×cN)) (e:Nat) (z:sB l),LV l e σ=some z->∀ (X:Type) (k:Exit->S->aj X),∃ D,Ta l z k=k (S9 e) D/\∀ a w,R w0 N σ a w->R w0 N D a w
 |[],e,z,h=>by cases h
 | (n,E) :: l,e,z,h=>by
  intro X k;unfold LV at h;cases hb:Nat.beq n e with
  | true=>
   obtain rfl:=bQ hb;rw[hb,ak]at h;split at h
   next x C=>injection h with h;subst h;exact⟨E.mk' x,rfl,λa w hR=>cN.pI C hR⟩
   ·cases h
  | false=>
   rw[hb,aq]at h;split at h
   next x C=>injection h with h;subst h;exact ZQ l e x C X k
   ·cases h
theorem alj{id:Nat}{body:Code}{I:cN}{Q:aa (Nat×cN)}{F:I.St->aj (I.St⊕sB Q)}{fuel:I.St->Nat}(fo:fm P Φ)(vA:oH P N Λ (occs body))(hF:∀ x,C1 P N Φ Λ body I Q x=F x):Ad P N (.block id (.loop body)) (LW id I Q F fuel):=by
 intro X σ k r w0 h a w hR;simp only[LW]at h;split at h
 ·rename_i x E;split at h
  ·rename_i z hz;refine wp_block ?_;have key:∀ (n:Nat) (x:I.St),iter F n x=some z->∀ (a:Act) (w:World),R w0 N (I.mk' x) a w->∀ (b:Frame) (J:aa Item) (cs:aa Frame),
     ∃e L w',Exit.inBlock id (λe L w'=>∃dG,k e dG=some r/\R w0 N dG L w') e L w'/\Arrives P (lone (b.at a (.code body::.inLoop body::J)) cs w) b J cs e L w':=by
    intro n
    induction n with
    |zero=>intro x E;simp[iter]at E
    | succ n ih=>
     intro x E a w hR b J cs;simp only[iter]at E;have kL:∃ y,C1 P N Φ Λ body I Q x=some y/\(match y with | .inl y=>iter F n y=some z | .inr z'=>z'=z):=by
      rw[hF];split at E
      next y O=>exact⟨_,O,E⟩
      next y O=>exact⟨_,O,by injection E⟩
      ·cases E
     obtain⟨y,O,U⟩:=kL;unfold C1 at O;have hwp:=CW (w0:=w0) fo body _ _ O vA a w hR;obtain⟨e,T,w1,⟨qx,D,Y⟩,Z⟩:=hwp b (.inLoop body::J) cs;split at D
     ·rename_i C;have C:=rj C;subst C;split at D
      next x1 Fw=>injection D with D;subst D;obtain⟨e2,a2,w2,qh,alk⟩:=ih x1 U T w1 (cN.pI Fw Y) b J cs;exact⟨e2,a2,w2,qh,.of_steps (Steps.trans Z (.one step_inLoop)) alk⟩
      ·cases D
     ·rename_i n' dY C;have C:=rj C;split at D
      ·rename_i z1 Td;injection D with D;subst D;have U:z1=z:=U;subst U;obtain⟨σ2,mR,jP⟩:=ZQ (w0:=w0) (N:=N) Q n' z1 Td X (Tb id k);rw[mR]at h;rw[<-C]at h;refine⟨e,T,w1,?_,?_⟩
       ·cases e with
        | exit ZA=>
         simp only[Tb]at h;simp only[Exit.inBlock];split at h
         next hid=>rw[bk hid];exact⟨σ2,h,jP T w1 Y⟩
         next hid=>rw[bB hid];exact⟨σ2,h,jP T w1 Y⟩
        |_=>exact⟨σ2,h,jP T w1 Y⟩
       ·refine .pass (x:=.inLoop body) rfl (λ_ _=>.inl ?_) Z
        intro e';rw[e']at C
        match n',dY,C with
        |0,dY,_=>exact dY rfl
        |1,_,C=>cases C
        |n+2,_,C=>cases C
      ·cases D
     ·cases D
   intro b J cs;obtain⟨e,L,w',hq,Z⟩:=key (fuel x) x hz a w (cN.pI E hR) b J cs;exact⟨e,L,w',hq,.of_steps (.one step_loop) Z⟩
  ·cases h
 ·cases h
theorem PV.qw{key:Nat->aa Nat}{b:Bool}{xs ys:aa V}{u:Value}(h:PV w B ah key (b,xs) u)(k:bS xs ys):PV w B ah key (b,ys) u:=by
 obtain⟨us,E,I,J⟩:=h
 refine⟨us,E,I.trans k.1,λj y C=>?_⟩
 have D:j<xs.length:=by rw[k.1];exact(c7.1 C).1
 obtain⟨v,L,O⟩:=J j _ (bK D);exact⟨v,L,O.wk (k.2 j _ y (bK D) C)⟩
theorem xj.qw{cs C:aa V}{u:Value}(h:xj w cs u)(k:bS cs C):xj w C u:=by
 obtain⟨b,off,I,hb,J⟩:=h
 refine⟨b,off,I,hb,λj y D=>?_⟩
 have E:j<cs.length:=by rw[k.1];exact(c7.1 D).1
 obtain⟨v,L,O⟩:=J j _ (bK E);exact⟨v,L,O.wk (k.2 j _ y (bK E) D)⟩
theorem PA.qw{b:Bool}{xs ys:aa V}{u:Value}(h:PA w (b,xs) u)(k:bS xs ys):PA w (b,ys) u:=by
 cases h with
 |v _ _ h=>exact .v _ _ (h.qw k)
 | p c cs _ h=>
  obtain⟨y,E,rfl,C,D⟩:=k.inv;cases C;have h:=h.qw D;obtain⟨J,eM,rfl,_,_⟩:=D.inv;exact .p _ _ _ h
 | f g c cs u h=>
  obtain⟨y,E,rfl,C,D⟩:=k.inv;cases C;obtain⟨y,E,rfl,C,I⟩:=D.inv;cases C;have h:=h.qw I;obtain⟨J,eM,rfl,_,_⟩:=I.inv;exact .f _ _ _ _ h
theorem PA.ra{p:Pt}{u:Value}(h:PA w p u)(D:∀ y∈p.2,y.aA=true):RA w w.heap.size (λ_=>none) ρ (Tc p) u:=by
 have Q:∀ {cs:aa V} {u:Value},xj w cs u->(∀ y∈cs,y.aA=true)->RF w w.heap.size (λ_=>none) cs u:=by
  rintro cs u ⟨b,off,rfl,hb,E⟩ D
  refine⟨b,off,rfl,hb,rfl,λj x T=>⟨D x (fL T),E j x T⟩⟩
 cases h with
 | v _ _ h=>
  obtain⟨us,I,U,E⟩:=h;obtain⟨b,xs⟩:=p;cases b with
  | true=>
   refine⟨us,I,by rw[cZ];exact U,λi y C=>?_⟩
   rw[cO]at C;cases J:xs[i]? with
   |none=>rw[J]at C;cases C
   | some z=>
    rw[J]at C;injection C with C;subst C;obtain⟨v,L,O⟩:=E i z J;exact⟨v,L,D z (fL J),O⟩
  | false=>
   have I:us = #[u]:=I;subst I;have Y:xs.length=1:=U.symm;obtain⟨x,rfl⟩:=List.length_eq_one_iff.1 Y;obtain⟨v,L,O⟩:=E 0 x rfl;have:u=v:=by simpa using L
   subst this;exact⟨D x (by simp),O⟩
 |p c cs _ h=>exact Q h λy C=>D y (.tail _ C)
 |f g c cs u h=>exact⟨u,rfl,Q h λy C=>D y (.tail _ (.tail _ C))⟩
theorem Gb:∀ (l:aa (Bool×TC)) (ps:aa Pt) (x:ng l),yc l ps=some x->(gu l x).length=ps.length/\∀ (i:Nat) p,(gu l x)[i]?=some p->∃ q,ps[i]?=some q/\q.1=p.1/\bS q.2 p.2
 |[],[],x,h=>⟨rfl,λi p C=>by simp[gu]at C⟩
 | (b,t) :: r,(D,E) :: ps,x,h=>by
  unfold yc at h;cases hb:b==D with
  |false=>rw[hb]at h;cases h
  | true=>
   rw[hb,ak]at h;have hb:b=D:=by simpa using hb
   subst hb;split at h
   ·rename_i y ys I J;injection h with h;subst h;obtain⟨L,O⟩:=Gb r ps ys J
    refine⟨by simp[gu,L],λi p C=>?_⟩
    cases i with
    |zero=>simp[gu]at C;subst C;exact⟨(b,E),rfl,rfl,lu t 0 E y I⟩
    |succ i=>exact O i p (by simpa [gu]using C)
   ·cases h
 |[],_::_,x,h=>by simp[yc]at h
 |_::_,[],x,h=>by simp[yc]at h
def oK(l:aa (Bool×TC×Nat)):Bool:=l.all λp=>Nat.ble (full p.2.1) p.2.2
theorem ZR(t:TC)(g:Nat)(x:T t)(h:full t<=g):(enc t g x).all V.loc=true:=by
 rw[cv];intro y D;have I:=uC t g x y D;have hl:=J4 t g x y D;cases y with
 | sl E C q l=>
  have J:C=g:=by simpa [V.gr]using I
  subst J;have hl:full E+2<=full t:=cB hl;show xk E C=true
  match C,h with
  |0,h=>omega
  |1,h=>omega
  | n+2,h=>
   simp only[xk,dy];left;exact iE (by omega)
 |_=>rfl
theorem Te:∀ (l:aa (Bool×TC×Nat)) (ps:aa Pt) (x:jQ l),oK l=true->mc l ps=some x->(r9 l x).length=ps.length/\∀ (nm:Nat->Nat) (off:Nat) (C:aa Value),jb w B ah nm off ps C->jb w B ah nm off (r9 l x) C
 |[],[],x,_,h=>⟨rfl,λnm off C D=>D⟩
 | [(b,t,g)],[(E,C)],x,I,h=>by
  unfold mc at h;cases hb:b==E with
  |false=>rw[hb]at h;cases h
  | true=>
   rw[hb]at h;have h:dec t g C=some x:=h;have hb:b=E:=by simpa using hb
   subst hb;have Q:full t<=g:=by simpa [oK]using I
   refine⟨rfl,λnm off us D=>?_⟩
   match us,D with
   |[u],⟨⟨_,J⟩,_⟩=>exact⟨⟨ZR t g x Q,J.qw (lu t g C x h)⟩,trivial⟩
 | (b,t,g) :: q :: r,(E,C) :: ps,x,I,h=>by
  unfold mc at h;cases hb:b==E with
  |false=>rw[hb]at h;cases h
  | true=>
   rw[hb,ak]at h;have hb:b=E:=by simpa using hb
   subst hb;have O:full t<=g/\oK (q :: r)=true:=by
    simp only[oK,List.all_cons,aK]at I ⊢;exact⟨cB I.1,I.2⟩
   split at h
   ·rename_i y ys J T;injection h with h;subst h;obtain⟨U,Y⟩:=Te (q :: r) ps ys O.2 T
    refine⟨by simp[r9,U],λnm off us D=>?_⟩
    match us,D with
    | u :: us,⟨⟨_,Z⟩,L⟩=>
     have hlen:C.length=(enc t g y).length:=(lu t g C y J).1;refine⟨⟨ZR t g y O.1,Z.qw (lu t g C y J)⟩,?_⟩;have uO:off+C.length=off+(enc t g y).length:=by rw[hlen]
     have L:jb w B ah nm (off+C.length) ps us:=L;rw[uO]at L;exact Y nm _ us L
   ·cases h
 |[],_::_,x,_,h=>by simp[mc]at h
 |[_],[],x,_,h=>by simp[mc]at h
 |[_],_::_::_,x,_,h=>by simp[mc]at h
 |_::_::_,[],x,_,h=>by simp[mc]at h
theorem ZS{l:aa (Bool×TC×Nat)}{res:fS}{x:jQ l}(I:oK l=true)(h:mY l res=some x){nm:Nat->Nat}{v:Value}(D:qj w B ah nm res v):qj w B ah nm (eI l x) v:=by
 cases res with
 | one p=>
  obtain⟨C,E⟩:=Te (w:=w) (B:=B) (ah:=ah) l [p] x I h;have D:jb w B ah nm 0 [p] [v]:=D;have:=E nm 0 [v] D;unfold eI
  match hm:r9 l x,C,this with
  |[q],_,this=>exact this
  |[],C,_=>cases C
  |_::_::_,C,_=>simp at C
 | ct ps=>
  simp only[mY]at h;cases hb:Nat.beq ps.length 1 with
  |true=>rw[hb]at h;cases h
  | false=>
   rw[hb,aq]at h;obtain⟨C,E⟩:=Te (w:=w) (B:=B) (ah:=ah) l ps x I h;obtain⟨J,e,D⟩:=D;have:=E nm 0 _ D;unfold eI
   match hm:r9 l x,C,this with
   |[q],C,this=>simp only[ij]at C;rw[<-C]at hb;cases hb
   |[],_,this=>exact⟨J,e,this⟩
   |_::_::_,_,this=>exact⟨J,e,this⟩
theorem ZT:∀ (l:aa (Bool×TC)) (x:ng l),(gu l x).length=l.length
 |[],x=>rfl
 |(b,t)::l,x=>by simp[gu,ZT l]
theorem ZU:∀ (l:aa (Bool×TC)) (x:ng l) (j:Nat) (p:Pt),(gu l x)[j]?=some p->∀ y∈p.2,y.aA=true
 |[],x,j,p,C,_,_=>by simp[gu]at C
 | (b,t) :: l,x,0,p,C,y,D=>by
  simp[gu]at C;subst C;obtain⟨i,hi⟩:=List.mem_iff_getElem?.1 D;exact jr t 0 x.1 (by omega) i y hi
 |(b,t)::l,x,j+1,p,C,y,D=>ZU l x.2 j p (by simpa [gu]using C) y D
theorem Gc{f:Nat}{fn:Func}{code:Code}{sC:aa Pt}{ro:aa (Bool×TC×Nat)}{y:jQ ro}(hf:P.funcs[f]?=some fn)(hb:fn.body=some code)(hN:fn.ntmps=N)(O:sC.length<=N)(iz:oK ro=true)
  (fo:fm P Φ) (vA:oH P N Λ (occs code)) (alm:∀(j:Nat) p,sC[j]?=some p->∀y∈p.2,y.aA=true) (I:rm P N Φ Λ code fn.results sC (mY ro)=some y) (nm:Nat->Nat) (w:World) (bM:Array Value) (Q:tA w sC bM) (J:Hd w (λ_=>none)):
  Calls P f bM w λe w'=>∃v aD,e = .returned v/\Below w.heap.size w w'/\(∀b k,aD b=some k->w.heap.size<=b/\b<w'.heap.size/\k≠[])/\qj w' w.heap.size aD nm (eI ro y) v:=by
 have O:bM.size<=N:=by rw[Q.1];exact O
 refine calls_of_wp hf hb ?_;unfold rm at I;have hR:R (.of w J) N (ZP sC) { tmps:=bM++Array.replicate (fn.ntmps-bM.size) undef,defers:=[] } w:=by
  refine⟨λ_=>none,λ_=>.ax 0 0,.of (Below.refl w.heap.size w) (dV _),(λb k D=>by cases D),(λn y I=>by cases I),λj=>?_,by simp[hN];omega,rfl,(λr l h=>by cases h),(λ_ _=>rfl)⟩
  show RA w w.heap.size _ _ (match sC[j]? with|some p=>Tc p|none=>.undef) _;cases T:sC[j]? with
  |none=>trivial
  | some p=>
   obtain⟨u,U,nN⟩:=Q.2 j p T;have hj:j<bM.size:=(fl.1 U).1;have e:(bM++Array.replicate (fn.ntmps-bM.size) undef).getD j undef=u:=by rw[gE,Array.getElem?_append_left hj,U];rfl
   rw[e];exact nN.ra (alm j p T)
 refine wp_mono (CW (w0:=.of w J) fo code _ _ I vA _ w hR) λe L w' C=>?_
 obtain⟨dG,D,ah,ρ,E⟩:=C;have Y:Ff P dG fn.results (mY ro)=some y->L.defers=[]/\∃ v,(results fn L.tmps).run P w' = .ok v w'/\∃ Z aD,Ending.returned v=Ending.returned Z/\Below w.heap.size w w'/\(∀ b k,aD b=some k->w.heap.size<=b/\b<w'.heap.size/\k≠[])/\qj w' w.heap.size aD nm (eI ro y) Z:=by
  intro Tf;obtain⟨res,lG,dB⟩:=aix (w0:=.of w J) (N:=N) (fn:=fn) Tf;obtain⟨v,aD,h1,h2,h3⟩:=dB ah ρ L w' E nm;exact⟨E.defers,v,h1,v,aD,rfl,⟨E.below.os,E.below.tape,E.below.output,E.below.size,λk D=>E.below.block k D rfl⟩,λb k hb=>⟨(h2 b k hb).1.resolve_right (λh=>h rfl),(h2 b k hb).2⟩,ZS iz lG h3⟩
 split at D
 next C=>have C:=rj C;subst C;exact Y D
 next C=>have C:=rj C;subst C;exact Y D
 ·cases D
theorem aln{f:Nat}{fn:Func}{code:Code}{ai:aa (Bool×TC)}{ro:aa (Bool×TC×Nat)}{F:ng ai->aj (jQ ro)}(C:P.funcs[f]?=some fn)(hb:fn.body=some code)(L:fn.ntmps=N)(O:(fn.name == "runtime.NumGoroutine")=false)(Q:Nat.ble ai.length N=true)(T:oK ro=true)
  (U:fm P Φ) (Y:oH P N Λ (occs code)) (Z:∀x,rm P N Φ Λ code fn.results (gu ai x) (mY ro)=F x):enters P f/\iJ P f (aR ai ro F):=by
 refine⟨⟨fn,C,O,by rw[hb];rfl⟩,λX args k r h=>?_⟩
 simp only[aR]at h;split at h
 ·rename_i x D;split at h
  ·rename_i y E
   refine⟨_,h,λX' k'=>by simp only[aR,D,E],λnm w bM I hQ=>?_⟩
   obtain⟨k1,k2⟩:=Gb ai args x D
   refine Gc C hb L (by rw[ZT];exact cB Q) T U Y (ZU ai x) ((Z x).trans E) nm w bM ⟨I.1.trans k1.symm,λj p hp=>?_⟩ hQ
   obtain⟨q,hq,J,qh⟩:=k2 j p hp;obtain⟨u,hu,nN⟩:=I.2 j q hq;refine⟨u,hu,?_⟩;obtain⟨b,ys⟩:=p;obtain⟨b',xs⟩:=q;simp only at J;subst J;exact nN.qw qh
  ·cases h
 ·cases h
theorem alo{f:Nat}{fn:Func}{code:Code}{t:TC}{g:Nat}{F:aa (T t)->aj (aa (T t))}(I:P.funcs[f]?=some fn)(hb:fn.body=some code)(J:fn.ntmps=N)(At:(fn.name == "runtime.NumGoroutine")=false)(Tg:Nat.ble 1 N=true)(L:oK [(false,.sl t,g)]=true)
  (O:fm P Φ) (Q:oH P N Λ (occs code)) (hF:∀x:aa (T t),rm P N Φ Λ code fn.results [(false,[.sl t 0 false x])] (mY [(false,.sl t,g)])=F x)
  (h0:rm P N Φ Λ code fn.results [(false,[.nil])] (mY [(false,.sl t,g)])=some ([]:aa (T t))) (h1:rm P N Φ Λ code fn.results [(false,[.sl t 0 true []])] (mY [(false,.sl t,g)])=some ([]:aa (T t))):
  enters P f/\iJ P f (aR [(false,.sl t)] [(false,.sl t,g)] λx=>bif iR x.1 then some ([]:aa (T t))else F x.1):=by
 refine⟨⟨fn,I,At,by rw[hb];rfl⟩,λX args k r h=>?_⟩
 simp only[aR]at h;split at h
 ·rename_i x E;split at h
  ·rename_i y D
   refine⟨_,h,λX' k'=>by simp only[aR,E,D],λnm w bM kO U=>?_⟩
   obtain⟨k1,k2⟩:=Gb _ args x E;obtain⟨l,_⟩:=x;have Th:tA w [(false,[.sl t 0 false l])] bM:=⟨kO.1.trans k1.symm,λj p C=>by
    obtain⟨q,hq,tq,qh⟩:=k2 j p C;obtain⟨u,hu,nN⟩:=kO.2 j q hq;refine⟨u,hu,?_⟩;obtain⟨b,ys⟩:=p;obtain⟨b',xs⟩:=q;simp only at tq;subst tq;exact nN.qw qh⟩
   have Y:1<=N:=cB Tg;have Z:∀ (v:V),v.aA=true->∀ (j:Nat) p,([(false,[v])]:aa Pt)[j]?=some p->∀ y∈p.2,y.aA=true:=by
    intro v hv j p C y D;rcases j with _|j
    ·injection C with C;subst C;rw[kY.1 D];exact hv
    ·cases C
   obtain⟨u,hu,C⟩:=Th.2 0 _ rfl;obtain⟨us,e,_,hv⟩:=C.pv;have e:us = #[u]:=e;subst e;obtain⟨v,g1,hr⟩:=hv 0 _ rfl;have g1:u=v:=by simpa using g1
   subst g1;have one:∀ v:V,RV w w.heap.size (λ_=>none) [] v u->tA w [(false,[v])] bM:=λv hr=>⟨Th.1,λj p C=>by
    rcases j with _|j
    ·injection C with C;subst C;exact⟨u,hu,.v _ _ ⟨#[u],rfl,rfl,λi x E=>by
      rcases i with _|i
      ·injection E with E;subst E;exact⟨u,rfl,hr⟩
      ·cases E⟩⟩
    ·cases C⟩
   cases l with
   |cons a l=>exact Gc (sC:=[(false,[.sl t 0 false (a::l)])]) I hb J Y L O Q (Z _ rfl) ((hF _).trans D) nm w bM Th U
   | nil=>
    have D:some ([]:aa (T t))=some y:=D;injection D with D;subst D;cases hr with
    |cG=>exact Gc (sC:=[(false,[.nil])]) I hb J Y L O Q (Z _ rfl) h0 nm w bM (one _ (.nil _)) U
    |cL _ _ _ A c ho=>exact Gc (sC:=[(false,[.sl t 0 true []])]) I hb J Y L O Q (Z _ rfl) h1 nm w bM (one _ (.cV _ _ _ _ _ ho)) U
    |aA _ _ _ qn l b off cap us ho hl Ke hB mP hc mS=>exact Gc (sC:=[(false,[.sl t 0 true []])]) I hb J Y L O Q (Z _ rfl) h1 nm w bM (one _ (.cV _ _ _ _ _ ho)) U
  ·cases h
 ·cases h
end
def Gd(N:Nat)(σ:S)(t:Nat):S:=match σ.t t with
 | .view [q] s 0 j=>bif Nat.blt t N then (match σ.m q with
  |some (.sl (.sl C (o+2) D l))=>bif Nat.beq (full C) 0 then (((σ.drop q).drop t).root t (.sl (.sl C 2 false (l.take j)))).set t (.lf (.own [t]))else σ
  |_=>σ)else σ
 |_=>σ
def tS(N:Nat)(σ:S):aa ResultVar->S
 |[]=>σ
 |.tmp t::r=>tS N (Gd N σ t) r
 |_::r=>tS N σ r
def Ge{X:Type}(P:Program)(N:Nat)(Φ:dJ)(Λ:mq)(code:Code)(C:Array ResultVar)(D:aa In)(args:aa Ar)(k:aa In->fS->aj X):aj X:=
 fX P N Φ Λ code (tC D args) λe σ=>match yb e with
  |some 0=>Fo P (tS N σ C.toList) C D k
  |some 1=>Fo P (tS N σ C.toList) C D k
  |_=>none
section
variable {P:Program} {w w':World} {w0:Wd} {B N:Nat} {ah aD:bA} {ρ ρ':Nat->Loc} {σ:S} {a:Act} {X:Type} {d:Nat} {r:X} {o:Oper} {Φ:dJ} {Λ:mq}
theorem Rl.Gd{t:Nat}(h:Rl w0 N ah ρ σ a w):∃ aD ρ',Rl w0 N aD ρ' (Proofs.YtglnbhiaknohlaaGreat.Gd N σ t) a w:=by
 unfold Proofs.YtglnbhiaknohlaaGreat.Gd;split
 ·rename_i q s j ht;cases Y:Nat.blt t N with
  |false=>exact⟨ah,ρ,h⟩
  | true=>
   have Y:t<N:=by have:=cB Y;omega
   rw[ak];split
   ·rename_i E g qn l hm;cases Q:Nat.beq (full E) 0 with
    |false=>exact⟨ah,ρ,h⟩
    | true=>
     have Q:=bQ Q;rw[ak];have hv:=h.tmp t;rw[ht]at hv;obtain⟨A,n,c,T,_,hj,hu⟩:=hv;have fA:sliced A 0 j c s = .slice A j c:=by cases A<;>simp[sliced,Addr.add]
     rw[fA]at hu;let D:bA:=λb=>match ah b with
      |some k=>bif aY q k then (bif Nat.beq k.length 1 then some [t]else none)else some k
      |none=>none
     have hrel:Rel q ah D:=⟨h.td,λb hb=>by simp[D,hb],λb k hb C=>by simp[D,hb,C]⟩
     have Z:=h.rel hrel (λb k C=>by
      simp only[D]at C;cases hl:ah b with
      |none=>rw[hl]at C;cases C
      | some k'=>
       rw[hl]at C;simp only at C;refine⟨⟨_,rfl⟩,?_⟩;cases hq:aY q k' with
       | true=>
        rw[hq,ak]at C;cases hlen:Nat.beq k'.length 1 with
        |true=>rw[hlen,ak]at C;injection C with C;rw[<-C];simp
        |false=>rw[hlen,aq]at C;cases C
       | false=>
        rw[hq,aq]at C;injection C with C;subst C;exact(h.cH b k' hl).2.2)
     have iz:=h.root q _ hm;generalize J:aP.sl (.sl E (g+2) qn l)=z at iz;cases iz with
     |ax=>cases J
     |mp=>cases J
     |gh=>cases J
     | sl v y di L=>
      injection J with J;subst J;simp only[cm,di]at T;injection T with T;subst T;have hn:n=l.length:=by cases L<;>rfl
      have alp:RV w w0.heap.size D [t] (.sl E 2 false (l.take j)) (.slice A j c):=by
       cases L with
       | cG=>
        have:j=0:=by simpa using hj
        subst this;exact .cG _ _ _
       |cL _ _ _ _ _ ho=>omega
       |cV _ _ _ _ _ ho=>omega
       |aA _ _ _ _ _ _ _ _ _ ho=>omega
       | own _ _ _ _ _ b cap cs us o9 hh hs w7 qQ hc L=>
        have hl:(l.take j).length=j:=by rw[fR];omega
        have hle:∀i (hi:i<(l.take j).length),∃U:i<l.length,(l.take j)[i]=l[i]:=λi hi=>⟨by omega,List.getElem_take⟩
        have:=RV.own (w:=w) (B:=w0.heap.size) (ah:=D) [t] E 0 false (l.take j) b c cs us (by simp[D,o9,aY]) hh hs (by omega) ⟨qQ.1,λh=>by cases h⟩ (λi hi k x O=>by
         obtain⟨U,e⟩:=hle i hi;rw[e,Cl E Q 0 g]at O;exact hc i U k x O) (λi hi k x O=>by
         obtain⟨U,e⟩:=hle i hi;rw[e,Cl E Q 0 g]at O;exact(L i U k x O).rX (wX E g _ Q x (fL O)))
        rw[hl]at this;exact this
      have hrm:s9 w w D D t:=⟨dV _,λ_ _ _=>rfl,λ_ _=>rfl,Z.td⟩
      have I:=Z.ta (d:=t) (ρ':=bL ρ t (.de (.slice A j c))) (x:=.sl (.sl E 2 false (l.take j))) (h.dm t (.inl Y)) ⟨rfl,rfl,rfl,dV _,λ_ _ _=>rfl⟩ hrm (λb k hb C=>by
       have:=(Z.cH b k C).2.1;omega) (λr L=>cu _ _ _ L) (.sl _ _ (bO _ _ _) alp)
      refine⟨_,_,I.below,I.cH,I.root,λk=>?_,I.size,I.defers,I.fix,I.dm⟩
      show RA w w0.heap.size D _ (bL _ t _ k) _;by_cases C:k=t
      ·subst C;rw[bO,hu];exact⟨rfl,by simp only[cm,bO]⟩
      ·rw[cu _ _ _ C];exact I.tmp k
   ·exact⟨ah,ρ,h⟩
 ·exact⟨ah,ρ,h⟩
theorem Rl.tS:∀ (l:aa ResultVar) (σ:S) (ah:bA) (ρ:Nat->Loc),Rl w0 N ah ρ σ a w->∃ aD ρ',Rl w0 N aD ρ' (Proofs.YtglnbhiaknohlaaGreat.tS N σ l) a w
 |[],_,ah,ρ,h=>⟨ah,ρ,h⟩
 | .tmp t :: r,_,_,_,h=>by
  obtain⟨C,D,E⟩:=h.Gd (t:=t);exact Rl.tS r _ C D E
 |.cell _ _::r,_,ah,ρ,h=>Rl.tS r _ ah ρ h
theorem fnM_core{f:Nat}{fn:Func}{code:Code}{C:aa In}{args:aa Ar}{k:aa In->fS->aj X}(hf:P.funcs[f]?=some fn)(hb:fn.body=some code)(hN:fn.ntmps=N)(C2:N<=20000)(hlen:args.length<=N)
  (fo:fm P Φ) (vA:oH P N Λ (occs code)) (h:Ge P N Φ Λ code fn.results C args k=some r) (nm:Nat->Nat) (w:World) (ah:bA) (ρ:Nat->Loc) (bM:Array Value)
  (Y:oB w w.heap.size ah ρ 0 C) (nL:∀b k,ah b=some k->b<w.heap.size/\k≠[]) (fE:bM.size=args.length) (hv:∀i,RA w w.heap.size ah ρ ((tC C args).t i) (bM.getD i undef)) (O:Hd w ah):
  Calls P f bM w λe w'=>∃v aD outs res,k outs res=some r/\e = .returned v/\iF ⟨w,ah,λ_=>none,O,λ_ _=>rfl⟩ w w'/\(∀b k,aD b=some k->(w.heap.size<=b\/ah b≠none)/\b<w'.heap.size/\k≠[])/\qj w' w.heap.size aD nm res v/\qq w w' aD ρ nm 0 res.len C outs:=by
 let W:Wd:=⟨w,ah,λr=>if 20000<=r/\r<60000 then some (ρ r)else none,O,λr E=>bB (by omega)⟩
 refine calls_of_wp hf hb ?_;unfold Ge at h;have hR:R W N (tC C args) { tmps:=bM++Array.replicate (fn.ntmps-bM.size) undef,defers:=[] } w:=by
  refine⟨ah,ρ,.of (Below.refl w.heap.size w) (dV _),λb k hb=>⟨.inr (by rw[show W.L b=ah b from rfl,hb];simp),nL b k hb⟩,oB.roots C 0 _ Y (λr x hx=>by cases hx),λj=>?_,by simp[hN];omega,rfl,λr l E=>?_,λr E=>?_⟩
  ·by_cases hj:j<bM.size
   ·have e:(bM++Array.replicate (fn.ntmps-bM.size) undef).getD j undef=bM.getD j undef:=by
     rw[gE,Array.getElem?_append_left hj,gE]
    show RA w w.heap.size ah ρ _ ((bM++Array.replicate (fn.ntmps-bM.size) undef).getD j undef);rw[e];exact hv j
   ·have e:(tC C args).t j = .undef:=by
     simp only[tC,List.getElem?_eq_none (by omega:args.length<=j)]
    rw[e];trivial
  ·have E:(if 20000<=r/\r<60000 then some (ρ r)else none)=some l:=E;split at E
   ·injection E
   ·cases E
  ·show (if 20000<=r/\r<60000 then some (ρ r)else none)=none;rw[bB (by omega)]
 refine wp_mono (CW (w0:=W) fo code _ _ h vA _ w hR) λe Q w' D=>?_
 obtain⟨Z,J,Cv,Ct,I⟩:=D;have fin:Fo P (Proofs.YtglnbhiaknohlaaGreat.tS N Z fn.results.toList) fn.results C k=some r->Q.defers=[]/\∃ v,(results fn Q.tmps).run P w' = .ok v w'/\∃ Gf aD outs res,k outs res=some r/\Ending.returned v=Ending.returned Gf/\iF ⟨w,ah,λ_=>none,O,λ_ _=>rfl⟩ w w'/\(∀ b k,aD b=some k->(w.heap.size<=b\/ah b≠none)/\b<w'.heap.size/\k≠[])/\qj w' w.heap.size aD nm res Gf/\qq w w' aD ρ nm 0 res.len C outs:=by
  intro Tf;obtain⟨outs,res,hko,dB⟩:=aiz (w0:=W) (N:=N) (fn:=fn) (w1:=w) (tE:=ρ) rfl (λr T U=>bk ⟨T,U⟩) (oB.Rh C 0 Y) Tf;obtain⟨cW,dZ,jP⟩:=Rl.tS fn.results.toList Z Cv Ct I;obtain⟨v,aD,T,U,h3,h4⟩:=dB cW dZ Q w' jP nm;exact⟨I.defers,v,T,v,aD,outs,res,hko,rfl,⟨I.below.os,I.below.tape,I.below.output,I.below.size,λk J=>I.below.block k J⟩,U,h3,h4⟩
 split at J
 next D=>have D:=rj D;subst D;exact fin J
 next D=>have D:=rj D;subst D;exact fin J
 ·cases J
end
def qG:(l:aa (Bool×TC×Nat))->aa In->aj (sg l)
 |[],[]=>some ()
 | (true,t,g) :: r,.ax cs :: is=>match dec t g cs,qG r is with
  |some x,some xs=>some (x,xs)
  |_,_=>none
 | (false,t,g) :: r,.sl y :: is=>match (bif Nat.ble 1000000 g then (bif y.jK then none else y.dw t (g+2))else bif y.jK then y.dw t (g+2)else none),qG r is with
  |some x,some xs=>some (x,xs)
  |_,_=>none
 |_,_=>none
def LX:aa In->aa In->aa In->Prop
 |[],[],[]=>True
 |.ax I::C,.ax cs::r,.ax eM::D=>(bS cs eM/\I.map (λv=>(v.plain,v.aA))=eM.map (λv=>(v.plain,v.aA))/\∀x∈eM,x.jK=true)/\LX C r D
 |.sl _::C,.sl y::r,.sl E::D=>(Wk y E/\(y = .nil->E = .nil))/\LX C r D
 |_,_,_=>False
theorem LY:∀ (ps:aa PK) (C:lF ps) (is:aa In) (x:sg (eE ps)),qG (eE ps) is=some x->LX (oC ps C) is (gX (eE ps) x)
 |[],_,[],x,_=>trivial
 |[],_,_::_,x,h=>by simp[qG,eE]at h
 |.v b t::ps,C,is,x,h=>LY ps C.2 is x h
 |.p t g off::ps,C,[],x,h=>by simp[qG,eE]at h
 |.s t g::ps,C,[],x,h=>by simp[qG,eE]at h
 |.p t g off::ps,C,.sl _::_,x,h=>by simp[qG,eE]at h
 |.s t g::ps,C,.ax _::_,x,h=>by simp[qG,eE]at h
 | .p t g off :: ps,C,.ax cs :: is,x,h=>by
  have h:qG ((true,t,g)::eE ps) (.ax cs::is)=some x:=h;unfold qG at h;split at h
  next y ys D I=>injection h with h;subst h;exact⟨⟨lu t g cs y D,ahG t g C.1 y,λz J=>Qd t g y z J⟩,LY ps C.2 is ys I⟩
  ·cases h
 | .s t g :: ps,C,.sl y :: is,x,h=>by
  have h:qG ((false,t,g)::eE ps) (.sl y::is)=some x:=h;unfold qG at h;split at h
  ·rename_i z L D I;injection h with h;subst h;refine⟨?_,LY ps C.2 is L I⟩;cases hb:Nat.ble 1000000 g with
   | true=>
    cases E:y.jK with
    |true=>rw[hb,E]at D;cases D
    | false=>
     have:y = .nil:=by cases y<;>first|rfl|cases E
     subst this;exact⟨.same _,λ_=>rfl⟩
   | false=>
    cases E:y.jK with
    |false=>rw[hb,E]at D;cases D
    | true=>
     rw[hb,E]at D;exact⟨V.dN D,λe=>by subst e;cases E⟩
  ·cases h
theorem qq.typed{w w':World}{aD:bA}{ρ:Nat->Loc}{nm:Nat->Nat}:∀ (I:aa In) (i Q:Nat) (outs L:aa In),qq w w' aD ρ nm i Q I outs->LX I outs L->Fm w w' aD ρ nm i Q I L
 |[],i,Q,[],[],h,C=>trivial
 | .ax ZV :: I,i,Q,.ax ZW :: outs,.ax cs2 :: L,h,C=>by
  obtain⟨⟨b,off,cells,uX,e,e',T,U,h3,h4,h5,h6,h7⟩,Z⟩:=h;obtain⟨⟨O,Ti,hnn⟩,nI⟩:=C
  refine⟨⟨b,off,cells,uX,e,e',T,U,h3,h4,by rw[<-O.1];exact h5,by rw[<-O.1];exact h6,λj x Y=>?_⟩,qq.typed I _ _ outs L Z nI⟩
  have hj:j<ZW.length:=by rw[O.1];exact(c7.1 Y).1
  obtain⟨u,hu,hc⟩:=h7 j _ (bK hj);have C:=O.2 j _ x (bK hj) Y;have Gg:∀ J,ZV[j]?=some J->J.plain=x.plain/\J.aA=x.aA:=by
   intro J h0;have e1:(ZV.map (λv=>(v.plain,v.aA)))[j]?=(cs2.map (λv=>(v.plain,v.aA)))[j]?:=by rw[Ti]
   rw[cO,cO,h0,Y]at e1
   simpa using e1
  have hxn:=hnn x (fL Y);generalize ZW[j]=y at hc C;refine⟨u,hu,?_⟩;rcases hc with ⟨D,E⟩|⟨D,E,J,c3,c4⟩|⟨D,E,c6,⟨J,c3,c4⟩,c5⟩|⟨D,E⟩
  ·cases C with
   |same=>exact .inl ⟨D,E⟩
   |nil t o=>cases D
   |q t o l=>cases D
   |gr=>cases D
  ·subst D E;have hf:x.aA=false:=by rw[<-(Gg J c3).2];exact c4
   cases C with
   |same=>cases hxn
   |nil t o=>exact .inr (.inr ⟨hf,.cG _ _ _⟩)
  ·cases C with
   |same=>exact .inr (.inl ⟨D,E,c5⟩)
   |nil t o=>cases c6
   |q t o l=>exact .inr (.inl ⟨rfl,E,c5⟩)
   |gr t o o' qn l T U=>simp[V.aA]at E;omega
  ·have hf:=C.Rp D;exact .inr (.inr ⟨hf,E.wk C⟩)
 | .sl y0 :: I,i,Q,.sl y1 :: outs,.sl y2 :: L,h,C=>by
  obtain⟨h,Z⟩:=h;obtain⟨⟨O,hn⟩,nI⟩:=C;exact⟨h.imp hn (λ⟨v,T,U⟩=>⟨v,T,U.wk O⟩),qq.typed I _ _ outs L Z nI⟩
 |[],_,_,_::_,_,h,_=>h.elim
 |[],_,_,[],_::_,_,h=>h.elim
 |.ax _::_,_,_,[],_,h,_=>h.elim
 |.sl _::_,_,_,[],_,h,_=>h.elim
 |.ax _::_,_,_,.sl _::_,_,h,_=>h.elim
 |.sl _::_,_,_,.ax _::_,_,h,_=>h.elim
 |.ax _::_,_,_,.ax _::_,[],_,h=>h.elim
 |.ax _::_,_,_,.ax _::_,.sl _::_,_,h=>h.elim
 |.sl _::_,_,_,.sl _::_,[],_,h=>h.elim
 |.sl _::_,_,_,.sl _::_,.ax _::_,_,h=>h.elim
theorem ZX:∀ (l:aa (Bool×TC×Nat)) (ps:aa Pt) (x:jQ l),mc l ps=some x->(ps.map λp=>p.2.length)=((r9 l x).map λp=>p.2.length)
 |[],[],x,h=>rfl
 | [(b,t,g)],[(D,C)],x,h=>by
  unfold mc at h;cases hb:b==D with
  |false=>rw[hb]at h;cases h
  | true=>
   rw[hb]at h;have h:dec t g C=some x:=h;simp[r9,(lu t g C x h).1]
 | (b,t,g) :: q :: r,(D,C) :: ps,x,h=>by
  unfold mc at h;cases hb:b==D with
  |false=>rw[hb]at h;cases h
  | true=>
   rw[hb,ak]at h;split at h
   next y ys E I=>injection h with h;subst h;simp only[r9,ig];rw[ZX (q::r) ps ys I,(lu t g C y E).1]
   ·cases h
 |[],_::_,x,h=>by simp[mc]at h
 |[_],[],x,h=>by simp[mc]at h
 |[_],_::_::_,x,h=>by simp[mc]at h
 |_::_::_,[],x,h=>by simp[mc]at h
theorem alq{l:aa (Bool×TC×Nat)}{res:fS}{x:jQ l}(h:mY l res=some x):res.len=(eI l x).len:=by
 have key:∀ ps,mc l ps=some x->(ps.map λp=>p.2.length).sum=(eI l x).len:=by
  intro ps h;rw[ZX l ps x h];unfold eI
  match hm:r9 l x with
  |[q]=>simp[fS.len]
  |[]=>rfl
  |_::_::_=>rfl
 cases res with
 |one p=>have:=key [p] h;simpa [fS.len]using this
 | ct ps=>
  simp only[mY]at h;cases hb:Nat.beq ps.length 1 with
  |true=>rw[hb]at h;cases h
  |false=>rw[hb,aq]at h;exact key ps h
section
variable {P:Program} {w w':World} {w0:Wd} {B N:Nat} {ah aD:bA} {ρ ρ':Nat->Loc} {σ:S} {a:Act} {X:Type} {d:Nat} {r:X} {o:Oper} {Φ:dJ} {Λ:mq}
def LZ(l ro:aa (Bool×TC×Nat))(outs:aa In)(res:fS):aj (jQ ro×sg l):=
 match mY ro res,qG l outs with
 |some x,some y=>some (x,y)
 |_,_=>none
theorem ZY{f:Nat}{fn:Func}{code:Code}{ps:aa PK}{ro:aa (Bool×TC×Nat)}{F:lF ps->aj (jQ ro×sg (eE ps))}(I:P.funcs[f]?=some fn)(hb:fn.body=some code)(L:fn.ntmps=N)(O:(fn.name == "runtime.NumGoroutine")=false)(Q:Nat.ble ps.length N=true)(T:Nat.ble N 20000=true)(U:oK ro=true)
  (Y:fm P Φ) (Z:oH P N Λ (occs code)) (hF:∀x,Ge P N Φ Λ code fn.results (oC ps x) (kP ps 0 x) (LZ (eE ps) ro)=F x):enters P f/\tD P f ⟨ps,ro,F⟩:=by
 refine⟨⟨fn,I,O,by rw[hb];rfl⟩,λx y h nm w ah ρ bM hE nL D hv hQ=>?_⟩
 have h:F x=some y:=h;rw[<-hF x]at h;have hlen:∀ (ps:aa PK) (i:Nat) (x:lF ps),(kP ps i x).length=ps.length:=by
  intro ps
  induction ps with
  |nil=>intro i x;rfl
  | cons p ps E=>
   intro i x;cases p with
   |v=>exact bD (· + 1) (E _ _)
   |p=>exact bD (· + 1) (E _ _)
   |s=>exact bD (· + 1) (E _ _)
 have D:bM.size=(kP ps 0 x).length:=by rw[hlen];exact D
 refine(fnM_core I hb L (cB T) (by rw[hlen];exact cB Q) Y Z h nm w ah ρ bM hE nL D hv hQ).mono λe w' qm=>?_
 obtain⟨v,aD,outs,res,C,he,ox,hl,lG,RB⟩:=qm;unfold LZ at C;split at C
 next y1 y2 J h2=>injection C with C;subst C;refine⟨v,aD,he,ox,hl,ZS U J lG,?_⟩;rw[<-alq J];exact qq.typed _ _ _ _ _ RB (LY ps x outs y2 h2)
 ·cases C
end
set_option maxRecDepth 100000
def L0(σ:S)(C:Array ResultVar):aj Int:=
 match C.toList with
 | [.tmp t]=>(match σ.t t with
  | .aH r 0=>(match σ.m r with
   |some (.ax [.own [n],.v (.int .i64 z),.v (.int .i64 h)])=>bif Nat.beq n 20000&&z==0 then some h else none
   |_=>none)
  |_=>none)
 |_=>none
def ZZ(P:Program)(N:Nat)(Φ:dJ)(Λ:mq)(code:Code)(C:Array ResultVar)(l:aa (T .u8)):aj Int:=
 fX P N Φ Λ code (tC [.sl (.sl .u8 0 false l)] [.mut 0 0]) λe σ=>match yb e with
  |some 0=>L0 σ C
  |some 1=>L0 σ C
  |_=>none
section
variable {P:Program} {w w':World} {w0:Wd} {B N:Nat} {ah aD:bA} {ρ ρ':Nat->Loc} {σ:S} {a:Act} {X:Type} {d:Nat} {r:X} {o:Oper} {Φ:dJ} {Λ:mq}
theorem alr{f:Nat}{fn:Func}{code:Code}{F:aa Int->aj Int}(hf:P.funcs[f]?=some fn)(hb:fn.body=some code)(hN:fn.ntmps=N)(At:(fn.name == "runtime.NumGoroutine")=false)(Z0:Nat.ble 1 N=true)(C2:Nat.ble N 20000=true)
  (fo:fm P Φ) (vA:oH P N Λ (occs code)) (hF:∀l,ZZ P N Φ Λ code fn.results l=F l):enters P f/\K2 P f F:=by
 refine⟨⟨fn,hf,At,by rw[hb];rfl⟩,λw l h v Y hv hQ=>?_⟩
 rw[<-hF l]at Y;unfold ZZ at Y;have Z0:=cB Z0;have C2:=cB C2;let W:Wd:=⟨w,λ_=>none,λr=>if 20000<=r/\r<60000 then some (.de v)else none,hQ,λr E=>bB (by omega)⟩
 refine calls_of_wp hf hb ?_;have hR:R W N (tC [.sl (.sl .u8 0 false l)] [.mut 0 0]) { tmps:=#[v]++Array.replicate (fn.ntmps-(#[v]:Array Value).size) undef,defers:=[] } w:=by
  refine⟨λ_=>none,λ_=>.de v,.of (Below.refl w.heap.size w) (dV _),(λb k hb=>by cases hb),λn y J=>?_,λj=>?_,by simp[hN];omega,rfl,λr l E=>?_,λr E=>?_⟩
  ·have J:bL (λ_=>none) (nF 0) (some (.sl (.sl .u8 0 false l))) n=some y:=J;by_cases T:n=nF 0
   ·subst T;rw[bO]at J;injection J with J;subst J;exact .sl v _ rfl (hv.key rfl)
   ·rw[cu _ _ _ T]at J;cases J
  ·cases j with
   | zero=>
    have e:(#[v]++Array.replicate (fn.ntmps-(#[v]:Array Value).size) undef).getD 0 undef=v:=by
     rw[gE,Array.getElem?_append_left (by simp)];rfl
    show RA w w.heap.size _ _ (.lf (.own [nF 0])) ((#[v]++Array.replicate (fn.ntmps-(#[v]:Array Value).size) undef).getD 0 undef);rw[e];exact⟨hv.kG rfl rfl,rfl⟩
   |succ j=>exact trivial
  ·have E:(if 20000<=r/\r<60000 then some (Loc.de v)else none)=some l:=E;split at E
   ·injection E
   ·cases E
  ·show (if 20000<=r/\r<60000 then some (Loc.de v)else none)=none;rw[bB (by omega)]
 refine wp_mono (CW (w0:=W) fo code _ _ Y vA _ w hR) λe U w' I=>?_
 obtain⟨dG,L,Cv,Ct,D⟩:=I;have fin:L0 dG fn.results=some h->U.defers=[]/\∃ u,(results fn U.tmps).run P w' = .ok u w'/\∃ b off cells t,Ending.returned u = .returned (.pointer (some ⟨b,off,none⟩))/\Below w.heap.size w w'/\w.heap.size<=b/\w'.heap[b]?=some (.cells cells t (0,0))/\cells[off]?=some v/\cells[off+1]?=some (.int .i64 0)/\cells[off+2]?=some (.int .i64 h):=by
  intro C;unfold L0 at C;split at C
  ·rename_i t ht;split at C
   ·rename_i r E;split at C
    ·rename_i n z h' hm;cases hb:(Nat.beq n 20000&&z==0)with
     |false=>rw[hb]at C;cases C
     | true=>
      rw[hb,ak]at C;injection C with C;subst C;rw[aK]at hb;have T:=bQ hb.1;have hz:z=0:=by simpa using hb.2
      subst T hz;have h1:=D.tmp t;rw[E]at h1;obtain⟨b,off,e1,e2⟩:=h1;have h2:=D.root r _ hm;generalize O:aP.ax _=x at h2;cases h2 with
      |sl=>cases O
      |mp=>cases O
      |gh=>cases O
      | ax b' zo cells e cs us di hl Cq hs Z=>
       injection O with O;subst O;rw[di]at e1;injection e1 with e3 e4;subst e3 e4;obtain⟨c0,Q⟩:=Z 0 _ rfl;obtain⟨c1,d1⟩:=Z 1 _ rfl;obtain⟨c2,d2⟩:=Z 2 _ rfl;have Q:=Q.2;have Tj:=D.fix 20000 (.de v) rfl;simp only[cm,Tj]at Q;injection Q with Q;rw[<-Q]at c0;rw[d1.2.gp]at c1;rw[d2.2.gp]at c2
       refine⟨D.defers,_,?_,b',zo,cells,e,rfl,⟨D.below.os,D.below.tape,D.below.output,D.below.size,λk L=>D.below.block k L rfl⟩,?_,Cq,c0,c1,c2⟩
       ·have lG:results fn U.tmps=(do let vs <-fn.results.mapM (qp U.tmps);pure (if h:vs.size=1 then vs[0]else .tuple vs)):=by
         unfold results;congr 1
        have m9:fn.results = #[.tmp t]:=by apply Array.ext';exact ht
        rw[lG,m9,Array.mapM_eq_mapM_toList];simp[qp,e2]
       ·have:=(D.cH b' _ hl).1;exact this.resolve_right (λh=>h rfl)
    ·cases C
   ·cases C
  ·cases C
 split at L
 next I=>have I:=rj I;subst I;exact fin L
 next I=>have I:=rj I;subst I;exact fin L
 ·cases L
end
def nV(i j:Nat):Nat:=20001+1000*i+j
def C3(i j:Nat)(x:V):Lf:=match x with
 |.sl ..=>.own [nV i j]
 |x=>.v x
def vB(i:Nat):Nat->aa V->aa Lf
 |_,[]=>[]
 |j,x::xs=>C3 i j x::vB i (j+1) xs
def Tl(args:aa Pt)(n:Nat):aj aP:=bif Nat.ble 20001 n&&Nat.blt n 60000 then (match args[(n-20001) / 1000]? with
 | some (_,xs)=>(match xs[(n-20001) % 1000]? with
  |some (.sl t g q l)=>some (.sl (.sl t g q l))
  |_=>none)
 |none=>none)else none
def Z1(args:aa Pt):S:=⟨λi=>match args[i]? with
 |some (false,[x])=>.lf (C3 i 0 x)
 |some (true,xs)=>.agg (vB i 0 xs)
 |_=>.undef,Tl args⟩
def L1(σ:S)(C:Array ResultVar)(a j:Nat)(t:TC):aj (Nat×Nat):=match C.toList with
 | [.tmp s]=>(match σ.t s with
  |.view [n] D i k=>bif Nat.beq n (nV a j)&&Nat.beq D (aC t)then some (i,k)else none
  |_=>none)
 |_=>none
def Z2(P:Program)(N:Nat)(Φ:dJ)(Λ:mq)(code:Code)(C:Array ResultVar)(a j:Nat)(t:TC)(args:aa Pt):aj (Nat×Nat):=
 fX P N Φ Λ code (Z1 args) λe σ=>match yb e with
  |some 0=>L1 σ C a j t
  |some 1=>L1 σ C a j t
  |_=>none
def Tn(ai:aa (Bool×TC))(a j:Nat)(t:TC)(F:ng ai->aj (Nat×Nat)):zW:=⟨a,j,t,λargs=>match yc ai args with
 |some x=>F x
 |none=>none⟩
section
variable {P:Program} {w w':World} {w0:Wd} {B N:Nat} {ah aD:bA} {ρ ρ':Nat->Loc} {σ:S} {a:Act} {X:Type} {d:Nat} {r:X} {o:Oper} {Φ:dJ} {Λ:mq}
theorem Z3(i:Nat):∀ (xs:aa V) (C j:Nat),(vB i C xs)[j]?=(xs[j]?).map λx=>C3 i (C+j) x
 |[],C,j=>by simp[vB]
 |x::xs,C,0=>by simp[vB]
 | x :: xs,C,j+1=>by
  simp only[vB,List.getElem?_cons_succ,Z3 i xs (C+1) j];rw[show C+1+j=C+(j+1) by omega]
theorem Z4(i:Nat):∀ (xs:aa V) (C:Nat),(vB i C xs).length=xs.length
 |[],_=>rfl
 |x::xs,C=>by simp[vB,Z4 i xs (C+1)]
theorem Z5{i j:Nat}(h:j<1000):(nV i j-20001) / 1000=i/\(nV i j-20001) % 1000=j:=by
 unfold nV;omega
def yd(bM:Array Value)(n:Nat):Loc:=.de ((sq bM ((n-20001) / 1000) ((n-20001) % 1000)).getD undef)
theorem Z6{bM:Array Value}{i j:Nat}{x:V}{u:Value}(D:j<1000)(E:sq bM i j=some u)(I:x.aA=true)(C:RV w B (λ_=>none) [] x u):cQ w B (λ_=>none) (yd bM) (C3 i j x) u:=by
 unfold C3;split
 ·refine⟨C.kG rfl rfl,?_⟩;obtain⟨J,L⟩:=Z5 (i:=i) D;simp only[cm,yd,J,L,E];rfl
 ·exact⟨I,C⟩
theorem als{f:Nat}{fn:Func}{code:Code}{ai:aa (Bool×TC)}{J L:Nat}{t:TC}{F:ng ai->aj (Nat×Nat)}(hf:P.funcs[f]?=some fn)(hb:fn.body=some code)(hN:fn.ntmps=N)(At:(fn.name == "runtime.NumGoroutine")=false)(Tg:Nat.ble ai.length N=true)(C2:Nat.ble N 20000=true)(fE:(ai.all λp=>Nat.blt (aC p.2) 1000&&(p.1 || Nat.beq (aC p.2) 1))=true)(Z7:Nat.blt L 1000=true)(haa:Nat.blt J 30=true)
  (fo:fm P Φ) (vA:oH P N Λ (occs code)) (hF:∀x,Z2 P N Φ Λ code fn.results J L t (gu ai x)=F x):enters P f/\K3 P f (Tn ai J L t F):=by
 refine⟨⟨fn,hf,At,by rw[hb];rfl⟩,λargs p h w bM kO hQ=>?_⟩
 simp only[Tn]at h;split at h
 ·rename_i x hx;obtain⟨k1,k2⟩:=Gb ai args x hx;have hlen:∀ (l:aa (Bool×TC)) (x:ng l),(gu l x).length=l.length:=by
   intro l
   induction l with
   |nil=>intro x;rfl
   |cons p l ih=>obtain⟨b,t⟩:=p;intro x;simp[gu,ih]
  have jM:bM.size=ai.length:=by rw[kO.1,<-k1,hlen]
  have hle:bM.size<=N:=by rw[jM];exact cB Tg
  have C2:=cB C2;have m9:∀ (l:aa (Bool×TC)) (x:ng l),(l.all λp=>Nat.blt (aC p.2) 1000&&(p.1 || Nat.beq (aC p.2) 1))=true->∀ (j:Nat) p,(gu l x)[j]?=some p->(∀ y∈p.2,y.aA=true)/\p.2.length<1000/\(p.1=true\/p.2.length=1):=by
   intro l
   induction l with
   |nil=>intro x _ j p Q;simp[gu]at Q
   | cons c l ih=>
    obtain⟨b,t⟩:=c;intro x hs j p Q;rw[List.all_cons,aK]at hs;cases j with
    | zero=>
     simp[gu]at Q;subst Q
     refine⟨λy C=>?_,?_⟩
     ·obtain⟨i,hi⟩:=List.mem_iff_getElem?.1 C;exact jr t 0 x.1 (by omega) i y hi
     ·show (enc t 0 x.1).length<1000/\(b=true\/(enc t 0 x.1).length=1);rw[jn];have h8:=hs.1;rw[aK,dy]at h8;have h9:aC t<1000:=cB h8.1;exact⟨h9,h8.2.imp id bQ⟩
    |succ j=>exact ih x.2 hs.2 j p (by simpa [gu]using Q)
  have zF:∀ (i:Nat) (p:Pt),(gu ai x)[i]?=some p->∃ u:Value,bM[i]?=some u/\PV w w.heap.size (λ_=>none) (λ_=>[]) p u/\(∀ y∈p.2,y.aA=true)/\p.2.length<1000:=by
   intro i p Q;obtain⟨q,hq,tq,qh⟩:=k2 i p Q;obtain⟨u,O,nN⟩:=kO.2 i q hq;obtain⟨g1,g2,g3⟩:=m9 ai x fE i p Q;refine⟨u,O,?_,g1,g2⟩;obtain⟨b,ys⟩:=p;obtain⟨b',xs⟩:=q;simp only at tq;subst tq;have hw:=nN.qw qh;rcases g3 with g3|g3
   ·simp only at g3;subst g3;exact hw.XJ
   ·obtain⟨y,rfl⟩:=List.length_eq_one_iff.1 g3;cases b' with
    |true=>exact hw.XJ
    |false=>exact hw.pv
  have To:∀ (i:Nat) (p:Pt),(gu ai x)[i]?=some p->∀ (j:Nat) y,p.2[j]?=some y->∃ u,sq bM i j=some u/\RV w w.heap.size (λ_=>none) [] y u/\y.aA=true/\j<1000:=by
   intro i p Q j y C;obtain⟨u,O,⟨us,D,h2,h3⟩,h4,h5⟩:=zF i p Q;obtain⟨v,E,I⟩:=h3 j y C;refine⟨v,?_,I,h4 y (fL C),by have:=(c7.1 C).1;omega⟩;unfold sq;rw[O];obtain⟨b,ys⟩:=p;cases b with
   | true=>
    have D:u = .agg us:=D;subst D;exact E
   | false=>
    have D:us = #[u]:=D;subst D;have hj:j=0:=by
     have:=(fl.1 E).1
     simpa using this
    subst hj;have:u=v:=by simpa using E
    subst this;have Ah:∀ us,u ≠ .agg us:=by
     rintro us rfl;cases I
    cases u<;>first|exact absurd rfl (Ah _)|rfl
  let W:Wd:=⟨w,λ_=>none,λr=>if 20000<=r/\r<60000 then some (yd bM r)else none,hQ,λr I=>bB (by omega)⟩
  refine calls_of_wp hf hb ?_;rw[<-hF x]at h;unfold Z2 at h;have hR:R W N (Z1 (gu ai x)) { tmps:=bM++Array.replicate (fn.ntmps-bM.size) undef,defers:=[] } w:=by
   refine⟨λ_=>none,yd bM,.of (Below.refl w.heap.size w) (dV _),(λb k hk=>by cases hk),(λn y C=>?_),λi=>?_,by simp[hN];omega,rfl,λr l I=>?_,λr I=>?_⟩
   ·have C:Tl (gu ai x) n=some y:=C;unfold Tl at C;cases hb:(Nat.ble 20001 n&&Nat.blt n 60000)with
    |false=>rw[hb]at C;cases C
    | true=>
     rw[hb,ak]at C;split at C
     ·rename_i b xs Q;split at C
      next t' g q l hl=>injection C with C;subst C;obtain⟨u,O,I,o8,_⟩:=To _ _ Q _ _ hl;refine .sl u _ ?_ (I.key o8);unfold yd;rw[O];rfl
      ·cases C
     ·cases C
   ·show RA w w.heap.size _ _ (match (gu ai x)[i]? with | some (false,[x])=>A.lf (C3 i 0 x) | some (true,xs)=>.agg (vB i 0 xs) | _=>.undef) _;have Cc:∀ p:Pt,(gu ai x)[i]?=some p->∃ u:Value,bM[i]?=some u/\(bM++Array.replicate (fn.ntmps-bM.size) undef).getD i undef=u:=by
     intro p Q;obtain⟨u,O,_⟩:=zF i p Q;have hi:i<bM.size:=(fl.1 O).1;exact⟨u,O,by rw[gE,Array.getElem?_append_left hi,O];rfl⟩
    split
    ·rename_i x' og;obtain⟨u,O,e⟩:=Cc _ og;rw[e];obtain⟨v,E,I,o8,_⟩:=To i _ og 0 x' rfl;have Fk:u=v:=by
      unfold sq at E;rw[O]at E;obtain⟨u2,Y,⟨us,D,h2,h3⟩,_⟩:=zF i _ og;rw[O]at Y;injection Y with Y;subst Y;have D:us = #[u]:=D;subst D;obtain⟨v3,hv3,hr3⟩:=h3 0 x' rfl;have:u=v3:=by simpa using hv3
      subst this;have Ah:∀ us,u ≠ .agg us:=by
       rintro us rfl;cases hr3
      cases u<;>first|exact absurd rfl (Ah _)|(simp only[show Nat.beq 0 0=true from rfl,ak,fh]at E;exact E)
     subst Fk;exact Z6 (by omega) E o8 I
    ·rename_i xs og;obtain⟨u,O,e⟩:=Cc _ og;rw[e];obtain⟨u2,Y,⟨us,D,h2,h3⟩,_⟩:=zF i _ og;rw[O]at Y;injection Y with Y;subst Y;have D:u = .agg us:=D
     refine⟨us,D,by rw[Z4];exact h2,λj y C=>?_⟩
     rw[Z3]at C;cases hz:xs[j]? with
     |none=>rw[hz]at C;cases C
     | some z=>
      rw[hz]at C;injection C with C;subst C;obtain⟨v,E,I,o8,hj⟩:=To i _ og j z hz;have huj:us[j]?=some v:=by
       unfold sq at E;rw[O,D]at E;exact E
      refine⟨v,huj,?_⟩;rw[eN];exact Z6 hj E o8 I
    ·trivial
   ·have I:(if 20000<=r/\r<60000 then some (yd bM r)else none)=some l:=I;split at I
    ·injection I
    ·cases I
   ·show (if 20000<=r/\r<60000 then some (yd bM r)else none)=none;rw[bB (by omega)]
  refine wp_mono (CW (w0:=W) fo code _ _ h vA _ w hR) λe a' w' Z=>?_
  obtain⟨dG,hk,Cv,Ct,gf⟩:=Z;have fin:L1 dG fn.results J L t=some p->a'.defers=[]/\∃ u,(results fn a'.tmps).run P w' = .ok u w'/\∃ A n cap,sq bM J L=some (.slice A n cap)/\p.1<=p.2/\p.2<=n/\Ending.returned u = .returned (sliced A p.1 p.2 cap (aC t))/\Below w.heap.size w w':=by
   intro U;unfold L1 at U;split at U
   ·rename_i s hs;split at U
    ·rename_i n sz i k E;cases iw:(Nat.beq n (nV J L)&&Nat.beq sz (aC t))with
     |false=>rw[iw]at U;cases U
     | true=>
      rw[iw,ak]at U;injection U with U;subst U;rw[aK]at iw;have hn:=bQ iw.1;have alu:=bQ iw.2;subst hn alu;have D:=gf.tmp s;rw[E]at D;obtain⟨A,m,c,T,e2,e3,e4⟩:=D;have Z7:=cB Z7;have Ah:20000<=nV J L:=by unfold nV;omega
      by_cases dn:nV J L<60000
      ·have Tj:=gf.fix (nV J L) (yd bM (nV J L)) (bk ⟨Ah,dn⟩);have T:(match Ct (nV J L)with | .de v=>some v | _=>none)=some (Value.slice A m c):=T;rw[Tj]at T;obtain⟨d1,d2⟩:=Z5 (i:=J) (j:=L) (by omega);have T:some ((sq bM ((nV J L-20001) / 1000) ((nV J L-20001) % 1000)).getD undef)=some (Value.slice A m c):=T;rw[d1,d2]at T;injection T with T
       refine⟨gf.defers,_,?_,A,m,c,?_,e2,e3,bD Ending.returned e4,⟨gf.below.os,gf.below.tape,gf.below.output,gf.below.size,λk hk=>gf.below.block k hk rfl⟩⟩
       ·have lG:results fn a'.tmps=(do let vs <-fn.results.mapM (qp a'.tmps);pure (if h:vs.size=1 then vs[0]else .tuple vs)):=by
         unfold results;congr 1
        have m9:fn.results = #[.tmp s]:=by apply Array.ext';exact hs
        rw[lG,m9,Array.mapM_eq_mapM_toList];simp[qp]
       ·cases hl:sq bM J L with
        |none=>rw[hl]at T;cases T
        |some u=>rw[hl]at T;exact bD some T
      ·exfalso;have:=cB haa;unfold nV at dn;omega
    ·cases U
   ·cases U
  split at hk
  next Z=>have Z:=rj Z;subst Z;exact fin hk
  next Z=>have Z:=rj Z;subst Z;exact fin hk
  ·cases hk
 ·cases h
end
def Wd.pin(d:Wd)(g:Nat)(l:aj Loc)(D:20000<=g):Wd:=⟨d.w,d.L,λr=>if r=g then l else d.F r,d.held,λr C=>by
 show (if r=g then l else d.F r)=none;rw[bB (by omega)];exact d.low r C⟩
def ye(g:Nat):aa (Bool×aa Lf)->A
 |[(false,[x])]=>.lf (x.drop g)
 |[(true,cs)]=>.agg (cs.map (Lf.drop g))
 |[(false,_)]=>.undef
 |ps=>.ct (ps.map λp=>(p.1,p.2.map (Lf.drop g)))
def Au{X:Type}(P:Program)(g:Nat)(D:Array ResultVar)(C:S)(k:S->A->aj X):aj X:=
 oA P C D.toList λps=>match C.m g with
  |some (.gh ys)=>k ⟨λj=>((ys.map (A.drop g))[j]?).getD .undef,(C.drop g).m⟩ (ye g ps)
  |_=>none
def Z8(g N:Nat)(σ:S)(xs:aa A):S:=⟨λj=>((xs.map (A.drop g))[j]?).getD .undef,bL (σ.drop g).m g (some (.gh ((List.range N).map λj=>(σ.t j).drop g)))⟩
def Gh:mq:=λ_=>none
def Gi{X:Type}(P:Program)(M g:Nat)(Φ:dJ)(code:Code)(C:Array ResultVar)(N:Nat)(σ:S)(xs:aa A)(k:S->A->aj X):aj X:=
 bif Nat.ble xs.length M then fX P M Φ Gh code (Z8 g N σ xs) λe D=>match yb e with
  |some 0=>Au P g C D k
  |some 1=>Au P g C D k
  |_=>none
 else none
def Z9(P:Program)(M g:Nat)(Φ:dJ)(code:Code)(C:Array ResultVar):sr:=⟨λX N σ xs k=>Gi P M g Φ code C N σ xs k⟩
section
variable {P:Program} {w w':World} {w0:Wd} {B M N g:Nat} {ah aD:bA} {ρ ρ':Nat->Loc} {σ:S} {a:Act} {X:Type} {d:Nat} {r:X} {o:Oper} {Φ:dJ} {Λ:mq}
theorem Gj{D:aj Tmp}{C:Bool}{k:S->aj X}(h:nQ σ D C k=some r):∃ E,k E=some r/\cx (λX k=>nQ (X:=X) σ D C k) E:=by
 unfold nQ at h;cases C with
 |false=>exact⟨σ,h,λX k=>rfl⟩
 | true=>
  rw[ak]at h;split at h
  ·rename_i d;split at h
   ·rename_i b hb;cases b with
    |true=>exact⟨_,h,λX k=>by simp only[nQ,ak,hb]⟩
    |false=>exact⟨_,h,λX k=>by simp only[nQ,ak,hb,aq]⟩
   ·rename_i hb;exact⟨σ,h,λX k=>by
     show nQ σ (some d) true k=k σ;unfold nQ;simp only[ak]⟩
  ·exact⟨σ,h,λX k=>rfl⟩
theorem alv[Inhabited Wd]{ops:Array Oper}{L i:Nat}{k:S->aj X}(h:xR P N Φ ops L i σ o k=some r):∃ J,k J=some r/\cx (λX k=>xR (X:=X) P N Φ ops L i σ o k) J:=by
 unfold xR at h;split at h
 ·rename_i D;obtain⟨v,C,O,_⟩:=CK (w0:=default) (N:=N) h;cases E:v.jS (tO Φ ops i L (waits ops i ops.size 0 0) σ) (vh σ ops i L (waits ops i ops.size 0 0))with
  |false=>rw[E]at C;cases C
  | true=>
   rw[E,ak]at C;obtain⟨I,Q⟩:=jf C;exact⟨_,I,λX k=>by
    simp only[xR,D];refine(O.at_ _).trans ?_;rw[E,ak];exact(Q σ).at_ _⟩
 next D=>obtain⟨C,I⟩:=jf h;exact⟨_,C,λX k=>by simp only[xR,D];exact(I σ).at_ _⟩
 ·cases h
theorem L2[Inhabited Wd](J:fm P Φ){ops:Array Oper}{k:S->aj X}(h:cS P N Φ ops σ o k=some r):∃ C,k C=some r/\cx (λX k=>cS (X:=X) P N Φ ops σ o k) C:=by
 unfold cS at h;split at h
 next D=>obtain⟨C,E,I⟩:=Ll J h;exact⟨C,E,λX k=>by simp only[cS,D];exact I X k⟩
 next D=>obtain⟨E,I⟩:=jf h;exact⟨_,E,λX k=>by simp only[cS,D];exact(I σ).at_ _⟩
 ·cases h
theorem Av[Inhabited Wd](D:fm P Φ){ops:Array Oper}:∀ (f L:Nat) (σ:S) (k:S->aj X),je P N Φ ops f L σ k=some r->∃ Z,k Z=some r/\cx (λX k=>je (X:=X) P N Φ ops f L σ k) Z
 | 0,L,σ,k,h=>by
  unfold je at h;split at h
  next hr=>exact⟨σ,h,λX k=>by simp only[je,hr]⟩
  ·cases h
 | f+1,L,σ,k,h=>by
  unfold je at h;split at h
  next hr=>exact⟨σ,h,λX k=>by simp only[je,hr]⟩
  ·rename_i i hr;split at h
   ·rename_i o E;obtain⟨Z,I,J⟩:=L2 D h;obtain⟨O,Q,T⟩:=Gj I;obtain⟨C,U,Y⟩:=Av D f _ O k Q;exact⟨C,U,λX k=>by
     simp only[je,hr,E];exact(J.at_ _).trans ((T.at_ _).trans (Y.at_ _))⟩
   ·cases h
  ·rename_i rs hn hs;split at h
   ·rename_i i hf;split at h
    ·rename_i o E;obtain⟨Z,I,J⟩:=alv h;obtain⟨O,Q,T⟩:=Gj I;obtain⟨C,U,Y⟩:=Av D f _ O k Q
     refine⟨C,U,λX k=>?_⟩
     show je P N Φ ops (f+1) L σ k=k C;unfold je;split
     next e=>exact absurd e hn
     next i e=>exact absurd e (hs i)
     ·simp only[hf,E];exact(J.at_ _).trans ((T.at_ _).trans (Y.at_ _))
    ·cases h
   ·rename_i hf;split at h
    ·rename_i i Tp;split at h
     ·rename_i o E;obtain⟨Z,I,J⟩:=L2 D h;obtain⟨O,Q,T⟩:=Gj I;obtain⟨C,U,Y⟩:=Av D f _ O k Q
      refine⟨C,U,λX k=>?_⟩
      show je P N Φ ops (f+1) L σ k=k C;unfold je;split
      next e=>exact absurd e hn
      next i e=>exact absurd e (hs i)
      ·simp only[hf,Tp,E];exact(J.at_ _).trans ((T.at_ _).trans (Y.at_ _))
     ·cases h
    ·rename_i Tp;split at h
     ·rename_i i hf3;split at h
      ·rename_i o E;obtain⟨Z,I,J⟩:=L2 D h;obtain⟨O,Q,T⟩:=Gj I;obtain⟨C,U,Y⟩:=Av D f _ O k Q
       refine⟨C,U,λX k=>?_⟩
       show je P N Φ ops (f+1) L σ k=k C;unfold je;split
       next e=>exact absurd e hn
       next i e=>exact absurd e (hs i)
       ·simp only[hf,Tp,hf3,E];exact(J.at_ _).trans ((T.at_ _).trans (Y.at_ _))
      ·cases h
     ·cases h
theorem axj[Inhabited Wd](D:fm P Φ){ops:Array Oper}{k:S->aj X}(h:xS P N Φ ops σ k=some r):∃ C,k C=some r/\cx (λX k=>xS (X:=X) P N Φ ops σ k) C:=by
 unfold xS at h;split at h
 ·rename_i i hi;split at h
  ·rename_i o J;split at h
   ·rename_i e L;obtain⟨C,E,I⟩:=L2 D h;obtain⟨O,Q,T⟩:=Av D _ _ _ _ E;exact⟨O,Q,λX k=>by
     simp only[xS,hi,J,L];exact(I.at_ _).trans (T.at_ _)⟩
   ·cases h
  ·cases h
 next hi=>obtain⟨C,E,I⟩:=Av D _ _ _ _ h;exact⟨C,E,λX k=>by simp only[xS,hi];exact I.at_ _⟩
theorem alw{t:TypeId}{x lo hi I:A}{k:aj X}(h:xK P σ t x lo hi I k=some r):k=some r/\∀ (D:Type) (E:aj D),xK P σ t x lo hi I E=E:=by
 unfold xK at h;split at h
 ·split at h
  ·rename_i J;split at h
   ·rename_i L;obtain⟨y,C,_,O⟩:=qy _ _ h;split at C
    ·split at C
     ·rename_i hb
      refine⟨C,λD E=>?_⟩
      simp only[xK,J,L];refine(O D _).trans ?_;simp only;rw[bk hb]
     ·cases C
    ·cases C
   ·cases h
  ·cases h
 ·cases h
theorem alx[Inhabited Wd](U:fm P Φ){k:S->aj X}(h:m6 P N Φ σ o k=some r):∃ E,k E=some r/\∀ (D:Type) (C:S->aj D),m6 P N Φ σ o C=C E:=by
 have same:∀ σ2:S,(∀ (D:Type) (C:S->aj D),m6 P N Φ σ o C=cR P N Φ σ2 o C)->∃ E,k E=some r/\∀ (D:Type) (C:S->aj D),m6 P N Φ σ o C=C E:=by
  intro σ2 e;rw[e]at h;obtain⟨E,I,O⟩:=Ll U h;exact⟨E,I,λX k=>(e X k).trans (O X k)⟩
 cases J:o.op with
 | store t x y=>
  cases L:o.dst with
  |some d=>exact same σ λD C=>by simp only[m6,J,L]
  | none=>
   have e:∀ (D:Type) (C:S->aj D),m6 P N Φ σ o C=(match aE σ y with
    |.view [q] s i j=>xJ P σ q s i j t (aE σ x) C
    |_=>cR P N Φ σ o C):=λD C=>by simp only[m6,J,L];rfl
   rw[e]at h;split at h
   next q s i j Q=>obtain⟨E,I,O⟩:=ajL h;exact⟨E,I,λX k=>by rw[e];simp only[Q];exact O.at_ _⟩
   ·rename_i Y;obtain⟨E,I,O⟩:=Ll U h
    refine⟨E,I,λX k=>?_⟩
    rw[e];split
    next q s i j Q=>exact(Y _ _ _ _ Q).elim
    ·exact O X k
 | slice t x lo hi Z=>
  cases L:o.dst with
  |none=>exact same σ λD C=>by simp only[m6,J,L]
  | some d=>
   cases Z with
   | some m=>
    cases lo with
    |none=>exact same σ λD C=>by simp only[m6,J,L]
    | some l=>
     cases hi with
     |none=>exact same σ λD C=>by simp only[m6,J,L]
     | some u=>
      have e:∀(D:Type) (C:S->aj D),m6 P N Φ σ o C=xK P σ t (aE σ x) (aE σ l) (aE σ u) (aE σ m) (bif Nat.blt d N then C (σ.set d .undef)else none):=λD C=>by simp only[m6,J,L]
      rw[e]at h;obtain⟨I,O⟩:=alw h;cases T:Nat.blt d N with
      |false=>rw[T]at I;cases I
      | true=>
       rw[T,ak]at I;exact⟨_,I,λX k=>by rw[e,O,T,ak]⟩
   |none=>exact same σ λD C=>by simp only[m6,J,L]
 |_=>exact same σ λD C=>by simp only[m6,J]
theorem Tq[Inhabited Wd](C:fm P Φ){ops:Array Oper}:∀ (rest:aa Oper) (j:Nat) (σ:S) (k:S->aj X),tM P N Φ ops j rest σ k=some r->∃ D,k D=some r/\cx (λX k=>tM (X:=X) P N Φ ops j rest σ k) D
 |[],j,σ,k,h=>⟨σ,h,λX k=>rfl⟩
 | o :: rest,j,σ,k,h=>by
  unfold tM at h;split at h
  ·rename_i E;obtain⟨D,I,J⟩:=alx C h;obtain⟨T,U,Y⟩:=Gj I;obtain⟨L,O,Q⟩:=Tq C rest _ T k U;exact⟨L,O,λX k=>by
    simp only[tM,E];exact(J _ _).trans ((Y.at_ _).trans (Q.at_ _))⟩
  ·rename_i E;obtain⟨I,J⟩:=jf h;obtain⟨L,O,Q⟩:=Tq C rest _ _ k I;exact⟨L,O,λX k=>by
    simp only[tM,E];exact((J σ).at_ _).trans (Q.at_ _)⟩
  ·cases h
theorem aly[Inhabited Wd](Y:fm P Φ):∀ (c:Code) (σ:S) (k:Exit->S->aj X),fX P N Φ Gh c σ k=some r->∃ e C,k e C=some r/\∀ (J:Type) (I:Exit->S->aj J),fX P N Φ Gh c σ I=I e C:=by
 intro c
 induction c with
 |skip=>exact λσ k h=>⟨_,_,h,λ_ _=>rfl⟩
 |label l=>exact λσ k h=>⟨_,_,h,λ_ _=>rfl⟩
 |ret=>exact λσ k h=>⟨_,_,h,λ_ _=>rfl⟩
 |exit id=>exact λσ k h=>⟨_,_,h,λ_ _=>rfl⟩
 | region id ops draw=>
  intro σ k h;cases draw with
  | true=>
   simp only[fX]at h;cases hm:P.follows .mixedOrders with
   |false=>rw[hm]at h;cases h
   | true=>
    rw[hm,ak]at h;obtain⟨C,D,E⟩:=Av Y _ _ _ _ h;exact⟨_,C,D,λX k=>by simp only[fX,hm,ak];exact E.at_ _⟩
  | false=>
   simp only[fX]at h;obtain⟨C,D,E⟩:=Tq Y _ _ _ _ h;exact⟨_,C,D,λX k=>by simp only[fX];exact E.at_ _⟩
 | seq x y Q T=>
  intro σ k h;simp only[fX]at h;obtain⟨e,C,D,E⟩:=Q σ _ h;cases e with
  | normal=>
   obtain⟨Z,pG,h3,h4⟩:=T C k D;exact⟨Z,pG,h3,λX k=>by simp only[fX];rw[E];exact h4 X k⟩
  |_=>exact⟨_,C,D,λX k=>by simp only[fX];rw[E]⟩
 | cond c x y Q T=>
  intro σ k h;simp only[fX]at h;split at h
  ·rename_i b hb;cases b with
   | true=>
    obtain⟨e,C,D,E⟩:=Q σ k h;exact⟨e,C,D,λX k=>by simp only[fX,hb,ak];exact E X k⟩
   | false=>
    obtain⟨e,C,D,E⟩:=T σ k h;exact⟨e,C,D,λX k=>by simp only[fX,hb,aq];exact E X k⟩
  ·cases h
 | block id c ih=>
  intro σ k h;have L:∀ (J:Type) (I:Exit->S->aj J),fX P N Φ Gh (.block id c) σ I=fX P N Φ Gh c σ λe U=>match e with
   |.exit O=>if O=id then I .normal U else I (.exit O) U
   |e=>I e U:=λJ I=>rfl
  rw[L]at h;obtain⟨e,C,D,E⟩:=ih σ _ h;cases e with
  | exit O=>
   by_cases hi:O=id
   ·simp only[hi,if_true]at D;exact⟨_,C,D,λX k=>by rw[L,E];simp only[hi,if_true]⟩
   ·simp only[hi,if_false]at D;exact⟨_,C,D,λX k=>by rw[L,E];simp only[hi,if_false]⟩
  |_=>exact⟨_,C,D,λX k=>by rw[L,E]⟩
 |_=>intro σ k h;simp[fX]at h
theorem Tr:∀ (l:aa ResultVar) (k:aa (Bool×aa Lf)->aj X),oA P σ l k=some r->∃ ps,k ps=some r/\cx (λX k=>oA (X:=X) P σ l k) ps
 |[],k,h=>⟨[],h,λX k=>rfl⟩
 | .tmp t :: rest,k,h=>by
  simp only[oA]at h;split at h
  next p C=>obtain⟨ps,D,E⟩:=Tr rest _ h;exact⟨_,D,λX k=>by simp only[oA,C];exact E.at_ _⟩
  ·cases h
 | .cell c ty :: rest,k,h=>by
  simp only[oA]at h;obtain⟨y,I,J⟩:=FD h;split at I
  ·rename_i p C;obtain⟨ps,D,E⟩:=Tr rest _ I;exact⟨_,D,λX k=>by
    simp only[oA];refine(J.at_ _).trans ?_;simp only[C];exact E.at_ _⟩
  ·cases I
theorem alz{C:Array ResultVar}{k:S->A->aj X}(h:Au P g C σ k=some r):∃ ys ps,σ.m g=some (.gh ys)/\oA P σ C.toList some=some ps/\k ⟨λj=>((ys.map (A.drop g))[j]?).getD .undef,(σ.drop g).m⟩ (ye g ps)=some r/\
  ∀(I:Type) (D:S->A->aj I),Au P g C σ D=D ⟨λj=>((ys.map (A.drop g))[j]?).getD .undef,(σ.drop g).m⟩ (ye g ps):=by
 unfold Au at h;obtain⟨ps,E,J⟩:=Tr _ _ h;split at E
 ·rename_i ys L;exact⟨ys,ps,L,J.at_ _,E,λI D=>by
   unfold Au;refine(J.at_ _).trans ?_;simp only[L]⟩
 ·cases E
theorem List.aaa(xs:aa A)(g j:Nat):((xs.map (A.drop g))[j]?).getD .undef=A.drop g ((xs[j]?).getD .undef):=by
 rw[cO];cases xs[j]?<;>rfl
theorem RP.ye{ps:aa (Bool×aa Lf)}{C:aa Value}(I:∀ r,r≠g->ρ' r=ρ r)(hl:C.length=ps.length)(h:∀ (i:Nat) p v,ps[i]?=some p->C[i]?=some v->RP w B ah ρ p v):
  RA w B ah ρ' (ye g ps) (if h:C.toArray.size=1 then C.toArray[0]else .tuple C.toArray):=by
 have ct:ps.length≠1->RA w B ah ρ' (.ct (ps.map λp=>(p.1,p.2.map (Lf.drop g)))) (if h:C.toArray.size=1 then C.toArray[0]else .tuple C.toArray):=by
  intro L;rw[dif_neg (by simpa [hl]using L)]
  refine⟨C.toArray,rfl,by simpa using hl,λj p D=>?_⟩
  rw[cO]at D;cases E:ps[j]? with
  |none=>rw[E]at D;cases D
  | some q=>
   rw[E]at D;injection D with D;subst D;have J:j<C.length:=by rw[hl];exact(c7.1 E).1
   exact⟨C[j],by simp[J],(h j q C[j] E (bK J)).dQ I⟩
 unfold Proofs.YtglnbhiaknohlaaGreat.ye;split
 ·rename_i x
  match C,hl,h with
  | [v],_,h=>
   have:=h 0 _ v rfl rfl;obtain⟨u,O,Q⟩:=this.2 0 x rfl;have:v=u:=by simpa using O
   subst this;exact Q.dQ I
 ·rename_i cs
  match C,hl,h with
  |[v],_,h=>exact RP.dQ I (p:=(true,cs)) (h 0 _ v rfl rfl)
 ·trivial
 ·rename_i Y T U
  refine ct λe=>?_
  obtain⟨⟨b,cs⟩,rfl⟩:=List.length_eq_one_iff.1 e;cases b with
  |true=>exact T cs rfl
  |false=>exact U cs rfl
theorem alA{f:Nat}{fn:Func}{code:Code}(hf:P.funcs[f]?=some fn)(hb:fn.body=some code)(hN:fn.ntmps=M)(hM:M<=20000)(At:(fn.name == "runtime.NumGoroutine")=false)(hg:20000<=g/\g<60000)(fo:fm P Φ):
  enters P f/\su P f (Z9 P M g Φ code fn.results):=by
 refine⟨⟨fn,hf,At,by rw[hb];rfl⟩,λX N σ xs k r h=>?_⟩
 have h:Gi P M g Φ code fn.results N σ xs k=some r:=h;unfold Gi at h;cases hl:Nat.ble xs.length M with
 |false=>rw[hl]at h;cases h
 | true=>
  rw[hl,ak]at h;have zD:=cB hl;obtain⟨e,τ,U,h2⟩:=aly fo _ _ _ h;have h3:(e = .normal\/e = .ret)/\Au P g fn.results τ k=some r:=by
   split at U
   next O=>exact⟨.inl (rj O),U⟩
   next O=>exact⟨.inr (rj O),U⟩
   ·cases U
  obtain⟨hex,h3⟩:=h3;obtain⟨ys,ps,hy,pq,hk,hd⟩:=alz h3
  refine⟨_,_,hk,λX' k'=>?_,λw0 ah ρ a w bM hR fE hv=>?_⟩
  ·show Gi P M g Φ code fn.results N σ xs k'=_;unfold Gi;rw[hl,ak,h2];rcases hex with rfl | rfl
   ·exact hd X' k'
   ·exact hd X' k'
  ·let us:=a.tmps.toList
   let W:Wd:=w0.pin g (some (.bM us)) hg.1
   let Q:=bL ρ g (.bM us)
   have Y:∀r,r≠g->Q r=ρ r:=λr hr=>cu _ _ _ hr
   have kH:∀ j,us.getD j undef=a.tmps.getD j undef:=λj=>by
    show a.tmps.toList.getD j undef=_;rw[eX,kX,gE]
   have hle:bM.size<=M:=by rw[fE];exact zD
   have va:Rl W M ah Q (Z8 g N σ xs) { tmps:=bM++Array.replicate (fn.ntmps-bM.size) undef,defers:=[] } w:=by
    refine⟨⟨hR.below.os,hR.below.tape,hR.below.output,hR.below.size,hR.below.block⟩,hR.cH,λr x C=>?_,λj=>?_,by simp[hN];omega,rfl,λr l hr=>?_,λr hr=>?_⟩
    ·have C:bL (σ.drop g).m g (some (.gh ((List.range N).map λj=>(σ.t j).drop g))) r=some x:=C;by_cases D:r=g
     ·subst D;rw[bO]at C;injection C with C;subst C
      refine .gh us _ (bO _ _ _) λj x I=>?_
      rw[cO]at I;cases hr:(List.range N)[j]? with
      |none=>rw[hr]at I;cases I
      | some j'=>
       rw[hr]at I;injection I with I;obtain⟨dn,qP⟩:=c7.1 hr;rw[kZ]at qP;subst qP I;rw[kH];exact(hR.tmp j).dQ Y
     ·rw[cu _ _ _ D]at C;have C:(bif Nat.beq r g then none else (σ.m r).map (aP.drop g))=some x:=C;cases hb:Nat.beq r g with
      |true=>rw[hb]at C;cases C
      | false=>
       rw[hb,aq]at C;cases hm:σ.m r with
       |none=>rw[hm]at C;cases C
       | some y=>
        rw[hm]at C;injection C with C;subst C;exact(hR.root r y hm).dQ Y D
    ·show RA w w0.heap.size ah Q (((xs.map (A.drop g))[j]?).getD .undef) _;rw[List.aaa];by_cases I:j<bM.size
     ·have e1:(bM++Array.replicate (fn.ntmps-bM.size) undef).getD j undef=bM.getD j undef:=by
       rw[gE,Array.getElem?_append_left I,gE]
      show RA w w0.heap.size ah Q _ ((bM++Array.replicate (fn.ntmps-bM.size) undef).getD j undef);rw[e1];exact(hv j).dQ Y
     ·rw[List.getElem?_eq_none (by omega:xs.length<=j)];trivial
    ·have hr:(if r=g then some (Loc.bM us)else w0.F r)=some l:=hr;by_cases D:r=g
     ·rw[bk D]at hr;injection hr with hr;rw[D,<-hr];exact bO _ _ _
     ·rw[bB D]at hr;rw[Y r D];exact hR.fix r l hr
    ·show (if r=g then some (Loc.bM us)else w0.F r)=none;rw[bB (by omega)];rcases hr with hr | hr
     ·exact w0.low r (by omega)
     ·exact hR.dm r (.inr hr)
   refine calls_of_wp hf hb ?_
   refine wp_mono (CW (w0:=W) fo code _ (λe τ=>some (e,τ)) (h2 _ _) (λp hp b hb=>by cases hb) _ w ⟨ah,Q,va⟩) λe' J w' O=>?_
   obtain⟨Z,nI,aD,ρ',E⟩:=O;injection nI with nI;injection nI with k1 k2;subst k1 k2;have Fv:ρ' g = .bM us:=E.fix g _ (bk rfl);let dZ:=bL ρ' g ((w0.F g).getD (.ax 0 0))
   have CA:∀r,r≠g->dZ r=ρ' r:=λr hr=>cu _ _ _ hr
   obtain⟨Fy,Ts,kI⟩:=Fl (w0:=W) (N:=M) _ _ pq;injection Ts with Ts;subst Ts;obtain⟨T,dB,hlen,kJ⟩:=kI aD ρ' J w' E;have alB:(fn.results.mapM (qp J.tmps)).run P w' = .ok T.toArray w':=by
    rw[Array.mapM_eq_mapM_toList];simp[dB]
   have lG:results fn J.tmps=(do let T <-fn.results.mapM (qp J.tmps);pure (if h:T.size=1 then T[0]else .tuple T)):=by
    unfold results;congr 1
   have hRf:Rl w0 N aD dZ ⟨λj=>((ys.map (A.drop g))[j]?).getD .undef,(Z.drop g).m⟩ a w':=by
    refine⟨⟨E.below.os,E.below.tape,E.below.output,E.below.size,E.below.block⟩,E.cH,λr x C=>?_,λj=>?_,hR.size,hR.defers,λr l hr=>?_,hR.dm⟩
    ·have C:(bif Nat.beq r g then none else (Z.m r).map (aP.drop g))=some x:=C;cases hb:Nat.beq r g with
     |true=>rw[hb]at C;cases C
     | false=>
      have D:r≠g:=by rintro rfl;simp at hb
      rw[hb,aq]at C;cases hm:Z.m r with
      |none=>rw[hm]at C;cases C
      | some y=>
       rw[hm]at C;injection C with C;subst C;exact(E.root r y hm).dQ CA D
    ·show RA w' w0.heap.size aD dZ (((ys.map (A.drop g))[j]?).getD .undef) _;rw[List.aaa];cases hyj:ys[j]? with
     |none=>trivial
     | some y=>
      have iz:=E.root g _ hy;generalize L:aP.gh ys=z at iz;cases iz with
      |ax=>cases L
      |sl=>cases L
      |mp=>cases L
      | gh Kh xs' uZ hx3=>
       injection L with L;subst L;rw[Fv]at uZ;injection uZ with uZ;subst uZ;have:=hx3 j y hyj;rw[kH]at this;exact this.dQ CA
    ·by_cases D:r=g
     ·subst D;show bL ρ' r ((w0.F r).getD (.ax 0 0)) r=l;rw[bO,hr];rfl
     ·rw[CA r D];exact E.fix r l ((bB D).trans hr)
   have fin:J.defers=[]/\∃ v,(results fn J.tmps).run P w' = .ok v w'/\∃ Gf aD ρ',Ending.returned v=Ending.returned Gf/\Rl w0 N aD ρ' ⟨λj=>((ys.map (A.drop g))[j]?).getD .undef,(Z.drop g).m⟩ a w'/\RA w' w0.heap.size aD ρ' (ye g Fy) Gf:=
    ⟨E.defers,_,by rw[lG,eC,alB,iD,Sem.run_pure],_,aD,dZ,rfl,hRf,RP.ye CA hlen kJ⟩
   rcases hex with rfl|rfl
   ·exact fin
   ·exact fin
end
end Go.Proofs.YtglnbhiaknohlaaGreat
