/-
  Running the program over pure contents, and that it follows (part 5). Nothing here is a claim.
-/
import Derived.Test.YtglnbhiaknohlaaGreatV4
set_option linter.unusedSimpArgs false
namespace Go.Proofs.YtglnbhiaknohlaaGreat
set_option linter.defProp false
open Go.RowKit
set_option linter.unusedVariables false
section
variable {P:Program} {w w':World} {w0:Wd} {B N:Nat} {aj aE:bG} {ρ ρ':Nat->Loc} {σ:S} {a:Act} {X:Type} {d:Nat} {r:X} {o:Oper} {Φ:eo} {p:Nat->Bool} {ops:Array Oper} {e:Nat} {x:aY} {u:A} {Λ:mS}
def acQ{i W j:Nat}{C:Oper}(D:ops[j]?=some C)(h:HO ops i W j=true):∃ e∈C.after,Region.binds .any e=true/\(e.on=i\/W.testBit e.on=true):=by
 unfold HO at h;rw[D]at h;obtain⟨e,E,hb⟩:=List.any_eq_true.1 h;rw[aO,eB]at hb
 refine⟨e,by simpa using E,hb.1,hb.2.imp (λh=>cD h) id⟩
def Wu{g:Oper -> Bool}{C:Oper}{i L W:Nat}:∀ (n j:Nat),HP g ops C i L W n j=true -> ∀ k,j <= k -> k<j+n -> k=i \/ L.testBit k=true \/ (W.testBit k=true/\HO ops i W k=true) \/ (W.testBit k=false /\ ∀ ok,ops[k]?=some ok -> g ok=true/\C.apart ops ok=true)
 |0,j,_,k,D,E=>by omega
 | n+1,j,h,k,D,E=>by
  unfold HP at h;rw[aO,eB,eB]at h;by_cases I:k=j
  ·subst I;rcases h.1 with (h | h) | h
   ·exact .inl (cD h)
   ·exact .inr (.inl h)
   ·grind
  ·exact Wu n (j+1) h.2 k (by omega) (by omega)
def pI{g:Oper -> Bool}{i L W:Nat}:∀ (n j:Nat) (k:Nat),j <= k -> k<j+n -> k≠i -> L.testBit k=false -> W.testBit k=false -> ∀ ok,ops[k]?=some ok -> g ok=true -> hU g ops i L W n j=true
 |0,j,k,C,D,_,_,_,_,_,_=>by omega
 | n+1,j,k,C,D,hi,E,I,ok,J,O=>by
  unfold hU;rw[eB];by_cases Q:k=j
  ·subst Q;refine .inl ?_;have hb:Nat.beq k i=false:=by
    cases hb:Nat.beq k i with
    |false=>rfl
    |true=>simp_all
   simp_all
  ·exact .inr (pI n _ k (by omega) (by omega) hi E I ok J O)
def acR{g:Oper -> Bool}{i L W:Nat}:∀ (n j:Nat),hU g ops i L W n j=true -> ∃ k ok,ops[k]?=some ok/\k≠i/\L.testBit k=false/\W.testBit k=false/\g ok=true
 |0,j,h=>by cases h
 | n+1,j,h=>by
  unfold hU at h;rw[eB]at h;rcases h with h|h
  ·rw[aO,gT,oS,oS]at h;obtain⟨⟨⟨D,E⟩,I⟩,C⟩:=h;split at C
   next ok J=>exact⟨j,ok,J,(by rintro rfl;rw[Nat.beq_refl]at D;cases D),E,I,C⟩
   ·cases C
  ·exact acR n _ h
theorem apK[Inhabited Wd]{L i:Nat}{k:S -> ah X}(E:fJ o.op=true \/ fK σ ops o=some false)(I:VU σ (zn Φ ops i L (waits ops i ops.size 0 0) σ) (By σ ops i L (waits ops i ops.size 0 0)) o=true)(h:zp P N Φ ops L i σ o k=some r):
  ∃v,k (fX σ o.dst v)=some r/\mT P ops o (zn Φ ops i L (waits ops i ops.size 0 0) σ) (By σ ops i L (waits ops i ops.size 0 0)) v σ /\ ∀σ:S,iu N σ o.dst v some=some (fX σ o.dst v):=by
 unfold zp at h;unfold VU at I;rw[aO]at I;split at h
 ·rename_i C;obtain⟨v,D,U,_⟩:=HS (w0:=default) (N:=N) h;cases J:v.jR _ _ with
  |false=>rw[J]at D;cases D
  | true=>
   rw[J,ak]at D;obtain⟨O,Q⟩:=jT D;have E:=E.resolve_right (by rw[C];simp)
   refine⟨v,O,.inl ⟨C,E,U,λy T=>cI.1 I.1 y (by simpa using T),J,λt y r j e T=>?_⟩,λσ=>(Q σ).at_ _⟩
   simp_all
 next C=>obtain⟨O,Q⟩:=jT h;exact⟨.skip,O,.inr ⟨C,rfl⟩,λσ=>(Q σ).at_ _⟩
 ·cases h
def Ec{i L W n:Nat}(h:zm Φ ops i L W σ n=true):zn Φ ops i L W σ n=true:=by unfold zn;rw[h];rfl
def apL{i L W:Nat}(h:GM Φ ops i L W σ o=true):∃ ty t y,o.op = .store ty (.tmp t) y/\o.dst=none/\NW Φ ops i L W σ t=true/\(∀ k,σ.t t ≠ .ptr k) /\ ∀ r j,σ.t t = .aG r j -> Bw σ o=[r]:=by
 unfold GM at h;split at h
 ·rename_i ty t y C;rw[aO,aO]at h
  refine⟨ty,t,y,C,by simpa using h.1.1,h.1.2,λk E=>?_,λr j D=>by simp[Bw,C,D]⟩
  simp_all
 ·cases h
def apM{i L W:Nat}(h:VS Φ ops i L W o=true):∃ x y t C,o.op = .call ⟨.builtin .append,⟨[.tmp x,y]⟩,⟨[t,C]⟩⟩/\mQ Φ ops i L W x=true/\(oz t=false/\Nat.beq t C=true/\Bt o.dst t (.tmp x)=false):=by
 unfold VS at h
 grind
def apN{i L W:Nat}(h:VR Φ ops i L W σ o=true):∃ f args C c,o.op = .call { callee:=.value (.func f),args:=args,argTypes:=C } /\ Φ f=some (.m c)/\NT c=true/\sC (λt r=>!hU (jQ t) ops i L W ops.size 0 && !hU (λok=>dV ok r) ops i L W ops.size 0 && !hU isApp ops i L W ops.size 0) σ c.ps args.toList=true/\qq Φ σ o=iI σ c.ps args.toList:=by
 unfold VR at h;split at h
 ·rename_i f args C D;split at h
  next c E=>rw[aO]at h;exact⟨f,args,C,c,D,E,h.1,h.2,by simp[qq,D,E]⟩
  ·cases h
 ·cases h
def H9{p:Nat -> Bool}:∀ (ps:aa PK) (xs:aa Operand),(∀ x∈xs,(aI σ x).nr p=true) -> ∀ n∈iI σ ps xs,p n=false
 |[],[],_,n,hn=>by cases hn
 |.v _ _::ps,x::xs,h,n,hn=>H9 ps xs (λy C=>h y (.tail _ C)) n hn
 |.s _ _::ps,x::xs,h,n,hn=>H9 ps xs (λy C=>h y (.tail _ C)) n hn
 | .p _ _ _ :: ps,x :: xs,h,n,hn=>by
  simp[iI]at hn;split at hn
  ·rename_i I j E;rcases gf.1 hn with rfl | hn
   ·have D:=h x (.head _);rw[E]at D;have D:(!p n)=true:=D
    simpa using D
   ·exact H9 ps xs (λy C=>h y (.tail _ C)) n hn
  ·exact H9 ps xs (λy C=>h y (.tail _ C)) n hn
def Oi{D:ah Tmp}{g:Bool}{k:S -> ah X}(h:pE σ D g k=some r):k σ=some r:=by
 unfold pE at h;cases g with
 |false=>exact h
 | true=>
  rw[ak]at h;split at h
  ·rename_i d;split at h
   ·rename_i b hb;have:∀ c,b=c -> σ.set d (.lf (.v (.bool c)))=σ:=by
     rintro c rfl
     refine S.ext' (λk=>?_) λ_=>rfl
     show bW _ _ _ _=_;by_cases C:k=d
     ·subst C;rw[ck,hb]
     ·rw[cB _ _ _ C]
    grind
   ·exact h
  ·exact h
def acS{L j:Nat}(h:l9 ops L j=true):j<ops.size:=by
 obtain⟨_,o,C,_⟩:=H6.1 h
 grind
def BH{L j:Nat}:j∈(List.range ops.size).filter (l9 ops L) ↔ l9 ops L j=true:=by
 rw[List.mem_filter,fq];exact⟨λh=>h.2,λh=>⟨acS h,h⟩⟩
structure acT (ops:Array Oper) (p:Nat->Bool) (σ:S) (o:Oper):Prop where
 is:oA o=true
 want:fK σ ops o=some true
 aDh:∀y∈o.op.operands,(aI σ y).fJ=true/\∀t,y = .tmp t->p t=false
 guard:∀g c t,o.guard=some (g,c)->(ops[g]?).bind (·.dst)=some t->p t=false
def apO{x:A}{n:Nat}{z:V}(h:rF x n=some z)(X:Type)(k:A -> ah X):v8 x n k=k (.lf (.v z)):=by
 unfold rF at h;split at h
 ·split at h
  next xs _ _ C=>injection h with h;subst h;simp[v8,C,Option.bind_some,so]
  ·cases h
 ·cases h
def acU{x:A}{n:Nat}{z:V}{g:Lf -> Lf}{G:A -> A}(C:∀ xs,G (.cR xs) = .cR (xs.map λp=>(p.1,p.2.map g)))(D:∀ z,g (.v z) = .v z)(h:rF x n=some z):rF (G x) n=some z:=by
 unfold rF at h;split at h
 ·split at h
  next xs _ _ E=>injection h with h;subst h;rw[C];simp[rF,dz,E,kP,List.map_cons,List.map_nil,D]
  ·cases h
 ·cases h
def Wv{v:A}(C:∀ q,v.drop q=v){rr d:Nat}{key:Nat -> aa Nat}:∀ (f j:Nat) (xs:aa Lf) (σ:S),hD rr key f j xs (σ.set d v)=(hD rr key f j xs σ).map λp=>(p.1,p.2.set d v)
 |_,_,[],σ=>by simp[hD]
 |0,j,x::xs,σ=>by cases x<;>simp[hD]
 | f+1,j,.v x :: xs,σ=>by
  simp only[hD,Wv C f];cases hD rr key f (j+1) xs σ<;>rfl
 | f+1,j,.own [q] :: xs,σ=>by
  simp only[hD];show (match σ.m q with
   |some (.sl z)=>_
   |_=>none)=_
  cases D:σ.m q with
  |none=>rfl
  | some y=>
   cases y with
   | sl z=>
    cases Nat.beq q rr with
    |true=>rfl
    | false=>
     simp only[au];rw[S.drop_set q (C q),Wv C f];cases hD rr key f (j+1) (xs.map (Lf.drop q)) (σ.drop q)<;>rfl
   |_=>rfl
 |f+1,j,.own []::xs,σ=>rfl
 |f+1,j,.own (_::_::_)::xs,σ=>rfl
 |f+1,j,.dead::xs,σ=>rfl
def Ww{rr:Nat}{key:Nat -> aa Nat}{x n:Nat}{z:V}:∀ (f j:Nat) (xs:aa Lf) (σ C:S) (D:aa V),hD rr key f j xs σ=some (D,C) -> rF (σ.t x) n=some z -> rF (C.t x) n=some z
 | _,_,[],σ,C,D,h,E=>by
  simp only[hD]at h;simp_all
 |0,j,y::xs,σ,C,D,h,E=>by cases y<;>simp[hD]at h
 | f+1,j,.v y :: xs,σ,C,D,h,E=>by
  simp only[hD]at h;cases I:hD rr key f (j+1) xs σ with
  |none=>simp_all
  | some p=>
   rw[I]at h;injection h with h;injection h with _ h;subst h;exact Ww f (j+1) xs σ p.2 p.1 I E
 | f+1,j,.own [q] :: xs,σ,C,D,h,E=>by
  simp only[hD]at h;split at h
  ·cases hb:Nat.beq q rr with
   |true=>simp_all
   | false=>
    rw[hb,au]at h;cases I:hD rr key f (j+1) (xs.map (Lf.drop q)) (σ.drop q)with
    |none=>simp_all
    | some p=>
     rw[I]at h;injection h with h;injection h with _ h;subst h;refine Ww f (j+1) _ (σ.drop q) p.2 p.1 I ?_;exact acU (G:=A.drop q) (g:=Lf.drop q) (λ_=>rfl) (λ_=>rfl) E
  ·cases h
def apP{d:Nat}{v:V}{t:TypeId}{x y:A}{I:S}(h:rE P (σ.set d (.lf (.v v))) t x y some=some I):∃ D,rE P σ t x y some=some D/\I=D.set d (.lf (.v v)) /\ ∀ (e n:Nat) (z:V),rF (σ.t e) n=some z -> rF (D.t e) n=some z:=by
 unfold rE at h;split at h
 ·rename_i n xs j i s rr U Y;split at h
  ·rename_i hlen;cases J:xs.all Lf.live with
   |false=>simp_all
   | true=>
    rw[J,ak]at h;split at h
    ·rename_i vs τ1 C;rw[Wv (v:=.lf (.v v)) (λ_=>rfl)]at C;cases E:hD rr (λm=>(j+m) :: i :: s :: [rr]) xs.length 0 xs σ with
     |none=>simp_all
     | some p=>
      rw[E]at C;obtain⟨vs0,L⟩:=p;injection C with C;injection C with Z e2;subst Z e2;split at h
      ·rename_i O Q T l js;have apQ:L.m rr=some (.sl (.sl O (Q+2) T l)):=js;split at h
       ·rename_i nG;split at h
        ·rename_i hi;split at h
         ·rename_i hj;split at h
          ·rename_i e he;injection h with h
           refine⟨L.bE [rr] [] [(rr,.sl (.sl O (Q+2) T (l.set i e)))],?_,?_,λex nx z hz=>?_⟩
           ·simp[rE,U,Y,bA hlen,J,ak,E,apQ,bA nG,aA hi,bA hj,he]
           ·rw[<- h];exact S.N3 _ rfl
           ·exact acU (G:=A.bE [rr] []) (λ_=>rfl) (λ_=>rfl) (Ww _ _ _ _ _ _ E hz)
          ·cases h
         ·cases h
        ·cases h
       ·cases h
      ·cases h
    ·cases h
  ·cases h
 ·cases h
def acV{t:TypeId}{a b:Operand}(C:o.op = .store t a b)(D:o.dst=none)(E:uY (aI σ a) (aI σ b)=true):dn P N Φ σ o some=rE P σ t (aI σ a) (aI σ b) some:=by
 unfold dn;rw[show fJ o.op=false by rw[C];rfl,au];simp[hJ,C,D,E,ak]
theorem apR[Inhabited Wd](fL:fQ P Φ){K:S -> Prop}{f L i:Nat}{Q:Oper}{Y:S}(hi:ops[i]?=some Q)(hr:l9 ops L i=true)(D:VW ops L σ i=true)(js:dw P N Φ ops σ Q some=some Y)(H:Any P N Φ ops K f (L ||| 2 ^ i) Y):Any P N Φ ops K (f+1) L σ:=by
 unfold VW at D;rw[hi]at D;split at D
 ·rename_i oi' j0 Z apS;injection Z with Z;subst Z;split at D
  ·rename_i x n d oj zB zC BI hj0;split at D
   ·rename_i ty a b T acW acX;rw[aO,aO]at D;obtain⟨⟨c1,c2⟩,c3⟩:=D;obtain⟨z,hz⟩:=Option.isSome_iff_exists.1 c1;obtain⟨a1,a2,a3⟩:=Oper.apart_spec c3;have hpd:∀ j,j<ops.size -> j≠i -> L.testBit j=false -> j=j0:=by
     intro j E I J;have:j∈(List.range ops.size).filter (λj=>!(Nat.beq j i || L.testBit j)):=by
      rw[List.mem_filter];refine⟨fq.2 E,?_⟩;rw[J,Bool.or_false];cases hb:Nat.beq j i with
      |false=>rfl
      |true=>exact absurd (cD hb) I
     rw[apS]at this;exact oT.1 this
    have rH:∀ σ2:S,rF (σ2.t x) n=some z -> dw P N Φ ops σ2 Q some=iu N σ2 (some d) (.lf (.v z)) some:=by
     intro σ2 h2;unfold dw;simp only[fK,BI];unfold dn;rw[show fJ Q.op=true by rw[zB];rfl,ak,zB];simp only[ep];rw[show aI σ2 (.tmp x)=σ2.t x from rfl,apO h2,zC]
    have hN:∀ σ2:S,iu N σ2 (some d) (.lf (.v z)) some=some (σ2.set d (.lf (.v z))):=by
     intro σ2;rw[rH σ hz]at js;obtain⟨_,g2⟩:=jT js;exact(g2 σ2).at_ _
    have hE:Y=σ.set d (.lf (.v z)):=by
     grind
    rw[hE]at H
    refine Wf (W:=0) hi (λj oj _ E=>by rw[Nat.zero_testBit]at E;cases E) (λσ=>σ.set d (.lf (.v z)))
     (λL' C=>rF (C.t x) n=some z /\ ∀j,j<ops.size -> j≠i -> L'.testBit j=false -> j=j0/\uY (aI C a) (aI C b)=true)
     (λL' C U=>(rH C U.1).trans (hN C)) (λL' C j oj' oh U O I J _ zz=>?_) f L σ (λj E=>by rw[Nat.zero_testBit]at E;cases E) hr
     ⟨hz,λj E I J=>⟨hpd j E I J,c2⟩⟩ H
    obtain⟨rfl,hg⟩:=U.2 j (gd.1 O).1 I J;rw[hj0]at O;injection O with O;subst O;have ha:aI (C.set d (.lf (.v z))) a=aI C a:=D6 (a1 d zC) _ (by rw[T];simp[Op.operands]);have hb:aI (C.set d (.lf (.v z))) b=aI C b:=D6 (a1 d zC) _ (by rw[T];simp[Op.operands]);have ld:dw P N Φ ops (C.set d (.lf (.v z))) oj some=rE P (C.set d (.lf (.v z))) ty (aI C a) (aI C b) some:=by
     unfold dw;simp only[fK,acX];rw[acV T acW (by rw[ha,hb];exact hg),ha,hb]
    rw[ld]at zz;obtain⟨σ2,h1,h2,h3⟩:=apP zz
    refine⟨σ2,?_,h2,h3 _ _ _ U.1,λk hk hki hkL=>?_⟩
    ·unfold dw;simp only[fK,acX];rw[acV T acW hg];exact h1
    ·grind
   ·cases D
  ·cases D
 ·cases D
theorem Ia[Inhabited Wd](fL:fQ P Φ):∀ (f L:Nat) (σ:S) (k:S -> ah X),jS P N Φ ops f L σ k=some r -> Any P N Φ ops (λτ=>k τ=some r) f L σ
 | 0,L,σ,k,h=>by
  unfold jS at h;split at h
  ·rename_i hr
   refine⟨λj=>?_,h⟩
   cases T:l9 ops L j with
   |false=>rfl
   |true=>have:=BH.2 T;rw[hr]at this;cases this
  ·cases h
 | f+1,L,σ,k,h=>by
  unfold jS at h;split at h
  ·rename_i hr
   refine⟨λ_=>h,λj T=>?_⟩
   have:=BH.2 T;rw[hr]at this;cases this
  ·rename_i i hr;have hi:l9 ops L i=true:=BH.1 (by rw[hr];exact .head _)
   refine⟨λh=>absurd (h i) (by rw[hi];simp),λj T=>?_⟩
   have T:=BH.2 T;rw[hr]at T;obtain rfl:=oT.1 T;split at h
   next o ho=>obtain⟨τ,h1,h2⟩:=V4 fL h;exact⟨o,τ,ho,h2,Ia fL f _ τ k (Oi h1)⟩
   ·cases h
  ·rename_i rs Z hs;split at h
   ·rename_i i hf;have hc:=List.find?_some hf;have hm:=List.mem_of_find?_eq_some hf;have hi:=BH.1 hm;split at h
    ·rename_i o ho;unfold acg at hc;rw[ho,aO,aO,aO]at hc;obtain⟨⟨⟨c1,c2⟩,c3⟩,c4⟩:=hc;have c1:fJ o.op=true \/ fK σ ops o=some false:=by
      rw[eB]at c1
      refine c1.imp id λc1=>?_
      split at c1
      next b hb=>rw[hb];cases b<;>first|rfl|cases c1
      ·cases c1
     obtain⟨v,h1,hF,hN⟩:=apK c1 c4 h;have qt:=Wu _ _ c3;have c2:=cD c2;have Ib:∀ j,(waits ops i ops.size 0 0).testBit j=true -> (L ||| 2 ^ i).testBit j=false:=by
      intro j T;have:((L |||2 ^ i) &&& waits ops i ops.size 0 0).testBit j=false:=by rw[c2];exact Nat.zero_testBit j
      rw[Nat.testBit_and,T,Bool.and_true]at this;exact this
     have vc:∀ j,(waits ops i ops.size 0 0).testBit j=true -> L.testBit j=false:=by
      intro j T;have:=Ib j T;rw[zx,oS]at this;exact this.1
     refine apn (W:=waits ops i ops.size 0 0) (ok:=λt r=>!hU (jQ t) ops i L (waits ops i ops.size 0 0) ops.size 0 && !hU (λok=>dV ok r) ops i L (waits ops i ops.size 0 0) ops.size 0 && !hU isApp ops i L (waits ops i ops.size 0 0) ops.size 0) (rG:=NW Φ ops i L (waits ops i ops.size 0 0) σ) (mR:=mR Φ ops i L (waits ops i ops.size 0 0) σ) (mQ:=mQ Φ ops i L (waits ops i ops.size 0 0)) fL ho hN (λj C D T=>?_) f L σ (λt r iS j C D J O Q=>?_) (λx hx j C D J O Q=>?_) (λx hx=>?_) (λt iS j C D J O Q=>?_) (λt iS j C D J O Q=>?_) (λj C D J O Q=>?_) vc hi hF (Ia fL f _ _ k (Oi h1))
     ·have ei:=(gd.1 D).1;rcases qt j (by omega) (by omega)with e | e | e | e
      ·subst e;have:=Ib j T;rw[zx]at this;simp at this
      ·rw[vc j T]at e;cases e
      ·exact acQ D e.2
      ·rw[T]at e;cases e.1
     ·have ei:=(gd.1 D).1;rw[aO,aO,gT,gT,gT]at iS
      refine⟨λU=>?_,?_,?_⟩
      ·have:=pI (g:=jQ t) ops.size 0 j (by omega) (by omega) J O Q C D (by unfold jQ;rw[U];exact Nat.beq_refl t);rw[iS.1.1]at this;cases this
      ·cases Z:dV C r with
       |false=>rfl
       | true=>
        have:=pI (g:=λok=>dV ok r) ops.size 0 j (by omega) (by omega) J O Q C D Z;rw[iS.1.2]at this;cases this
      ·cases Z:isApp C with
       |false=>rfl
       | true=>
        have:=pI (g:=isApp) ops.size 0 j (by omega) (by omega) J O Q C D Z;rw[iS.2]at this;cases this
     ·have ei:=(gd.1 D).1;unfold mR at hx;rw[aO]at hx;intro U;have:=pI (g:=jQ x) ops.size 0 j (by omega) (by omega) J O Q C D (by unfold jQ;rw[U];exact Nat.beq_refl x);rw[this]at hx;cases hx.1
     ·unfold mR at hx;rw[aO]at hx;have hx:=hx.2;cases hz:σ.t x with
      |aG r j=>rw[hz]at hx;exact hx
      |gW cs=>trivial
      |_=>rw[hz]at hx;cases hx
     ·have ei:=(gd.1 D).1;by_cases U:C.dst=some t
      ·refine .inr ?_;have Wx:jQ t C=true:=by unfold jQ;rw[U];exact Nat.beq_refl t
       cases D9:va C with
       | false=>
        cases Ic:NV Φ ops i L (waits ops i ops.size 0 0) σ C with
        | false=>
         have:=pI (g:=λok=>jQ t ok && !(va ok ||NV Φ ops i L (waits ops i ops.size 0 0) σ ok)) ops.size 0 j (by omega) (by omega) J O Q C D (by rw[Wx,D9,Ic];rfl);unfold NW at iS;rw[this]at iS;cases iS
        | true=>
         unfold NV at Ic;split at Ic
         next s x f zD=>exact .inr ⟨s,x,f,zD,Ic⟩
         ·cases Ic
       | true=>
        refine .inl ⟨rfl,?_⟩;refine Ec ?_;unfold zm;rw[eB]
        refine .inl (pI (g:=λo=>dV o t) _ 0 j (by omega) (by omega) J O Q C D ?_)
        obtain⟨ty,e,h1,_,h3,_⟩:=acy D9;unfold dV;rw[U,h1];exact Nat.beq_refl t
      ·exact .inl U
     ·have ei:=(gd.1 D).1;by_cases U:C.dst=some t
      ·refine .inr ?_;have Wx:jQ t C=true:=by unfold jQ;rw[U];exact Nat.beq_refl t
       cases zE:oA C with
       | false=>
        cases hma:isApp C with
        |true=>exact .inr (.inl rfl)
        | false=>
         cases BB:zo Φ C with
         |true=>exact .inr (.inr rfl)
         | false=>
          have:=pI (g:=λok=>jQ t ok && !(oA ok ||isApp ok ||zo Φ ok)) ops.size 0 j (by omega) (by omega) J O Q C D (by rw[Wx,zE,hma,BB];rfl);unfold mQ at iS;rw[this]at iS;cases iS
       | true=>
        refine .inl ?_;have qj:dV C t=true:=by
         unfold oA at zE;rw[aO]at zE;have h1:=zE.1;unfold dV;rw[U];split at h1
         next wB=>simp only[wB];exact Nat.beq_refl t
         next wB=>simp only[wB];exact Nat.beq_refl t
         next wB=>simp only[wB];exact Nat.beq_refl t
         ·cases h1
        have h9:=pI (g:=λo=>dV o t) ops.size 0 j (by omega) (by omega) J O Q C D qj;refine⟨rfl,?_,?_⟩
        ·refine Ec ?_;unfold zm;rw[eB];exact .inl h9
        ·unfold By;rw[eB];exact .inl h9
      ·exact .inl U
     ·have ei:=(gd.1 D).1;rcases qt j (by omega) (by omega)with e | e | e | e
      ·exact absurd e J
      ·rw[O]at e;cases e
      ·rw[Q]at e;cases e.1
      ·obtain⟨e1,e2⟩:=e.2 C D
       refine⟨e2,?_,λn Z=>?_⟩
       ·rw[eB,eB,eB]at e1;rcases e1 with ((e1 | e1) | e1) | e1
        ·exact .inl e1
        ·obtain⟨f',args,jq,c,g1,g2,g3,g4,g5⟩:=apN e1
         refine .inr (.inl ⟨f',args,jq,c,g1,g2,g3,g4,λn Z=>?_⟩)
         refine Ec ?_;unfold zm;rw[eB]
         refine .inr (pI (g:=λo=>cx n (qq Φ σ o) ||cx n (Bw σ o)) _ 0 j (by omega) (by omega) J O Q C D ?_)
         rw[g5,tE.2 Z];rfl
        ·obtain⟨ty,t,y,g1,g2,g3,g4,g5⟩:=apL e1;refine .inr (.inr (.inl ⟨ty,t,y,g1,g2,g3,?_⟩));cases hx:σ.t t with
         | aG r' j'=>
          show zn Φ ops i L _ σ r'=true;refine Ec ?_;unfold zm;rw[eB]
          refine .inr (pI (g:=λo=>cx r' (qq Φ σ o) ||cx r' (Bw σ o)) _ 0 j (by omega) (by omega) J O Q C D ?_)
          rw[g5 r' j' hx,eB];exact .inr (tE.2 (.head _))
         |ptr k=>exact absurd hx (g4 k)
         |_=>trivial
        ·obtain⟨x,y,t1,t2,g1,g2,g3⟩:=apM e1
         refine .inr (.inr (.inr ⟨x,y,t1,t2,g1,g2,g3,λr' gY=>⟨?_,?_⟩⟩))
         ·refine Ec ?_;unfold zm;rw[eB];refine .inr (pI _ 0 j (by omega) (by omega) J O Q C D ?_);have:Bw σ C=[r']:=by simp only[Bw,g1,gY]
          rw[this,eB];exact .inr (tE.2 (.head _))
         ·unfold By;rw[eB]
          refine .inr (pI (g:=λo=>cx r' (NU σ o)) _ 0 j (by omega) (by omega) J O Q C D ?_)
          have:NU σ C=[r']:=by simp only[NU,g1,gY]
          rw[this];exact tE.2 (.head _)
       ·have h9:=pI (g:=λo=>dV o n) ops.size 0 j (by omega) (by omega) J O Q C D Z;refine⟨?_,?_⟩
        ·refine Ec ?_;unfold zm;rw[eB];exact .inl h9
        ·unfold By;rw[eB];exact .inl h9
    ·cases h
   ·split at h
    ·rename_i i hf;have hc:=List.find?_some hf;have hm:=List.mem_of_find?_eq_some hf;have hi:=BH.1 hm;split at h
     ·rename_i o ho;unfold ach at hc;rw[ho,aO,aO,aO,aO,aO]at hc;obtain⟨⟨⟨⟨⟨c1,c2⟩,c3⟩,c4⟩,c5⟩,c6⟩:=hc;have qt:=Wu _ _ c3;have c2:=cD c2;have Ib:∀ j,(waits ops i ops.size 0 0).testBit j=true -> (L ||| 2 ^ i).testBit j=false:=by
       intro j T;have:((L |||2 ^ i) &&& waits ops i ops.size 0 0).testBit j=false:=by rw[c2];exact Nat.zero_testBit j
       rw[Nat.testBit_and,T,Bool.and_true]at this;exact this
      have vc:∀ j,(waits ops i ops.size 0 0).testBit j=true -> L.testBit j=false:=by
       intro j T;have:=Ib j T;rw[zx,oS]at this;exact this.1
      obtain⟨τ,h1,h2⟩:=V4 fL h;generalize hp:(λn=>hU (λo=>D2 o n) ops i L (waits ops i ops.size 0 0) ops.size 0)=p at c4 c5;have hpe:∀ j C e,ops[j]?=some C -> j≠i -> L.testBit j=false -> (waits ops i ops.size 0 0).testBit j=false -> C.dst=some e -> p e=true:=by
       intro j C e D J O Q U;have ei:=(gd.1 D).1;rw[<- hp];exact pI (g:=λo=>D2 o e) _ 0 j (by omega) (by omega) J O Q C D (by unfold D2 jQ;rw[U];exact Nat.beq_refl e)
      have BF:∀ j C,ops[j]?=some C -> j≠i -> L.testBit j=false -> (waits ops i ops.size 0 0).testBit j=false -> VV ops i L (waits ops i ops.size 0 0) σ C=true/\o.apart ops C=true:=by
       intro j C D J O Q;have ei:=(gd.1 D).1;rcases qt j (by omega) (by omega)with e|e|e|e
       ·exact absurd e J
       ·rw[O]at e;cases e
       ·rw[Q]at e;cases e.1
       ·exact e.2 C D
      have zE:∀ j C,ops[j]?=some C -> j≠i -> L.testBit j=false -> (waits ops i ops.size 0 0).testBit j=false -> acT ops p σ C:=by
       intro j C D J O Q;have hb:=(BF j C D J O Q).1;unfold VV at hb;rw[aO,aO,aO]at hb;obtain⟨⟨⟨b1,b2⟩,b3⟩,b4⟩:=hb;have N5:∀t,hU (jQ t) ops i L (waits ops i ops.size 0 0) ops.size 0=false -> p t=false:=λt Y=>by rw[<- hp];exact Y
       refine⟨b1,?_,λy I=>?_,λg c t hg Y=>?_⟩
       ·split at b2
        next b HB=>rw[HB,b2]
        ·cases b2
       ·have:=cI.1 b3 y (by simpa using I);rw[aO]at this
        refine⟨this.1,λt Y=>?_⟩
        have h2:=this.2;rw[Y]at h2;exact N5 t (by simpa using h2)
       ·rw[hg]at b4;simp only[Y]at b4;exact N5 t (by simpa using b4)
      have BG:∀ n,20000 <= n -> p n=false:=by
       intro n Z;cases BJ:p n with
       |false=>rfl
       | true=>
        rw[<- hp]at BJ;obtain⟨k',Wy,hk1,Oj,zF,ve,BM⟩:=acR _ _ BJ;have hm:=(zE k' Wy hk1 Oj zF ve).is;unfold oA at hm;rw[aO]at hm;have hm:=hm.2;unfold D2 jQ at BM;split at BM
        next e he=>rw[he]at hm;have h1:e=n:=cD BM;subst h1;exact absurd (cL hm) (Nat.not_le_of_gt (Nat.lt_succ_of_le Z))
        ·cases BM
      have hE:τ=(dw P N Φ ops σ o some).getD σ:=by rw[h2];rfl
      refine Wf (W:=waits ops i ops.size 0 0) ho (λj C D T=>?_) (λσ=>(dw P N Φ ops σ o some).getD σ)
       (λL' E=>((dw P N Φ ops E o some).isSome=true/\VT E p o=true/\(qq Φ E o).all (wO E p)=true/\wN E o=true)/\(∀ j,L'.testBit j=false -> L.testBit j=false) /\
        ∀j C,ops[j]?=some C -> j≠i -> L'.testBit j=false -> (waits ops i ops.size 0 0).testBit j=false -> acT ops p E C)
       (λL' E hI=>?_) (λL' E j C oh hI D J O Q js=>?_) f L σ vc hi ⟨⟨by rw[h2];rfl,c4,c5,c6⟩,λ_ h=>h,zE⟩ (by rw[<- hE];exact Ia fL f _ τ k (Oi h1))
      ·have ei:=(gd.1 D).1;rcases qt j (by omega) (by omega)with e | e | e | e
       ·subst e;have:=Ib j T;rw[zx]at this;simp at this
       ·rw[vc j T]at e;cases e
       ·exact acQ D e.2
       ·rw[T]at e;cases e.1
      ·obtain⟨z,hz⟩:=Option.isSome_iff_exists.1 hI.1.1;rw[hz];rfl
      ·obtain⟨⟨i1,i2,i3,i6⟩,i4,i5⟩:=hI;have ap:=(BF j C D J (i4 j O) Q).2;obtain⟨m1,m2,m3,m4⟩:=i5 j C D J O Q;obtain⟨a1,a2,a3⟩:=Oper.apart_spec ap;obtain⟨z,hz⟩:=Option.isSome_iff_exists.1 i1;have hEz:(dw P N Φ ops E o some).getD E=z:=by rw[hz];rfl
       have js:dw P N Φ ops z C some=some oh:=by rw[<- hEz];exact js
       have acY:∀ t,(E.t t).fJ=true -> o.dst≠some t -> z.t t=E.t t:=by
        intro t Y U;unfold dw at hz;split at hz
        ·exact apJ fL c1 i6 hz Y U
        ·obtain⟨g1,_⟩:=jT hz;injection g1 with g1;rw[<- g1];cases zC:o.dst with
         |none=>rfl
         |some d=>exact cB _ _ _ (by rintro rfl;exact U zC)
        ·cases hz
       have apT:∀ g c t,C.guard=some (g,c) -> (ops[g]?).bind (·.dst)=some t -> (E.t t).fJ=true \/ E.t t = .skip:=by
        intro g c t hg Y;unfold fK at m2;rw[hg]at m2;simp only[Y]at m2;split at m2
        next b hb=>left;rw[hb];rfl
        next hb=>exact .inr hb
        ·cases m2
       have BI:∀ g c t,C.guard=some (g,c) -> (ops[g]?).bind (·.dst)=some t -> o.dst≠some t:=by
        intro g c t hg Y U;refine a1 t U (List.mem_append_right _ ?_);rw[hg];simp only[Y];simp
       have hwz:fK z ops C=some true:=by
        rw[zv (σ:=E) λg c t hg Y=>?_]
        ·exact m2
        ·rcases apT g c t hg Y with h | h
         ·exact acY t h (BI g c t hg Y)
         ·exfalso;unfold fK at m2;rw[hg]at m2;simp only[Y,h]at m2;cases m2
       have apU:∀ y∈C.op.operands,aI z y=aI E y:=by
        intro y I;cases y with
        | tmp t=>
         refine acY t (m3 _ I).1 λU=>?_
         exact a1 t U (List.mem_append_left _ (List.mem_filterMap.2 ⟨.tmp t,by simpa using I,rfl⟩))
        |_=>rfl
       obtain⟨e,x,u,U,he,hx,hu,zz,oB⟩:=N6 m1 hwz js;have BN:=hpe j C e D J (i4 j O) Q U;have q6:=a3 e U;have vb:∀ y∈o.op.operands,(aI E y).nr p=true/\y ≠ .tmp e:=by
        intro y I;refine⟨cI.1 i2 y (by simpa using I),?_⟩;rintro rfl;exact q6 (List.mem_append_left _ (List.mem_filterMap.2 ⟨.tmp e,by simpa using I,rfl⟩))
       have zC:o.dst≠some e:=λh=>a2 e h U
       have apV:fK (cT e x u E) ops o=fK E ops o:=by
        have hw:∃ b,fK E ops o=some b:=by
         unfold dw at hz;cases hw:fK E ops o with
         |none=>rw[hw]at hz;cases hz
         |some b=>exact⟨b,rfl⟩
        obtain⟨b,hw⟩:=hw
        refine zv λg c t' DB ht'=>?_
        rw[tN,bM ?_]
        ·exact A.sE (p:=p) (pb:=p) (V5 hw g c t' DB ht') BN BN
        ·rintro rfl;refine q6 (List.mem_append_right _ ?_);rw[DB];simp only[ht'];simp
       have rH:dw P N Φ ops (cT e x u E) o some=some (cT e x u z):=by
        unfold dw at hz ⊢;rw[apV];split at hz
        next hw=>exact apI fL hx hu he BN BG c1 i6 zC vb (λn Z=>cI.1 i3 n Z) hz
        next hw=>obtain⟨g1,g2⟩:=jT hz;injection g1 with g1;refine((g2 (cT e x u E)).at_ _).trans ?_;rw[<- g1,apo zC rfl]
        ·cases hz
       have Wz:∀y∈o.op.operands,aI (cT e x u E) y=aI E y:=λy I=>wR (vb y I).1 BN (vb y I).2
       have hL:∀ k,(L' ||| 2 ^ j).testBit k=false -> L'.testBit k=false/\k≠j:=by
        intro k hk;rw[zx,oS]at hk;refine⟨hk.1,?_⟩;rintro rfl;simp at hk
       refine⟨cT e x u E,oB E m2 (λy I=>(apU y I).symm),?_,⟨by rw[rH];rfl,?_,?_,?_⟩,λk hk=>i4 k (hL k hk).1,λk Wy hk hki hkL hkW=>?_⟩
       ·rw[zz,rH];rfl
       ·unfold VT;rw[cI];intro y I;rw[Wz y (by simpa using I)];exact(vb y (by simpa using I)).1
       ·have hrj:qq Φ (cT e x u E) o=qq Φ E o:=by
         unfold qq;split
         ·rename_i f' args jq zD;split
          ·refine HY _ _ λy I=>Wz y ?_
           rw[zD];simp only[Op.operands,Call.operands];simp only[Array.mem_append]
           first
            |exact .inr (by simpa using I)
            |exact .inl (by simpa using I)
          ·rfl
         ·rfl
        rw[hrj,cI];intro n Z;have h3:=cI.1 i3 n Z;have eI:n≠e:=by
         rintro rfl;have BJ:p n=false:=by
          unfold qq at Z;split at Z
          ·rename_i f' args jq zD;split at Z
           ·refine H9 _ _ (λy I=>(vb y ?_).1) n Z
            rw[zD];simp only[Op.operands,Call.operands];simp only[Array.mem_append]
            first
             |exact .inr (by simpa using I)
             |exact .inl (by simpa using I)
           ·cases Z
          ·cases Z
         rw[BN]at BJ;cases BJ
        unfold wO at h3 ⊢;rw[pH,bM eI];cases hm:E.m n with
        |none=>rfl
        | some y=>
         cases y with
         |sl=>rfl
         |mp=>rfl
         |gh=>rfl
         | aB cs=>
          rw[hm]at h3;simp only[kP,aY.drop,mO.l8 h3 BN];exact h3
       ·unfold wN at i6 ⊢;split
        next ty t y zD=>rw[zD]at i6;have e1:(cT e x u E).t t=E.t t:=Wz (.tmp t) (by rw[zD];simp[Op.operands]);rw[e1];exact i6
        ·rfl
       ·obtain⟨n1,n2,n3,n4⟩:=i5 k Wy hk hki (hL k hkL).1 hkW;have apW:∀ t,p t=false -> t≠e:=by rintro t Y rfl;rw[BN]at Y;cases Y
        have acZ:∀ t,(E.t t).fJ=true -> p t=false -> (cT e x u E).t t=E.t t:=by
         intro t Y htp;rw[tN,bM (apW t htp)];exact A.Oh Y e
        refine⟨n1,?_,λy I=>?_,n4⟩
        ·rw[zv (σ:=E) λg c t hg Y=>?_]
         ·exact n2
         ·unfold fK at n2;rw[hg]at n2;simp only[Y]at n2;split at n2
          next b hb=>exact acZ t (by rw[hb];rfl) (n4 g c t hg Y)
          next hb=>cases n2
          ·cases n2
        ·refine⟨?_,(n3 y I).2⟩;cases y with
         | tmp t=>
          show ((cT e x u E).t t).fJ=true;rw[acZ t (n3 _ I).1 ((n3 _ I).2 t rfl)];exact(n3 _ I).1
         |const v=>exact(n3 _ I).1
         |global g=>exact(n3 _ I).1
         |func f=>exact(n3 _ I).1
     ·cases h
    ·split at h
     ·rename_i i hf;have hc:=List.find?_some hf;have hm:=List.mem_of_find?_eq_some hf;have hi:=BH.1 hm;split at h
      next o ho=>obtain⟨τ,h1,h2⟩:=V4 fL h;exact apR fL ho hi hc h2 (Ia fL f _ τ k (Oi h1))
      ·cases h
     ·cases h
def Ed{b:Bool}(h:fK σ ops o=some b)(hR:Rl w0 N aj ρ σ a w):Region.wanted o (yielded ops a.tmps)=b:=by
 unfold fK at h;split at h
 next I=>injection h with h;subst h;simp[Region.wanted,I]
 ·rename_i j want I;split at h
  ·rename_i t J;have D:=hR.tmp t;rw[ij]at D;split at h
   ·rename_i c L;rw[L]at D;have E:=D.2.yK;injection h with h;subst h;cases C:a.tmps[t]? with
    |none=>rw[C]at E;cases E
    | some v=>
     rw[C]at E;subst E;simp only[Region.wanted,I,yielded,J,Option.bind_some,C];simp_all
   ·rename_i L;rw[L]at D;injection h with h;subst h;cases C:a.tmps[t]? with
    |none=>simp[Region.wanted,I,yielded,J,C]
    | some v=>
     rw[C]at D;have E:=D;subst E;simp only[Region.wanted,I,yielded,J,Option.bind_some,C,undef];simp_all
   ·cases h
  ·cases h
structure tO (ops:Array Oper) (ac0:Array Bool) (L:Nat):Prop where
 size:ac0.size=ops.size
 bit:∀j,j<ops.size->ac0[j]?=some (L.testBit j)
 out:∀j,ops.size<=j->L.testBit j=false
def tO.ac1{C:Array Bool}{L:Nat}(h:tO ops C L)(j:Nat):C.getD j false=L.testBit j:=by
 rw[ij];by_cases D:j<ops.size
 ·rw[h.bit j D];rfl
 ·rw[h.out j (by omega),Array.getElem?_eq_none (by rw[h.size];omega)];rfl
def tO.ready{O:Array Bool}{L:Nat}(h:tO ops O L)(j:Nat):j∈Region.ready .any ops O ↔ l9 ops L j=true:=by
 rw[mem_ready,H6];constructor
 ·rintro⟨D,o,C,E⟩;have I:=(gd.1 C).1;rw[ij,h.bit j I]at D;exact⟨D,o,C,λe J hb=>by rw[<-h.ac1];exact E e J hb⟩
 ·rintro⟨D,o,C,E⟩;have I:=(gd.1 C).1;exact⟨by rw[ij,h.bit j I];exact D,o,C,λe J hb=>by rw[h.ac1];exact E e J hb⟩
def tO.set{D:Array Bool}{L i:Nat}(h:tO ops D L)(hi:i<ops.size):tO ops (D.setIfInBounds i true) (L ||| 2 ^ i):=by
 refine⟨by simp[h.size],λj C=>?_,λj C=>?_⟩
 ·rw[zx];by_cases E:i=j
  ·subst E;rw[Array.getElem?_setIfInBounds_self_of_lt (by rw[h.size];exact hi)];simp
  ·rw[Array.getElem?_setIfInBounds_ne E,h.bit j C];simp_all
 ·rw[zx,h.out j C]
  grind
def tO.start:tO ops (Array.replicate ops.size false) 0:=
 ⟨by simp,λj C=>by simp[C],λj _=>Nat.zero_testBit j⟩
def apX(T:fQ P Φ){k:S -> ah X}{i:Nat}(hi:ops[i]?=some o)(h:dw P N Φ ops σ o k=some r):∃ E,k E=some r /\ ∀ a w (K:Act -> World -> Prop) (Q:Exit -> Act -> World -> Prop),R w0 N σ a w -> (∀ L w',R w0 N E L w' -> K L w') -> wpOp P ops Q i K a w:=by
 unfold dw at h;split at h
 ·rename_i I;obtain⟨E,U,Y⟩:=VY T h
  refine⟨E,U,λa w K Q hR D=>?_⟩
  obtain⟨aj,ρ,C⟩:=hR;unfold wpOp;rw[hi];simp[Ed I C];exact .inl (Y a w K Q ⟨aj,ρ,C⟩ D)
 ·rename_i I;unfold iu at h;split at h
  ·rename_i J
   refine⟨σ,h,λa w K Q hR D=>?_⟩
   obtain⟨aj,ρ,C⟩:=hR;unfold wpOp;rw[hi];simp[Ed I C,J];exact D _ _ ⟨aj,ρ,C⟩
  ·rename_i d J;cases O:Nat.blt d N with
   |false=>simp_all
   | true=>
    rw[O,ak]at h
    refine⟨_,h,λa w K Q hR D=>?_⟩
    obtain⟨aj,ρ,C⟩:=hR;unfold wpOp;rw[hi];simp only[Ed I C,J];exact D _ _ ⟨aj,ρ,C.set rfl (by have:=cL O;omega)⟩
 ·cases h
def ac2(T:fQ P Φ){K:S -> Prop}{Q:Exit -> Act -> World -> Prop}(I:∀ J,K J -> ∀ a w,R w0 N J a w -> Q .normal a w):
  ∀(f L:Nat) (σ:S) (E:Array Bool),Any P N Φ ops K f L σ -> tO ops E L -> ∀a w,R w0 N σ a w -> wpAny P .any ops Q f E a w
 | 0,L,σ,E,h,D,a,w,hR=>by
  refine⟨List.eq_nil_iff_forall_not_mem.2 λj C=>?_,I σ h.2 a w hR⟩
  rw[D.ready,h.1]at C;cases C
 | f+1,L,σ,E,h,D,a,w,hR=>by
  refine⟨λhr=>I σ (h.1 λj=>?_) a w hR,λj C=>?_⟩
  ·cases C:l9 ops L j with
   |false=>rfl
   | true=>
    have:=(D.ready j).2 C;simp_all
  ·have U:=(D.ready j).1 C;obtain⟨o,J,Y,Z,hA⟩:=h.2 j U;obtain⟨oh,O,hw⟩:=apX T Y Z;injection O with O;subst O;exact hw a w _ Q hR λa' w' gA=>ac2 T I f _ _ _ hA (D.set (acS U)) a' w' gA
def R.drawn(hR:R w0 N σ a w):R w0 N σ a { w with drawn:=w.drawn+1 }:=by
 obtain⟨aj,ρ,h⟩:=hR;exact⟨aj,ρ,h.grow ⟨rfl,rfl,rfl,eK _,λ_ _=>rfl⟩ (λ_ _=>rfl) (λb k hb hl=>absurd (h.cX b k hl).2.1 (Nat.not_lt.2 hb))⟩
theorem apY[Inhabited Wd](C:fQ P Φ){id:Nat}{k:S->ah X}(E:P.follows .mixedOrders=true)(h:jS P N Φ ops ops.size 0 σ k=some r){Q:Exit->Act->World->Prop}(I:∀ D,k D=some r->∀ a w,R w0 N D a w->Q .normal a w)(hR:R w0 N σ a w):
  (Code.region id ops true).wp P Q a w:=
 wp_region_any E (ac2 C I _ _ _ _ (Ia C _ _ _ _ h) tO.start a _ hR.drawn)
/-! Values. -/
def apZ{E:ah Tmp}{g:Bool}{k:S -> ah X}(h:pE σ E g k=some r):∃ C,k C=some r /\ ∀ a w,R w0 N σ a w -> R w0 N C a w:=by
 unfold pE at h;cases g with
 |false=>grind
 | true=>
  rw[ak]at h;split at h
  ·rename_i d;split at h
   ·rename_i b hb;have key:∀ c:Bool,b=c -> ∀ a w,R w0 N σ a w -> R w0 N (σ.set d (.lf (.v (.bool c)))) a w:=by
     rintro c rfl a w ⟨aj,ρ,hR⟩
     refine⟨aj,ρ,hR.below,hR.cX,hR.root,λk=>?_,hR.size,hR.defers,hR.fix,hR.dx⟩
     show RA w w0.heap.size aj ρ (bW σ.t d (.lf (.v (.bool b))) k) _;by_cases D:k=d
     ·subst D;rw[ck,<- hb];exact hR.tmp k
     ·rw[cB _ _ _ D];exact hR.tmp k
    grind
   ·grind
  ·grind
def Ok(O:fQ P Φ)(ops:Array Oper):∀ (rest:aa Oper) (j:Nat) (σ:S) (k:S -> ah X),uZ P N Φ ops j rest σ k=some r -> ∃ Y,k Y=some r /\ ∀ a w,R w0 N σ a w -> ∀ Q,(∀ E w',R w0 N Y E w' -> Q Exit.normal E w') -> wpList P ops Q rest a w
 |[],j,σ,k,h=>⟨σ,h,λa w hR Q D=>D a w hR⟩
 | o :: rest,j,σ,k,h=>by
  unfold uZ at h;split at h
  ·rename_i T;obtain⟨rD,h1,zB⟩:=aoQ O h;obtain⟨σ2,h2,yI⟩:=apZ h1;obtain⟨I,J,L⟩:=Ok O ops rest (j+1) σ2 k h2
   refine⟨I,J,λa w hR Q D=>?_⟩
   obtain⟨aj,ρ,C⟩:=hR;simp only[wpList,Ed T C,if_true];exact .inl (zB a w _ Q ⟨aj,ρ,C⟩ λE w' sy=>L E w' (yI E w' sy) Q D)
  ·rename_i T;unfold iu at h;split at h
   ·rename_i U;obtain⟨I,J,L⟩:=Ok O ops rest _ σ k h
    refine⟨I,J,λa w hR Q D=>?_⟩
    obtain⟨aj,ρ,C⟩:=hR;simp[wpList,Ed T C,U];exact L a w ⟨aj,ρ,C⟩ Q D
   ·rename_i d U;cases Z:Nat.blt d N with
    |false=>simp_all
    | true=>
     rw[Z,ak]at h;obtain⟨I,J,L⟩:=Ok O ops rest (j+1) _ k h
     refine⟨I,J,λa w hR Q D=>?_⟩
     obtain⟨aj,ρ,C⟩:=hR;simp only[wpList,Ed T C,U];exact L _ w ⟨aj,ρ,C.set rfl (by have:=cL Z;omega)⟩ Q D
  ·cases h
def Ee(Y:fQ P Φ):∀ (c:Code) (σ:S) (k:Exit->S->ah X),gj P N Φ Λ c σ k=some r->pF P N Λ (occs c)->AW P w0 N c σ λe D=>k e D=some r:=by
 intro c
 induction c with
 |skip=>exact λσ k h _ a w hR=>wp_skip ⟨σ,h,hR⟩
 |label l=>exact λσ k h _ a w hR=>wp_label ⟨σ,h,hR⟩
 |ret=>exact λσ k h _ a w hR=>wp_ret ⟨σ,h,hR⟩
 |exit id=>exact λσ k h _ a w hR=>wp_exit ⟨σ,h,hR⟩
 | region id ops draw=>
  intro σ k h _ a w hR;cases draw with
  | true=>
   simp only[gj]at h;cases hm:P.follows .mixedOrders with
   |false=>rw[hm]at h;cases h
   | true=>
    rw[hm,ak]at h
    haveI:Inhabited Wd:=⟨w0⟩
    exact apY Y hm h (λτ js a w hR=>⟨τ,js,hR⟩) hR
  | false=>
   simp only[gj]at h;obtain⟨D,h',hw⟩:=Ok (w0:=w0) Y ops _ _ _ _ h;exact wp_region_list (hw a w hR _ λL w' C=>⟨D,h',C⟩)
 | seq x y O Q=>
  intro σ k h I a w hR;simp only[gj]at h;have T:=O σ _ h (λp E=>I p (List.mem_append_left _ E))
  refine wp_seq (wp_mono (T a w hR) λe L w' U=>?_)
  obtain⟨D,J,C⟩:=U;cases e with
  |normal=>exact Q D k J (λp E=>I p (List.mem_append_right _ E)) L w' C
  |_=>exact⟨D,J,C⟩
 | cond c x y O Q=>
  intro σ k h I a w hR;simp only[gj]at h;split at h
  ·rename_i b hb;obtain⟨aj,ρ,C⟩:=hR;have Z:=C.aI c;rw[hb]at Z;have hcv:=Z.2.yK;cases b with
   |true=>exact wp_cond_true hcv (O σ k h (λp E=>I p (List.mem_append_left _ E)) a w ⟨aj,ρ,C⟩)
   |false=>exact wp_cond_false hcv (Q σ k h (λp E=>I p (List.mem_append_right _ E)) a w ⟨aj,ρ,C⟩)
  ·cases h
 | block id c ih=>
  intro σ k h I a w hR;simp only[gj]at h;split at h
  next b hb=>exact I (id,c) (.head _) b hb X σ k r w0 h a w hR
  ·have T:=ih σ _ h (λp E=>I p (.tail _ E))
   refine wp_block (wp_mono (T a w hR) λe L w' U=>?_)
   obtain⟨D,J,C⟩:=U;cases e with
   | exit id'=>
    simp only[Exit.inBlock];by_cases hid:id'=id
    ·simp only[hid,if_true]at J ⊢;exact⟨D,J,C⟩
    ·simp only[hid,if_false]at J ⊢;exact⟨D,J,C⟩
   |_=>exact⟨D,J,C⟩
 |_=>exact λσ k h=>by simp[gj]at h
end
/-! What a loop carries. -/
inductive Lm where
 |int (k:IntKind)
 |bool
 |str
 |own (r:Nat)
 |aD (t:TC) (o:Nat)
def Lm.T:Lm->Type
 |.int _=>Int
 |.bool=>Bool
 |.str=>ByteArray
 |.own _=>af
 |.aD t _=>aa (Proofs.YtglnbhiaknohlaaGreat.T t)
def Lm.mk:(m:Lm)->m.T->Lf
 |.int k,n=>.v (.int k n)
 |.bool,b=>.v (.bool b)
 |.str,s=>.v (.str s)
 |.own r,_=>.own [r]
 |.aD t o,l=>.v (.sl t o false l)
def Lm.rd:(m:Lm)->Lf->ah m.T
 |.int k,.v (.int C n)=>if C=k then some n else none
 |.bool,.v (.bool b)=>some b
 |.str,.v (.str s)=>some s
 |.own r,.own [D]=>bif Nat.beq D r then some ()else none
 |.aD t o,.v x=>bif Nat.blt o 2 then x.dP t o else none
 |_,_=>none
inductive Tm where
 |lf (m:Lm)
 |aG (r j:Nat)
 |fp (t:TC) (o:Nat)
 |fc (f:Nat) (t:TC)
 |ag (t:TC)
 |pk (r n:Nat)
def Tm.T:Tm->Type
 |.lf m=>m.T
 |.aG _ _=>af
 |.fp t _=>Proofs.YtglnbhiaknohlaaGreat.T t
 |.fc _ t=>Proofs.YtglnbhiaknohlaaGreat.T t
 |.ag t=>Proofs.YtglnbhiaknohlaaGreat.T t
 |.pk _ _=>af
def Tm.mk:(m:Tm)->m.T->A
 |.lf m,x=>.lf (m.mk x)
 |.aG r j,_=>.aG r j
 |.fp t o,x=>.gW (enc t o x)
 |.fc f t,x=>.kA f (enc t 0 x)
 |.ag t,x=>.agg ((enc t 0 x).map .v)
 |.pk r n,_=>.pk r n
def Tm.rd:(m:Tm)->A->ah m.T
 |.lf m,.lf x=>m.rd x
 |.aG r j,.aG C D=>bif Nat.beq C r&&Nat.beq D j then some ()else none
 |.fp t o,.gW cs=>bif Nat.blt o 2 then dec t o cs else none
 |.fc f t,.kA E cs=>bif Nat.beq E f then dec t 0 cs else none
 | .ag t,.agg cs=>(match uQ cs with
  |some I=>dec t 0 I
  |none=>none)
 |.pk r n,.pk C J=>bif Nat.beq C r&&Nat.beq J n then some ()else none
 |_,_=>none
def Ie:aa Lm->Type
 |[]=>af
 |m::C=>m.T×Ie C
def wS:(C:aa Lm)->Ie C->aa Lf
 |[],_=>[]
 |m::C,x=>m.mk x.1::wS C x.2
def Ol:(C:aa Lm)->aa Lf->ah (Ie C)
 |[],[]=>some ()
 | m :: C,x :: xs=>match m.rd x,Ol C xs with
  |some y,some ys=>some (y,ys)
  |_,_=>none
 |_,_=>none
inductive Rm where
 |sl (t:TC) (o:Nat)
 |st (t:TC)
 |aB (ms:List Lm)
 |mp
def Rm.T:Rm->Type
 |.sl t _=>aa (Proofs.YtglnbhiaknohlaaGreat.T t)
 |.st t=>Proofs.YtglnbhiaknohlaaGreat.T t
 |.aB C=>Ie C
 |.mp=>aa (Int×Bool)
def Rm.mk:(m:Rm)->m.T->aY
 |.sl t o,l=>.sl (.sl t o false l)
 |.st t,x=>.aB ((enc t 0 x).map .v)
 |.aB C,x=>.aB (wS C x)
 |.mp,l=>.mp l
def Rm.rd:(m:Rm)->aY->ah m.T
 |.sl t o,.sl y=>y.dP t o
 | .st t,.aB cs=>(match uQ cs with
  |some C=>dec t 0 C
  |none=>none)
 |.aB D,.aB cs=>Ol D cs
 |.mp,.mp l=>some l
 |_,_=>none
def Ef:aa (Nat×Tm)->Type
 |[]=>af
 |(_,m)::C=>m.T×Ef C
def wT:(C:aa (Nat×Tm))->Ef C->Nat->A
 |[],_,_=>.undef
 |(n,m)::C,x,k=>bif Nat.beq k n then m.mk x.1 else wT C x.2 k
def Ig:(C:aa (Nat×Tm))->(Nat->A)->ah (Ef C)
 |[],_=>some ()
 | (n,m) :: C,t=>match m.rd (t n),Ig C t with
  |some x,some xs=>some (x,xs)
  |_,_=>none
def wU:aa (Nat×Rm)->Type
 |[]=>af
 |(_,m)::C=>m.T×wU C
def wV:(C:aa (Nat×Rm))->wU C->Nat->ah aY
 |[],_,_=>none
 |(n,m)::C,x,k=>bif Nat.beq k n then some (m.mk x.1)else wV C x.2 k
def Eg:(C:aa (Nat×Rm))->(Nat->ah aY)->ah (wU C)
 |[],_=>some ()
 | (n,m) :: C,t=>match (t n).bind m.rd,Eg C t with
  |some x,some xs=>some (x,xs)
  |_,_=>none
structure jt where
 ts:List (Nat×Tm)
 rs:List (Nat×Rm)
def jt.St(C:jt):Type:=Ef C.ts×wU C.rs
def jt.mk'(C:jt)(x:C.St):S:=⟨wT C.ts x.1,wV C.rs x.2⟩
def jt.Om(C:jt)(σ:S):ah C.St:=match Ig C.ts σ.t,Eg C.rs σ.m with
 |some x,some y=>some (x,y)
 |_,_=>none
/-! Roots by other names. -/
abbrev Rn:=aa (Nat×Nat)
def Rn.inv(rs:Rn)(n:Nat):ah Nat:=(rs.find? λp=>Nat.beq p.2 n).map (·.1)
def Rn.add(rs:Rn)(r n:Nat):Rn:=bif rs.any (λp=>Nat.beq p.1 r&&Nat.beq p.2 n)then rs else (r,n)::rs
def WA(n:Nat):ah Nat->Bool
 |some m=>Nat.beq m n
 |none=>false
def Rn.ok(rs:Rn):Bool:=rs.all λp=>(Nat.beq p.1 p.2 ||Nat.ble 60000 p.2)&&WA p.2 (rs.lookup p.1)&&WA p.1 (rs.inv p.2)
def Lf.en(rs:Rn):Lf->Lf
 |.v x=>.v x
 | .own [r]=>(match rs.lookup r with
  |some n=>.own [n]
  |none=>.dead)
 |_=>.dead
def A.en(rs:Rn):A->A
 |.lf x=>.lf (x.en rs)
 | .aG r j=>(match rs.lookup r with
  |some n=>.aG n j
  |none=>.undef)
 |.gW cs=>.gW cs
 |.kA f cs=>.kA f cs
 |.agg cs=>.agg (cs.map (Lf.en rs))
 |_=>.undef
def aY.en(rs:Rn):aY->aY
 |.aB cs=>.aB (cs.map (Lf.en rs))
 |.sl y=>.sl y
 |.mp l=>.mp l
 |.gh _=>.gh []
def S.en(rs:Rn)(σ:S):S:=⟨λk=>(σ.t k).en rs,λn=>match rs.inv n with
 |some r=>(σ.m r).map (aY.en rs)
 |none=>none⟩
def rnL:Lm->Lf->Rn->Rn
 |.own n,.own [r],rs=>rs.add r n
 |_,_,rs=>rs
def WB:aa Lm->aa Lf->Rn->Rn
 |m::C,x::xs,rs=>WB C xs (rnL m x rs)
 |_,_,rs=>rs
def rnT:Tm->A->Rn->Rn
 |.lf m,.lf x,rs=>rnL m x rs
 |.aG n j,.aG r C,rs=>rs.add r n
 |_,_,rs=>rs
def ac3(t:Nat->A):aa (Nat×Tm)->Rn->Rn
 |[],rs=>rs
 |(k,m)::C,rs=>ac3 t C (rnT m (t k) rs)
def ac4(m:Nat->ah aY):aa (Nat×Rm)->Rn->Rn
 |[],rs=>rs
 | (n,x) :: xs,rs=>ac4 m xs (match x,rs.inv n with
  | .aB C,some r=>(match m r with
   |some (.aB cs)=>WB C cs rs
   |_=>rs)
  | .aB C,none=>(match m n with
   |some (.aB cs)=>WB C cs (rs.add n n)
   |_=>rs)
  |_,some _=>rs
  |_,none=>rs.add n n)
def jt.rn(C:jt)(σ:S):Rn:=ac4 σ.m C.rs (ac3 σ.t C.ts [])
def WC(rs:aa (Nat×Rm))(p:Nat×Tm)(σ:S):S:=match p.2,σ.t p.1 with
 | .lf (.own n),.lf (.v .nil)=>(match rs.lookup n with
  |some (.sl t o)=>bif Nat.ble 60000 n then ⟨bW ((σ.drop n).root n (.sl (.sl t o false []))).t p.1 (.lf (.own [n])),((σ.drop n).root n (.sl (.sl t o false []))).m⟩else σ
  |_=>σ)
 |_,_=>σ
def On(rs:aa (Nat×Rm)):aa (Nat×Tm)->S->S
 |[],σ=>σ
 |p::ps,σ=>On rs ps (WC rs p σ)
def WD(n j r:Nat)(σ:S):S:=match σ.m r with
 | some (.aB cs)=>(match cs[j]? with
  |some (.v .nil)=>⟨σ.t,bW σ.m r (some (.aB (cs.set j (.own [n]))))⟩
  |_=>σ)
 |_=>σ
def WE(rs:aa (Nat×Rm))(n j r:Nat)(σ:S):S:=match rs.lookup n with
 |some (.sl t o)=>bif Nat.ble 60000 n then WD n j r ((σ.drop n).root n (.sl (.sl t o false [])))else σ
 |_=>σ
def BO(rs:aa (Nat×Rm))(r:Nat):Nat->aa Lm->aa Lf->S->S
 |j,.own n::C,.v .nil::cs,σ=>BO rs r (j+1) C cs (WE rs n j r σ)
 |j,_::C,_::cs,σ=>BO rs r (j+1) C cs σ
 |_,_,_,σ=>σ
def Oo(rs:aa (Nat×Rm)):aa (Nat×Rm)->S->S
 |[],σ=>σ
 | (r,.aB C) :: ps,σ=>Oo rs ps (match σ.m r with
  |some (.aB cs)=>BO rs r 0 C cs σ
  |_=>σ)
 |_::ps,σ=>Oo rs ps σ
def jt.rd1(C:jt)(σ:S):ah C.St:=bif (C.rn σ).ok then C.Om (Oo C.rs C.rs (σ.en (C.rn σ)))else none
def jt.rd(C:jt)(σ:S):ah C.St:=match C.Om σ with
 |some x=>some x
 |none=>C.rd1 (On C.rs C.ts σ)
section
variable {P:Program} {w w':World} {w0:Wd} {B N:Nat} {aj aE:bG} {ρ ρ':Nat->Loc} {σ:S} {a:Act} {X:Type} {d:Nat} {r:X} {o:Oper} {Φ:eo} {Λ:mS}
def Lm.qv{m:Lm}{x:Lf}{y:m.T}(h:m.rd x=some y){u:Value}(C:dA w B aj ρ x u):dA w B aj ρ (m.mk y) u:=by
 unfold Lm.rd at h;split at h
 ·split at h
  next D=>subst D;injection h with h;subst h;exact C
  ·cases h
 ·injection h with h;subst h;exact C
 ·injection h with h;subst h;exact C
 ·rename_i E I;cases hb:Nat.beq I E with
  |false=>simp_all
  |true=>obtain rfl:=cD hb;exact C
 ·rename_i t o x;cases hb:Nat.blt o 2 with
  |false=>rw[hb]at h;cases h
  | true=>
   rw[hb]at h;have:=cL hb;exact⟨by simp[V.aD];omega,C.2.wk (V.dX h)⟩
 ·cases h
def Tm.qv{m:Tm}{x:A}{y:m.T}(h:m.rd x=some y){u:Value}(I:RA w B aj ρ x u):RA w B aj ρ (m.mk y) u:=by
 cases m with
 | lf m=>
  cases x with
  |lf x=>exact Lm.qv h I
  |_=>cases h
 | aG r j=>
  cases x with
  | aG L j'=>
   have h:(bif Nat.beq L r&&Nat.beq j' j then some ()else none)=some y:=h;cases hb:(Nat.beq L r&&Nat.beq j' j)with
   |false=>simp_all
   | true=>
    rw[aO]at hb;obtain rfl:=cD hb.1;obtain rfl:=cD hb.2;exact I
  |_=>cases h
 | fp t o=>
  cases x with
  | gW cs=>
   have h:(bif Nat.blt o 2 then dec t o cs else none)=some y:=h;cases hb:Nat.blt o 2 with
   |false=>simp_all
   | true=>
    rw[hb,ak]at h;have ho:=cL hb;have D:=lQ t o cs y h;obtain⟨b,off,O,Q,U,h4⟩:=I
    refine⟨b,off,O,Q,U,λj z C=>?_⟩
    have Y:j<cs.length:=by rw[D.1];exact(dW.1 C).1
    have E:=bX Y;obtain⟨g1,v,Z,g3⟩:=h4 j _ E;exact⟨jB t o y (by omega) j z C,v,Z,g3.wk (D.2 j _ z E C)⟩
  |_=>cases h
 | fc f t=>
  cases x with
  | kA f' cs=>
   have h:(bif Nat.beq f' f then dec t 0 cs else none)=some y:=h;cases hb:Nat.beq f' f with
   |false=>simp_all
   | true=>
    rw[hb,ak]at h;obtain rfl:=cD hb;have D:=lQ t 0 cs y h;obtain⟨pv,e0,b,off,O,Q,U,h4⟩:=I
    refine⟨pv,e0,b,off,O,Q,U,λj z C=>?_⟩
    have Y:j<cs.length:=by rw[D.1];exact(dW.1 C).1
    have E:=bX Y;obtain⟨g1,v,Z,g3⟩:=h4 j _ E;exact⟨jB t 0 y (by omega) j z C,v,Z,g3.wk (D.2 j _ z E C)⟩
  |_=>cases h
 | ag t=>
  cases x with
  | agg cs=>
   have h:(match uQ cs with|some J=>dec t 0 J|none=>none)=some y:=h;cases lT:uQ cs with
   |none=>simp_all
   | some J=>
    rw[lT]at h;have h:dec t 0 J=some y:=h;have jN:=Nd _ _ lT;have D:=lQ t 0 J y h;obtain⟨us,O,Q,U⟩:=I
    refine⟨us,O,?_,λj x hx=>?_⟩
    ·rw[Q,jN,dB,dB,D.1]
    ·rw[dz]at hx;cases C:(enc t 0 y)[j]? with
     |none=>simp_all
     | some z=>
      rw[C]at hx;injection hx with hx;subst hx;have Y:j<J.length:=by rw[D.1];exact(dW.1 C).1
      have E:=bX Y;obtain⟨v,g1,Z⟩:=U j (.v J[j]) (by rw[jN,dz,E];rfl);exact⟨v,g1,jB t 0 y (by omega) j z C,Z.2.wk (D.2 j _ z E C)⟩
  |_=>cases h
 | pk r n=>
  cases x with
  | pk L n'=>
   have h:(bif Nat.beq L r&&Nat.beq n' n then some ()else none)=some y:=h;cases hb:(Nat.beq L r&&Nat.beq n' n)with
   |false=>simp_all
   | true=>
    rw[aO]at hb;obtain rfl:=cD hb.1;obtain rfl:=cD hb.2;exact I
  |_=>cases h
def ac5:∀ (C:aa Lm) (cs:aa Lf) (y:Ie C),Ol C cs=some y -> (wS C y).length=cs.length /\ ∀ (j:Nat) x,(wS C y)[j]?=some x -> ∃ z,cs[j]?=some z/\(∀ (w:World) (B:Nat) (aj:bG) (ρ:Nat -> Loc) (u:Value),dA w B aj ρ z u -> dA w B aj ρ x u)
 |[],[],y,h=>⟨rfl,λj x D=>by simp[wS]at D⟩
 | m :: C,c :: cs,y,h=>by
  unfold Ol at h;split at h
  ·rename_i Q ys E I;injection h with h;subst h;obtain⟨J,L⟩:=ac5 C cs ys I
   refine⟨by simp[wS,J],λj x D=>?_⟩
   cases j with
   |zero=>simp[wS]at D;subst D;exact⟨c,rfl,λw B aj ρ u O=>Lm.qv E O⟩
   |succ j=>exact L j x (by simpa [wS]using D)
  ·cases h
def Rm.qv{m:Rm}{x:aY}{y:m.T}(h:m.rd x=some y){n:Nat}(C:eF w B aj ρ n x):eF w B aj ρ n (m.mk y):=by
 cases m with
 | sl t o=>
  cases C with
  |sl v y' D hr=>exact .sl v _ D (hr.wk (V.dX h))
  |aB=>cases h
  |mp=>cases h
  |gh=>cases h
 | mp=>
  cases C with
  |gh=>cases h
  |sl=>cases h
  |aB=>cases h
  |mp b c es l D hl I he=>injection h with h;subst h;exact .mp b c es _ D hl I he
 | st t=>
  cases C with
  |sl=>cases h
  |mp=>cases h
  |gh=>cases h
  | aB b off cells e cs us D hl I J Q=>
   have h:(match uQ cs with|some E=>dec t 0 E|none=>none)=some y:=h;cases U:uQ cs with
   |none=>simp_all
   | some E=>
    rw[U]at h;have h:dec t 0 E=some y:=h;have Y:=Nd _ _ U;have O:=lQ t 0 E y h
    refine .aB b off cells e _ us D hl I (by rw[dB,<- O.1];rw[Y,dB]at J;exact J) λj x C=>?_
    rw[dz]at C;cases L:(enc t 0 y)[j]? with
    |none=>simp_all
    | some z=>
     rw[L]at C;injection C with C;subst C;have hj:j<E.length:=by rw[O.1];exact(dW.1 L).1
     have Z:=bX hj;obtain⟨h1,h2⟩:=Q j (.v E[j]) (by rw[Y,dz,Z];rfl);exact⟨h1,jB t 0 y (by omega) j z L,h2.2.wk (O.2 j _ z Z L)⟩
 | aB ms=>
  cases C with
  |sl=>cases h
  |mp=>cases h
  |gh=>cases h
  | aB b off cells e cs us D hl I J Q=>
   obtain⟨k1,k2⟩:=ac5 ms cs y h
   refine .aB b off cells e _ us D hl I (by show off+(wS ms y).length <= _;rw[k1];exact J) λj x C=>?_
   grind
def WG:∀ (C:aa (Nat×Tm)) (t:Nat -> A) (y:Ef C),Ig C t=some y -> ∀ k,wT C y k = .undef \/ ∃ m z,(Tm.rd m (t k)=some z/\wT C y k=m.mk z)
 |[],t,y,h,k=>.inl rfl
 | (n,m) :: C,t,y,h,k=>by
  unfold Ig at h;split at h
  ·rename_i x xs D E;injection h with h;subst h;by_cases I:k=n
   ·subst I;exact .inr ⟨m,x,D,by simp[wT]⟩
   ·have hb:Nat.beq k n=false:=by
     cases hb:Nat.beq k n with
     |false=>rfl
     |true=>simp_all
    simp only[wT,hb,au];exact WG C t xs E k
  ·cases h
def WH:∀ (C:aa (Nat×Rm)) (t:Nat -> ah aY) (y:wU C),Eg C t=some y -> ∀ k,wV C y k=none \/ ∃ m x z,t k=some x/\Rm.rd m x=some z/\wV C y k=some (m.mk z)
 |[],t,y,h,k=>.inl rfl
 | (n,m) :: C,t,y,h,k=>by
  unfold Eg at h;split at h
  ·rename_i x xs D E;injection h with h;subst h;by_cases I:k=n
   ·subst I;cases J:t k with
    |none=>simp_all
    |some z=>rw[J]at D;exact .inr ⟨m,z,x,rfl,D,by simp[wV]⟩
   ·have hb:Nat.beq k n=false:=by
     cases hb:Nat.beq k n with
     |false=>rfl
     |true=>simp_all
    simp only[wV,hb,au];exact WH C t xs E k
  ·cases h
def jt.ac6{C:jt}{x:C.St}(h:C.Om σ=some x)(hR:R w0 N σ a w):R w0 N (C.mk' x) a w:=by
 unfold jt.Om at h;split at h
 ·rename_i u v J L;injection h with h;subst h;obtain⟨aj,ρ,hR⟩:=hR
  refine⟨aj,ρ,hR.below,hR.cX,λn y D=>?_,λk=>?_,hR.size,hR.defers,hR.fix,hR.dx⟩
  ·have D:wV C.rs v n=some y:=D;rcases WH C.rs σ.m v L n with e | ⟨m,x,z,E,I,O⟩
   ·simp_all
   ·rw[O]at D;injection D with D;subst D;exact Rm.qv I (hR.root n x E)
  ·show RA _ _ _ _ (wT C.ts u k) _;rcases WG C.ts σ.t u J k with e | ⟨m,z,E,I⟩
   ·rw[e];trivial
   ·rw[I];exact Tm.qv E (hR.tmp k)
 ·cases h
def ac7{n:Nat}{o:ah Nat}(h:WA n o=true):o=some n:=by
 cases o with
 |none=>cases h
 |some m=>rw[cD h]
def ac8{rs:Rn}{r n:Nat}(h:rs.lookup r=some n):(r,n)∈rs:=by
 induction rs with
 |nil=>cases h
 |cons p rs C =>grind
def ac9{rs:Rn}{r n:Nat}(h:rs.inv n=some r):(r,n)∈rs:=by
 unfold Rn.inv at h;cases C:rs.find? _ with
 |none=>rw[C]at h;cases h
 | some p=>
  rw[C]at h;injection h with h;subst h;have D:=List.find?_some C;have E:=List.mem_of_find?_eq_some C;rw[<- cD D];exact E
def Rn.eC(rs:Rn)(ρ:Nat->Loc):Nat->Loc:=λn=>match rs.inv n with
 |some r=>ρ r
 |none=>ρ n
def Rn.Oq{rs:Rn}(h:rs.ok=true){r n:Nat}(C:(r,n)∈rs):(r=n \/ 60000 <= n)/\rs.lookup r=some n/\rs.inv n=some r:=by
 have:=cI.1 h _ C;rw[aO,aO,eB]at this;refine⟨?_,ac7 this.1.2,ac7 this.2⟩;simp_all
def dA.en{rs:Rn}(C:rs.ok=true){x:Lf}{u:Value}(h:dA w B aj ρ x u):dA w B (eG aj rs id) (rs.eC ρ) (x.en rs) u:=by
 unfold Lf.en;split
 ·exact⟨h.1,h.2.Hl h.1 λb=>wE⟩
 ·rename_i r;split
  next n D=>have hi:=(Rn.Oq C (ac8 D)).2.2;refine⟨h.1,?_⟩;have E:=h.2;simp[cN]at E ⊢;unfold Rn.eC;simp_all
  ·trivial
 ·trivial
def Rl.en{rs:Rn}(J:rs.ok=true)(h:Rl w0 N aj ρ σ a w):Rl w0 N (eG aj rs id) (rs.eC ρ) (σ.en rs) a w:=by
 have hl:∀ b r n,aj b=some [r] -> rs.lookup r=some n -> eG aj rs id b=some [n]:=by
  intro b r n E I;simp[eG,E,I]
 refine⟨h.below,λb k D=>?_,λn x C=>?_,λk=>?_,h.size,h.defers,λr l O=>?_,h.dx⟩
 ·unfold eG at D;split at D
  ·cases D
  ·rename_i k0 DW;split at D
   ·cases D
   ·rename_i r O;cases Z:rs.lookup r with
    |none=>grind
    | some n=>
     rw[Z]at D;injection D with D;subst D;obtain⟨E,I,_⟩:=h.cX b k0 DW;simp_all
 ·have C:(match rs.inv n with | some r=>(σ.m r).map (aY.en rs) | none=>none)=some x:=C;cases hi:rs.inv n with
  |none=>grind
  | some r=>
   rw[hi]at C;have C:(σ.m r).map (aY.en rs)=some x:=C;have zc:=(Rn.Oq J (ac9 hi)).2.1;have Y:rs.eC ρ n=ρ r:=by unfold Rn.eC;rw[hi]
   cases hm:σ.m r with
   |none=>grind
   | some y=>
    rw[hm]at C;injection C with C;subst C;cases h.root r y hm with
    | aB b off cells e cs us E I hh hs hc=>
     refine .aB b off cells e _ us (Y.trans E) (hl b r n I zc) hh (by rw[dB];exact hs) λj x C=>?_
     rw[dz]at C;cases L:cs[j]? with
     |none=>grind
     | some z=>
      rw[L]at C;injection C with C;subst C;exact⟨(hc j z L).1,(hc j z L).2.en J⟩
    | sl v y E I=>
     exact .sl v y (Y.trans E) (RV.eG (p:=[]) (nm:=id) I zc)
    |mp b c es l E I hh he=>exact .mp b c es l (Y.trans E) (hl b r n I zc) hh he
    |gh us xs E C=>exact .gh us _ (Y.trans E) λj x hj=>by simp at hj
 ·show RA _ _ _ _ ((σ.t k).en rs) _;have D:=h.tmp k;generalize σ.t k=x at D;unfold A.en;split
  ·exact D.en J
  ·rename_i r j;split
   next n Z=>have hi:=(Rn.Oq J (ac8 Z)).2.2;obtain⟨b,off,E,I⟩:=D;exact⟨b,off,by unfold Rn.eC;rw[hi];exact E,I⟩
   ·trivial
  ·obtain⟨b,off,Q,T,U,g4⟩:=D
   refine⟨b,off,Q,T,wE U,λj x C=>?_⟩
   obtain⟨f1,v,f2,f3⟩:=g4 j x C;exact⟨f1,v,f2,f3.Hl f1 λb=>wE⟩
  ·obtain⟨pv,e0,b,off,Q,T,U,g4⟩:=D
   refine⟨pv,e0,b,off,Q,T,wE U,λj x C=>?_⟩
   obtain⟨f1,v,f2,f3⟩:=g4 j x C;exact⟨f1,v,f2,f3.Hl f1 λb=>wE⟩
  ·obtain⟨us,Q,T,U⟩:=D
   refine⟨us,Q,by rw[dB];exact T,λj x C=>?_⟩
   rw[dz]at C;rename_i cs;cases L:cs[j]? with
   |none=>grind
   | some z=>
    rw[L]at C;injection C with C;subst C;obtain⟨v,f1,f2⟩:=U j z L;exact⟨v,f1,f2.en J⟩
  ·trivial
 ·show rs.eC ρ r=l;unfold Rn.eC;split
  ·rename_i r0 hi;rcases(Rn.Oq J (ac9 hi)).1 with e | e
   ·rw[e];exact h.fix r l O
   ·rw[h.dx r (.inr e)]at O;cases O
  ·exact h.fix r l O
def ap0{rs:aa (Nat×Rm)}{p:Nat×Tm}(hR:R w0 N σ a w):R w0 N (WC rs p σ) a w:=by
 unfold WC;split
 ·rename_i n Q J;split
  ·rename_i t o hl;cases hb:Nat.ble 60000 n with
   |false=>exact hR
   | true=>
    have L:=cL hb;obtain⟨aj,ρ,hR⟩:=hR;have D:=hR.tmp p.1;rw[J]at D;have O:a.tmps.getD p.1 undef = .slice none 0 0:=by
     have E:=D.2;generalize a.tmps.getD p.1 undef=u at E;cases E;rfl
    have C:=hR.new (d:=n) (x:=.sl (.sl t o false [])) (.dM (.slice none 0 0)) (.sl _ _ (ck _ _ _) (.cS _ _ _)) (hR.dx n (.inr L))
    refine⟨aj,_,C.below,C.cX,C.root,λk=>?_,C.size,C.defers,C.fix,C.dx⟩
    show RA _ _ _ _ (bW ((σ.drop n).root n (.sl (.sl t o false []))).t p.1 (.lf (.own [n])) k) _;by_cases I:k=p.1
    ·subst I;rw[ck,O];exact⟨rfl,by simp[cN,ck]⟩
    ·rw[cB _ _ _ I];exact C.tmp k
  ·exact hR
 ·exact hR
def ap1{n j r:Nat}{y:V}(hR:Rl w0 N aj ρ σ a w)(O:ρ n = .dM (.slice none 0 0)):Rl w0 N aj ρ (WD n j r σ) a w:=by
 unfold WD;split
 ·rename_i cs Q;split
  ·rename_i J
   refine⟨hR.below,hR.cX,λE x C=>?_,hR.tmp,hR.size,hR.defers,hR.fix,hR.dx⟩
   have C:bW σ.m r (some (.aB (cs.set j (.own [n])))) E=some x:=C;by_cases L:E=r
   ·subst L;rw[ck]at C;injection C with C;subst C;cases hR.root E _ Q with
    | aB b off cells e cs us T I U Y Z=>
     refine .aB b off cells e _ us T I U (by rw[jk];exact Y) λi z D=>?_
     rw[List.getElem?_set]at D;by_cases hi:j=i
     ·subst hi;have ei:j<cs.length:=(dW.1 J).1;rw[bA rfl,bA ei]at D;injection D with D;subst D;obtain⟨k1,k2⟩:=Z j _ J;refine⟨k1,?_⟩;have hu:us j = .slice none 0 0:=by
       have I:=k2.2;generalize us j=u at I;cases I;rfl
      rw[hu];exact⟨rfl,by simp only[cN,O]⟩
     ·grind
   ·rw[cB _ _ _ L]at C;exact hR.root E x C
  ·exact hR
 ·exact hR
def ap2{rs:aa (Nat×Rm)}{n j r:Nat}(hR:R w0 N σ a w):R w0 N (WE rs n j r σ) a w:=by
 unfold WE;split
 ·rename_i t o hl;cases hb:Nat.ble 60000 n with
  |false=>exact hR
  | true=>
   have C:=cL hb;obtain⟨aj,ρ,hR⟩:=hR;exact⟨aj,_,ap1 (y:=.nil) (hR.new _ (.sl _ _ (ck _ _ _) (.cS _ _ _)) (hR.dx n (.inr C))) (ck _ _ _)⟩
 ·exact hR
def WI{rs:aa (Nat×Rm)}{r:Nat}:∀ (C:aa Lm) (cs:aa Lf) (j:Nat) (σ:S),R w0 N σ a w -> R w0 N (BO rs r j C cs σ) a w
 |[],cs,j,σ,h=>by unfold BO;exact h
 | m :: C,[],j,σ,h=>by
  unfold BO;simp_all
 | m :: C,c :: cs,j,σ,h=>by
  unfold BO;split
  next D E=>cases D;cases E;exact WI C cs _ _ (ap2 h)
  next D E=>cases D;cases E;exact WI C cs _ _ h
  ·exact h
def Ih{rs:aa (Nat×Rm)}:∀ (ps:aa (Nat×Rm)) (σ:S),R w0 N σ a w -> R w0 N (Oo rs ps σ) a w
 |[],σ,h=>h
 |(r,.sl t o)::ps,σ,h=>Ih ps σ h
 |(r,.st t)::ps,σ,h=>Ih ps σ h
 |(r,.mp)::ps,σ,h=>Ih ps σ h
 | (r,.aB C) :: ps,σ,h=>by
  refine Ih ps _ ?_;split
  ·exact WI C _ 0 σ h
  ·exact h
def ada{rs:aa (Nat×Rm)}:∀ (ps:aa (Nat×Tm)) (σ:S),R w0 N σ a w->R w0 N (On rs ps σ) a w
 |[],σ,h=>h
 |p::ps,σ,h=>ada ps _ (ap0 h)
def jt.qv{C:jt}{x:C.St}(h:C.rd σ=some x)(hR:R w0 N σ a w):R w0 N (C.mk' x) a w:=by
 unfold jt.rd at h;split at h
 next y D=>injection h with h;subst h;exact jt.ac6 D hR
 ·have hR:=ada (rs:=C.rs) C.ts σ hR;revert h hR;generalize On C.rs C.ts σ=E;intro h hR;unfold jt.rd1 at h;cases hb:(C.rn E).ok with
  |false=>simp_all
  | true=>
   rw[hb,ak]at h;obtain⟨aj,ρ,hR⟩:=hR;exact jt.ac6 h (Ih C.rs _ ⟨_,_,hR.en hb⟩)
end
def wW:aa V->aa Nat->aa Lf
 |[],_=>[]
 | x :: xs,ns=>bif x.plain then .v x :: wW xs ns else (match ns with
  |n::ns=>.own [n]::wW xs ns
  |[]=>.dead::wW xs [])
def BP:aa V->aa Nat->(Nat->ah aY)->Nat->ah aY
 |[],_,m,k=>m k
 | x :: xs,ns,m,k=>bif x.plain then BP xs ns m k else (match ns with
  |n::ns=>bif Nat.beq k n then some (.sl x)else BP xs ns m k
  |[]=>BP xs [] m k)
def kD(m:Nat->ah aY):aa Lf->aa Nat->ah (aa V)
 |[],[]=>some []
 | .v x :: cs,ns=>bif x.plain then (match kD m cs ns with
  |some C=>some (x::C)
  |none=>none)else none
 | .own [r] :: cs,n :: ns=>bif Nat.beq r n then (match m n with
  | some (.sl y)=>bif y.plain then none else (match kD m cs ns with
   |some C=>some (y::C)
   |none=>none)
  |_=>none)else none
 |_,_=>none
abbrev Gp:=Nat×TC×Nat×aa Nat
def Ii:aa Gp->Type->Type
 |[],X=>X
 |g::gs,X=>T g.2.1×Ii gs X
def Ot:(gs:aa Gp)->(rs:aa (Nat×Rm))->Ii gs (wU rs)->Nat->ah aY
 |[],rs,x,k=>wV rs x k
 |(n,t,o,ns)::gs,rs,x,k=>bif Nat.beq k n then some (.aB (wW (enc t o x.1) ns))else BP (enc t o x.1) ns (Ot gs rs x.2) k
def Ou:(gs:aa Gp)->(rs:aa (Nat×Rm))->(Nat->ah aY)->ah (Ii gs (wU rs))
 |[],rs,m=>Eg rs m
 | (n,t,o,ns) :: gs,rs,m=>match m n with
  | some (.aB cs)=>(match kD m cs ns with
   | some C=>(match dec t o C,Ou gs rs m with
    |some x,some y=>some (x,y)
    |_,_=>none)
   |none=>none)
  |_=>none
def Eh:aa V->aa Nat->aa Lm
 |[],_=>[]
 |.int k _::xs,ns=>.int k::Eh xs ns
 |.bool _::xs,ns=>.bool::Eh xs ns
 |.str _::xs,ns=>.str::Eh xs ns
 |_::xs,n::ns=>.own n::Eh xs ns
 |_::xs,[]=>.bool::Eh xs []
def WJ:aa V->aa Nat->aa (Nat×Rm)
 |.sl t o _ _::xs,n::ns=>(n,.sl t o)::WJ xs ns
 |_::xs,ns=>WJ xs ns
 |[],_=>[]
def WK:aa Gp->aa (Nat×Rm)->aa (Nat×Rm)
 |[],rs=>rs
 |(n,t,o,ns)::gs,rs=>(n,.aB (Eh (shp t o) ns))::(WJ (shp t o) ns++WK gs rs)
structure bJ where
 ts:List (Nat×Tm)
 rs:List (Nat×Rm)
 gs:List Gp
def bJ.St(C:bJ):Type:=Ef C.ts×Ii C.gs (wU C.rs)
def bJ.mk'(C:bJ)(x:C.St):S:=⟨wT C.ts x.1,Ot C.gs C.rs x.2⟩
def bJ.Ov(C:bJ)(σ:S):ah C.St:=match Ig C.ts σ.t,Ou C.gs C.rs σ.m with
 |some x,some y=>some (x,y)
 |_,_=>none
def bJ.rd(C:bJ)(σ:S):ah C.St:=match C.Ov σ with
 |some x=>some x
 | none=>match jt.rd ⟨C.ts,WK C.gs C.rs⟩ σ with
  |some z=>C.Ov (jt.mk' ⟨C.ts,WK C.gs C.rs⟩ z)
  |none=>none
section
variable {P:Program} {w w':World} {w0:Wd} {B N:Nat} {aj aE:bG} {ρ ρ':Nat->Loc} {σ:S} {a:Act} {m:Nat->ah aY}
def bZ.inv{x:V}{xs ys:aa V}(k:bZ (x :: xs) ys):∃ y C,ys=y :: C/\Wk x y/\bZ xs C:=by
 obtain⟨D,E⟩:=k;cases ys with
 |nil=>simp at D
 |cons y C=>exact⟨y,C,rfl,E 0 x y rfl rfl,by simpa using D,λj a b I hb=>E (j+1) a b (by simpa using I) (by simpa using hb)⟩
def Wk.adb{x y:V}(h:Wk x y)(C:x.plain=true):y=x:=by
 cases h<;>first|rfl|cases C
def Wk.ade{x y:V}(h:Wk x y)(C:x.plain=false):y.plain=false:=by
 cases h<;>first|exact C|rfl
def WL:∀ (cs:aa Lf) (ns:aa Nat) (C ys:aa V),kD m cs ns=some C -> bZ C ys -> (wW ys ns).length=cs.length /\ ∀ (j:Nat) z,(wW ys ns)[j]?=some z -> cs[j]?=some z
 | [],[],C,ys,h,E=>by
  simp only[kD,iE]at h;subst h;have:ys=[]:=List.eq_nil_of_length_eq_zero E.1.symm;subst this;exact⟨rfl,λj z I=>by simp[wW]at I⟩
 | .v x :: cs,ns,C,ys,h,E=>by
  unfold kD at h;cases D:x.plain with
  |false=>simp_all
  | true=>
   rw[D,ak]at h;split at h
   ·rename_i us J;injection h with h;subst h;obtain⟨y,L,rfl,O,Q⟩:=E.inv;obtain rfl:=O.adb D;obtain⟨T,U⟩:=WL cs ns us L J Q;simp only[wW,D,ak]
    refine⟨by simp[T],λj z I=>?_⟩
    cases j with
    |zero=>simp_all
    |succ j=>simp_all
   ·cases h
 | .own [r] :: cs,n :: ns,C,ys,h,E=>by
  unfold kD at h;cases hb:Nat.beq r n with
  |false=>simp_all
  | true=>
   rw[hb,ak]at h;obtain rfl:=cD hb;split at h
   ·rename_i y Z;cases D:y.plain with
    |true=>simp_all
    | false=>
     rw[D,au]at h;split at h
     ·rename_i us J;injection h with h;subst h;obtain⟨y',L,rfl,O,Q⟩:=E.inv;have Y:=O.ade D;obtain⟨T,U⟩:=WL cs ns us L J Q;simp only[wW,Y,au]
      refine⟨by simp[T],λj z I=>?_⟩
      cases j with
      |zero=>simp_all
      |succ j=>simp_all
     ·cases h
   ·cases h
 |[],_::_,C,ys,h,_=>by simp[kD]at h
 |.dead::_,_,C,ys,h,_=>by simp[kD]at h
 |.own []::_,_,C,ys,h,_=>by simp[kD]at h
 |.own (_::_::_)::_,_,C,ys,h,_=>by simp[kD]at h
 |.own [_]::_,[],C,ys,h,_=>by simp[kD]at h
def WM{f:Nat -> ah aY}{k:Nat}{x:aY}:∀ (cs:aa Lf) (ns:aa Nat) (D ys:aa V),kD m cs ns=some D -> bZ D ys -> BP ys ns f k=some x -> f k=some x \/ ∃ v y,m k=some (.sl v)/\x = .sl y/\Wk v y
 | [],[],D,ys,h,I,C=>by
  simp only[kD,iE]at h;subst h;have:ys=[]:=List.eq_nil_of_length_eq_zero I.1.symm;subst this;exact .inl C
 | .v U :: cs,ns,D,ys,h,I,C=>by
  unfold kD at h;cases E:U.plain with
  |false=>simp_all
  | true=>
   rw[E,ak]at h;split at h
   next us J=>injection h with h;subst h;obtain⟨y,L,rfl,O,Q⟩:=I.inv;obtain rfl:=O.adb E;simp[BP,E]at C;exact WM cs ns us L J Q C
   ·cases h
 | .own [r] :: cs,n :: ns,D,ys,h,I,C=>by
  unfold kD at h;cases hb:Nat.beq r n with
  |false=>simp_all
  | true=>
   rw[hb,ak]at h;obtain rfl:=cD hb;split at h
   ·rename_i y Z;cases E:y.plain with
    |true=>simp_all
    | false=>
     rw[E,au]at h;split at h
     ·rename_i us J;injection h with h;subst h;obtain⟨y',L,rfl,O,Q⟩:=I.inv;have Y:=O.ade E;simp only[BP,Y,au]at C;cases T:Nat.beq k r with
      | true=>
       rw[T]at C;injection C with C;obtain rfl:=cD T
       grind
      | false=>
       rw[T]at C;exact WM cs ns us L J Q C
     ·cases h
   ·cases h
 |[],_::_,D,ys,h,_,_=>by simp[kD]at h
 |.dead::_,_,D,ys,h,_,_=>by simp[kD]at h
 |.own []::_,_,D,ys,h,_,_=>by simp[kD]at h
 |.own (_::_::_)::_,_,D,ys,h,_,_=>by simp[kD]at h
 |.own [_]::_,[],D,ys,h,_,_=>by simp[kD]at h
def adf:∀ (gs:aa Gp) (rs:aa (Nat×Rm)) (y:Ii gs (wU rs)),Ou gs rs m=some y -> ∀ k x,Ot gs rs y k=some x -> ∃ J,m k=some J /\ ∀ (w:World) (B:Nat) (aj:bG) (ρ:Nat -> Loc),eF w B aj ρ k J -> eF w B aj ρ k x
 | [],rs,y,h,k,x,C=>by
  have h:Eg rs m=some y:=h;have C:wV rs y k=some x:=C;rcases WH rs m y h k with e|⟨m',J,z,E,I,Y⟩
  ·simp_all
  ·rw[Y]at C;injection C with C;subst C;exact⟨J,E,λw B aj ρ D=>Rm.qv I D⟩
 | (n,t,o,ns) :: gs,rs,y,h,k,x,C=>by
  unfold Ou at h;split at h
  ·rename_i cs Z;split at h
   ·rename_i L T;split at h
    ·rename_i x1 y1 h1 h2;injection h with h;subst h;have U:=lQ t o L x1 h1;simp only[Ot]at C;cases O:Nat.beq k n with
     | true=>
      rw[O,ak]at C;injection C with C;subst C;obtain rfl:=cD O;obtain⟨E,I⟩:=WL cs ns L _ T U
      refine⟨_,Z,λw B aj ρ D=>?_⟩
      cases D with
      |aB b off cells e _ us Q hl hh hs hc=>exact .aB b off cells e _ us Q hl hh (by rw[E];exact hs) λj z hz=>hc j z (I j z hz)
     | false=>
      rw[O,au]at C;rcases WM cs ns L _ T U C with e|⟨v,y',E,rfl,I⟩
      ·exact adf gs rs y1 h2 k x e
      ·refine⟨_,E,λw B aj ρ D=>?_⟩
       cases D with
       |sl u _ Q D=>exact .sl u _ Q (D.wk I)
    ·cases h
   ·cases h
  ·cases h
def bJ.adg{C:bJ}{x:C.St}(h:C.Ov σ=some x)(hR:R w0 N σ a w):R w0 N (C.mk' x) a w:=by
 unfold bJ.Ov at h;split at h
 ·rename_i u v I J;injection h with h;subst h;obtain⟨aj,ρ,hR⟩:=hR
  refine⟨aj,ρ,hR.below,hR.cX,λn y L=>?_,λk=>?_,hR.size,hR.defers,hR.fix,hR.dx⟩
  ·obtain⟨O,D,E⟩:=adf C.gs C.rs v J n y L;exact E _ _ _ _ (hR.root n O D)
  ·show RA _ _ _ _ (wT C.ts u k) _;rcases WG C.ts σ.t u I k with e | ⟨m,z,D,E⟩
   ·rw[e];trivial
   ·rw[E];exact Tm.qv D (hR.tmp k)
 ·cases h
def bJ.qv{C:bJ}{x:C.St}(h:C.rd σ=some x)(hR:R w0 N σ a w):R w0 N (C.mk' x) a w:=by
 unfold bJ.rd at h;split at h
 next y D=>injection h with h;subst h;exact bJ.adg D hR
 ·split at h
  next z E=>exact bJ.adg h (jt.qv E hR)
  ·cases h
end
def zG:Exit->ah Nat
 |.normal=>some 0
 |.ret=>some 1
 |.exit n=>some (n+2)
 |_=>none
def WN:Nat->Exit
 |0=>.normal
 |1=>.ret
 |n+2=>.exit n
def sG{e:Exit}{n:Nat}(h:zG e=some n):e=WN n:=by
 cases e<;>simp[zG]at h<;>subst h<;>rfl
def tP:aa (Nat×bJ)->Type
 |[]=>Empty
 |(_,C)::r=>C.St⊕tP r
def Ow:(l:aa (Nat×bJ))->Nat->S->ah (tP l)
 |[],_,_=>none
 | (n,C) :: r,e,σ=>bif Nat.beq n e then (match C.rd σ with
  |some x=>some (.inl x)
  |none=>none)else (match Ow r e σ with
  |some x=>some (.inr x)
  |none=>none)
def WO{X:Type}:(l:aa (Nat×bJ))->tP l->(Exit->S->ah X)->ah X
 |[],z,_=>nomatch z
 | (n,C) :: r,z,k=>match z with
  |.inl x=>k (WN n) (C.mk' x)
  |.inr z=>WO r z k
def iter{α β:Type}(step:α->ah (α⊕β)):Nat->α->ah β
 |0,_=>none
 | n+1,x=>match step x with
  |some (.inl y)=>iter step n y
  |some (.inr z)=>some z
  |none=>none
def Ei(P:Program)(N:Nat)(Φ:eo)(Λ:mS)(body:Code)(C:bJ)(D:aa (Nat×bJ))(x:C.St):ah (C.St⊕tP D):=
 gj P N Φ Λ body (C.mk' x) λe σ=>match zG e with
  | some 0=>(match C.rd σ with
   |some x=>some (.inl x)
   |none=>none)
  | some n=>(match Ow D n σ with
   |some x=>some (.inr x)
   |none=>none)
  |none=>none
def WQ{X:Type}(id:Nat)(k:Exit->S->ah X)(e:Exit)(σ:S):ah X:=
 match e with
 |.exit C=>if C=id then k .normal σ else k (.exit C) σ
 |e=>k e σ
def Ox(id:Nat)(C:bJ)(D:aa (Nat×bJ))(F:C.St->ah (C.St⊕tP D))(fuel:C.St->Nat):sD:=
 ⟨λX σ k=>match C.rd σ with
  | some x=>(match iter F (fuel x) x with
   |some z=>WO D z (WQ id k)
   |none=>none)
  |none=>none⟩
def me:aa (Bool×TC)->Type
 |[]=>af
 |(_,t)::r=>T t×me r
def gn:(l:aa (Bool×TC))->me l->aa Pt
 |[],_=>[]
 |(b,t)::r,x=>(b,enc t 0 x.1)::gn r x.2
def zH:(l:aa (Bool×TC))->aa Pt->ah (me l)
 |[],[]=>some ()
 | (b,t) :: r,(C,D) :: ps=>bif b==C then (match dec t 0 D,zH r ps with
  |some x,some xs=>some (x,xs)
  |_,_=>none)else none
 |_,_=>none
def gp(ai:aa (Bool×TC))(ro:aa (Bool×TC×Nat))(F:me ai->ah (iQ ro)):jo:=
 ⟨λX args k=>match zH ai args with
  | some x=>(match F x with
   |some y=>k (fe ro y)
   |none=>none)
  |none=>none⟩
def WR:Pt->A
 |(false,[x])=>.lf (.v x)
 |(true,xs)=>.agg (xs.map .v)
 |(false,.bool true::c::cs)=>.gW (c::cs)
 |(false,.bool false::.int .i64 (.ofNat g)::c::cs)=>.kA g (c::cs)
 |_=>.undef
def adh(args:aa Pt):S:=⟨λk=>match args[k]? with
 |some p=>WR p
 |none=>.undef,λ_=>none⟩
def qw{X:Type}(P:Program)(N:Nat)(Φ:eo)(Λ:mS)(code:Code)(C:Array ResultVar)(args:aa Pt)(k:fW->ah X):ah X:=
 gj P N Φ Λ code (adh args) λe σ=>match zG e with
  |some 0=>Hh P σ C k
  |some 1=>Hh P σ C k
  |_=>none
section
variable {P:Program} {w w':World} {w0:Wd} {B N:Nat} {aj aE:bG} {ρ ρ':Nat->Loc} {σ:S} {a:Act} {X:Type} {d:Nat} {r:X} {o:Oper} {Φ:eo} {Λ:mS}
def adi:∀ (l:aa (Nat×bJ)) (e:Nat) (z:tP l),Ow l e σ=some z->∀ (X:Type) (k:Exit->S->ah X),∃ D,WO l z k=k (WN e) D/\∀ a w,R w0 N σ a w->R w0 N D a w
 |[],e,z,h=>by cases h
 | (n,E) :: l,e,z,h=>by
  intro X k;unfold Ow at h;cases hb:Nat.beq n e with
  | true=>
   obtain rfl:=cD hb;rw[hb,ak]at h;split at h
   next x C=>injection h with h;subst h;exact⟨E.mk' x,rfl,λa w hR=>bJ.qv C hR⟩
   ·cases h
  | false=>
   rw[hb,au]at h;split at h
   next x C=>injection h with h;subst h;exact adi l e x C X k
   ·cases h
def ap3{id:Nat}{body:Code}{E:bJ}{O:aa (Nat×bJ)}{F:E.St -> ah (E.St⊕tP O)}{fuel:E.St -> Nat}(fL:fQ P Φ)(wX:pF P N Λ (occs body))(hF:∀ x,Ei P N Φ Λ body E O x=F x):Bz P N (.block id (.loop body)) (Ox id E O F fuel):=by
 intro X σ k r w0 h a w hR;simp only[Ox]at h;split at h
 ·rename_i x I;split at h
  ·rename_i z hz;refine wp_block ?_;have key:∀ (n:Nat) (x:E.St),iter F n x=some z -> ∀ (a:Act) (w:World),R w0 N (E.mk' x) a w -> ∀ (b:Frame) (J:aa Item) (cs:aa Frame),
     ∃e L w',Exit.inBlock id (λe L w'=>∃Z,k e Z=some r/\R w0 N Z L w') e L w'/\Arrives P (lone (b.at a (.code body::.inLoop body::J)) cs w) b J cs e L w':=by
    intro n
    induction n with
    |zero=>intro x I;simp[iter]at I
    | succ n ih=>
     intro x I a w hR b J cs;simp only[iter]at I;have ld:∃ y,Ei P N Φ Λ body E O x=some y/\(match y with | .inl y=>iter F n y=some z | .inr z'=>z'=z):=by
      rw[hF];split at I
      ·grind
      ·grind
      ·cases I
     obtain⟨y,hy,Q⟩:=ld;unfold Ei at hy;have hwp:=Ee (w0:=w0) fL body _ _ hy wX a w hR;obtain⟨e,U,w1,⟨rD,D,sy⟩,T⟩:=hwp b (.inLoop body::J) cs;split at D
     ·rename_i C;have C:=sG C;subst C;split at D
      next x1 Hx=>injection D with D;subst D;obtain⟨e2,a2,w2,q7,ap4⟩:=ih x1 Q U w1 (bJ.qv Hx sy) b J cs;exact⟨e2,a2,w2,q7,.of_steps (Steps.trans T (.one step_inLoop)) ap4⟩
      ·cases D
     ·rename_i n' Y C;have C:=sG C;split at D
      ·rename_i z1 Ij;injection D with D;subst D;have Q:z1=z:=Q;subst Q;obtain⟨σ2,nE,oy⟩:=adi (w0:=w0) (N:=N) O n' z1 Ij X (WQ id k);rw[nE]at h;rw[<- C]at h;refine⟨e,U,w1,?_,?_⟩
       ·cases e with
        | exit id'=>
         simp only[WQ]at h;simp only[Exit.inBlock];split at h
         ·grind
         ·grind
        |_=>exact⟨σ2,h,oy U w1 sy⟩
       ·refine .pass (x:=.inLoop body) rfl (λ_ _=>.inl ?_) T
        intro e';rw[e']at C
        match n',Y,C with
        |0,Y,_=>exact Y rfl
        |1,_,C=>cases C
        |n+2,_,C=>cases C
      ·cases D
     ·cases D
   intro b J cs;obtain⟨e,L,w',hq,T⟩:=key (fuel x) x hz a w (bJ.qv I hR) b J cs;exact⟨e,L,w',hq,.of_steps (.one step_loop) T⟩
  ·cases h
 ·cases h
def PV.rC{key:Nat->aa Nat}{b:Bool}{xs ys:aa V}{u:Value}(h:PV w B aj key (b,xs) u)(k:bZ xs ys):PV w B aj key (b,ys) u:=by
 obtain⟨us,E,I,J⟩:=h
 refine⟨us,E,I.trans k.1,λj y C=>?_⟩
 have D:j<xs.length:=by rw[k.1];exact(dW.1 C).1
 obtain⟨v,L,O⟩:=J j _ (bX D);exact⟨v,L,O.wk (k.2 j _ y (bX D) C)⟩
def yU.rC{cs C:aa V}{u:Value}(h:yU w cs u)(k:bZ cs C):yU w C u:=by
 obtain⟨b,off,I,hb,J⟩:=h
 refine⟨b,off,I,hb,λj y D=>?_⟩
 have E:j<cs.length:=by rw[k.1];exact(dW.1 D).1
 obtain⟨v,L,O⟩:=J j _ (bX E);exact⟨v,L,O.wk (k.2 j _ y (bX E) D)⟩
def PA.rC{b:Bool}{xs ys:aa V}{u:Value}(h:PA w (b,xs) u)(k:bZ xs ys):PA w (b,ys) u:=by
 cases h with
 |v _ _ h=>exact .v _ _ (h.rC k)
 | p c cs _ h=>
  obtain⟨y,E,rfl,C,D⟩:=k.inv;cases C;have h:=h.rC D;obtain⟨J,eV,rfl,_,_⟩:=D.inv;exact .p _ _ _ h
 | f g c cs u h=>
  obtain⟨y,E,rfl,C,D⟩:=k.inv;cases C;obtain⟨y,E,rfl,C,I⟩:=D.inv;cases C;have h:=h.rC I;obtain⟨J,eV,rfl,_,_⟩:=I.inv;exact .f _ _ _ _ h
def PA.ra{p:Pt}{u:Value}(h:PA w p u)(D:∀ y∈p.2,y.aD=true):RA w w.heap.size (λ_=>none) ρ (WR p) u:=by
 have O:∀ {cs:aa V} {u:Value},yU w cs u -> (∀ y∈cs,y.aD=true) -> RF w w.heap.size (λ_=>none) cs u:=by
  rintro cs u ⟨b,off,rfl,hb,E⟩ D
  refine⟨b,off,rfl,hb,rfl,λj x Q=>⟨D x (fT Q),E j x Q⟩⟩
 cases h with
 | v _ _ h=>
  obtain⟨us,T,U,E⟩:=h;obtain⟨b,xs⟩:=p;cases b with
  | true=>
   refine⟨us,T,by rw[dB];exact U,λi y C=>?_⟩
   rw[dz]at C;cases I:xs[i]? with
   |none=>simp_all
   | some z=>
    rw[I]at C;injection C with C;subst C;obtain⟨v,J,L⟩:=E i z I;exact⟨v,J,D z (fT I),L⟩
  | false=>
   subst T;have Y:=U.symm;obtain⟨x,rfl⟩:=List.length_eq_one_iff.1 Y;obtain⟨v,J,L⟩:=E 0 x rfl;have:u=v:=by simpa using J
   subst this;exact⟨D x (by simp),L⟩
 |p c cs _ h=>exact O h λy C=>D y (.tail _ C)
 |f g c cs u h=>exact⟨u,rfl,O h λy C=>D y (.tail _ (.tail _ C))⟩
def Ik:∀ (l:aa (Bool×TC)) (ps:aa Pt) (x:me l),zH l ps=some x -> (gn l x).length=ps.length /\ ∀ (i:Nat) p,(gn l x)[i]?=some p -> ∃ q,ps[i]?=some q/\q.1=p.1/\bZ q.2 p.2
 |[],[],x,h=>⟨rfl,λi p C=>by simp[gn]at C⟩
 | (b,t) :: r,(D,E) :: ps,x,h=>by
  unfold zH at h;cases hb:b==D with
  |false=>simp_all
  | true=>
   rw[hb,ak]at h;have hb:b=D:=by simpa using hb
   subst hb;split at h
   ·rename_i y ys I J;injection h with h;subst h;obtain⟨L,O⟩:=Ik r ps ys J
    refine⟨by simp[gn,L],λi p C=>?_⟩
    cases i with
    |zero=>simp[gn]at C;subst C;exact⟨(b,E),rfl,rfl,lQ t 0 E y I⟩
    |succ i=>exact O i p (by simpa [gn]using C)
   ·cases h
 |[],_::_,x,h=>by simp[zH]at h
 |_::_,[],x,h=>by simp[zH]at h
def mg(l:aa (Bool×TC×Nat)):Bool:=l.all λp=>Nat.ble (full p.2.1) p.2.2
def adj(t:TC)(g:Nat)(x:T t)(h:full t <= g):(enc t g x).all V.loc=true:=by
 rw[cI];intro y D;have E:=vW t g x y D;have hl:=MP t g x y D;cases y with
 | sl I C q l=>
  have J:C=g:=by simpa [V.gr]using E
  subst J;have hl:=cL hl;show yV I C=true
  match C,h with
  |0,h=>omega
  |1,h=>omega
  | n+2,h=>
   simp only[yV,eB];left;exact iD (by omega)
 |_=>rfl
def WS:∀ (l:aa (Bool×TC×Nat)) (ps:aa Pt) (x:iQ l),mg l=true -> qi l ps=some x -> (tC l x).length=ps.length /\ ∀ (nm:Nat -> Nat) (off:Nat) (C:aa Value),jC w B aj nm off ps C -> jC w B aj nm off (tC l x) C
 |[],[],x,_,h=>⟨rfl,λnm off C D=>D⟩
 | [(b,t,g)],[(E,C)],x,J,h=>by
  unfold qi at h;cases hb:b==E with
  |false=>rw[hb]at h;cases h
  | true=>
   rw[hb]at h;have h:dec t g C=some x:=h;have hb:b=E:=by simpa using hb
   subst hb;have O:full t <= g:=by simpa [mg]using J
   refine⟨rfl,λnm off us D=>?_⟩
   match us,D with
   |[u],⟨⟨_,I⟩,_⟩=>exact⟨⟨adj t g x O,I.rC (lQ t g C x h)⟩,trivial⟩
 | (b,t,g) :: q :: r,(E,C) :: ps,x,J,h=>by
  unfold qi at h;cases hb:b==E with
  |false=>grind
  | true=>
   rw[hb,ak]at h;have hb:b=E:=by simpa using hb
   subst hb;have L:full t <= g/\mg (q :: r)=true:=by
    simp only[mg,List.all_cons,aO]at J ⊢;simp_all
   split at h
   ·rename_i y ys I Q;injection h with h;subst h;obtain⟨T,Y⟩:=WS (q :: r) ps ys L.2 Q
    refine⟨by simp[tC,T],λnm off us D=>?_⟩
    match us,D with
    | u :: us,⟨⟨_,U⟩,Z⟩=>
     have hlen:=(lQ t g C y I).1;refine⟨⟨adj t g y L.1,U.rC (lQ t g C y I)⟩,?_⟩;simp_all
   ·cases h
 |[],_::_,x,_,h=>by simp[qi]at h
 |[_],[],x,_,h=>by simp[qi]at h
 |[_],_::_::_,x,_,h=>by simp[qi]at h
 |_::_::_,[],x,_,h=>by simp[qi]at h
def adk{l:aa (Bool×TC×Nat)}{E:fW}{x:iQ l}(J:mg l=true)(h:l5 l E=some x){nm:Nat -> Nat}{v:Value}(D:q9 w B aj nm E v):q9 w B aj nm (fe l x) v:=by
 cases E with
 | one p=>
  obtain⟨C,I⟩:=WS (w:=w) (B:=B) (aj:=aj) l [p] x J h;have D:jC w B aj nm 0 [p] [v]:=D;have:=I nm 0 [v] D;unfold fe
  match hm:tC l x,C,this with
  |[q],_,this=>exact this
  |[],C,_=>cases C
  |_::_::_,C,_=>simp at C
 | cR ps=>
  simp only[l5]at h;cases hb:Nat.beq ps.length 1 with
  |true=>simp_all
  | false=>
   rw[hb,au]at h;obtain⟨C,I⟩:=WS (w:=w) (B:=B) (aj:=aj) l ps x J h;obtain⟨L,e,D⟩:=D;have:=I nm 0 _ D;unfold fe
   match hm:tC l x,C,this with
   |[q],C,this=>simp_all
   |[],_,this=>exact⟨L,e,this⟩
   |_::_::_,_,this=>exact⟨L,e,this⟩
def adl:∀ (l:aa (Bool×TC)) (x:me l),(gn l x).length=l.length
 |[],x=>rfl
 |(b,t)::l,x=>by simp[gn,adl l]
def adm:∀ (l:aa (Bool×TC)) (x:me l) (j:Nat) (p:Pt),(gn l x)[j]?=some p->∀ y∈p.2,y.aD=true
 |[],x,j,p,C,_,_=>by simp[gn]at C
 | (b,t) :: l,x,0,p,C,y,D=>by
  simp[gn]at C;subst C;obtain⟨i,hi⟩:=List.mem_iff_getElem?.1 D;exact jB t 0 x.1 (by omega) i y hi
 |(b,t)::l,x,j+1,p,C,y,D=>adm l x.2 j p (by simpa [gn]using C) y D
def Il{f:Nat}{fn:Func}{code:Code}{tQ:aa Pt}{ro:aa (Bool×TC×Nat)}{y:iQ ro}(hf:P.funcs[f]?=some fn)(hb:fn.body=some code)(hN:fn.ntmps=N)(L:tQ.length <= N)(gF:mg ro=true)
  (fL:fQ P Φ) (wX:pF P N Λ (occs code)) (ap5:∀(j:Nat) p,tQ[j]?=some p -> ∀y∈p.2,y.aD=true) (I:qw P N Φ Λ code fn.results tQ (l5 ro)=some y) (nm:Nat -> Nat) (w:World) (cc:Array Value) (O:uR w tQ cc) (Q:Hd w (λ_=>none)):
  Calls P f cc w λe w'=>∃v aE,e = .returned v/\Below w.heap.size w w'/\(∀b k,aE b=some k -> w.heap.size <= b/\b<w'.heap.size/\k≠[])/\q9 w' w.heap.size aE nm (fe ro y) v:=by
 have L:cc.size <= N:=by rw[O.1];exact L
 refine calls_of_wp hf hb ?_;unfold qw at I;have hR:R (.of w Q) N (adh tQ) { tmps:=cc++Array.replicate (fn.ntmps-cc.size) undef,defers:=[] } w:=by
  refine⟨λ_=>none,λ_=>.aB 0 0,.of (Below.refl w.heap.size w) (eK _),(λb k D=>by cases D),(λn y I=>by cases I),λj=>?_,by simp[hN];omega,rfl,(λr l h=>by cases h),(λ_ _=>rfl)⟩
  show RA w w.heap.size _ _ (match tQ[j]? with|some p=>WR p|none=>.undef) _;cases T:tQ[j]? with
  |none=>trivial
  | some p=>
   obtain⟨u,U,ox⟩:=O.2 j p T;have hj:=(gd.1 U).1;have e:(cc++Array.replicate (fn.ntmps-cc.size) undef).getD j undef=u:=by rw[ij,Array.getElem?_append_left hj,U];rfl
   rw[e];exact ox.ra (ap5 j p T)
 refine wp_mono (Ee (w0:=.of w Q) fL code _ _ I wX _ w hR) λe J w' C=>?_
 obtain⟨dR,D,aj,ρ,E⟩:=C;have Y:Hh P dR fn.results (l5 ro)=some y -> J.defers=[] /\ ∃ v,(results fn J.tmps).run P w' = .ok v w' /\ ∃ Z aE,Ending.returned v=Ending.returned Z/\Below w.heap.size w w'/\(∀ b k,aE b=some k -> w.heap.size <= b/\b<w'.heap.size/\k≠[])/\q9 w' w.heap.size aE nm (fe ro y) Z:=by
  intro WT;obtain⟨res,jO,dZ⟩:=ann WT;obtain⟨v,aE,h1,h2,h3⟩:=dZ aj ρ J w' E nm;exact⟨E.defers,v,h1,v,aE,rfl,⟨E.below.os,E.below.tape,E.below.output,E.below.size,λk D=>E.below.block k D rfl⟩,λb k hb=>⟨(h2 b k hb).1.resolve_right (λh=>h rfl),(h2 b k hb).2⟩,adk gF jO h3⟩
 split at D
 next C=>have C:=sG C;subst C;exact Y D
 next C=>have C:=sG C;subst C;exact Y D
 ·cases D
def ap6{f:Nat}{fn:Func}{code:Code}{ai:aa (Bool×TC)}{ro:aa (Bool×TC×Nat)}{F:me ai -> ah (iQ ro)}(C:P.funcs[f]?=some fn)(hb:fn.body=some code)(L:fn.ntmps=N)(O:(fn.name == "runtime.NumGoroutine")=false)(Q:Nat.ble ai.length N=true)(T:mg ro=true)
  (U:fQ P Φ) (Y:pF P N Λ (occs code)) (Z:∀x,qw P N Φ Λ code fn.results (gn ai x) (l5 ro)=F x):enters P f/\iP P f (gp ai ro F):=by
 refine⟨⟨fn,C,O,by rw[hb];rfl⟩,λX args k r h=>?_⟩
 simp[gp]at h;split at h
 ·rename_i x D;split at h
  ·rename_i y E
   refine⟨_,h,λX' k'=>by simp only[gp,D,E],λnm w cc I hQ=>?_⟩
   obtain⟨k1,k2⟩:=Ik ai args x D
   refine Il C hb L (by rw[adl];exact cL Q) T U Y (adm ai x) ((Z x).trans E) nm w cc ⟨I.1.trans k1.symm,λj p hp=>?_⟩ hQ
   obtain⟨q,hq,J,q7⟩:=k2 j p hp;obtain⟨u,hu,ox⟩:=I.2 j q hq;refine⟨u,hu,?_⟩;obtain⟨b,ys⟩:=p;simp only at J;subst J;exact ox.rC q7
  ·cases h
 ·cases h
def ap7{f:Nat}{fn:Func}{code:Code}{t:TC}{g:Nat}{F:aa (T t) -> ah (aa (T t))}(I:P.funcs[f]?=some fn)(hb:fn.body=some code)(J:fn.ntmps=N)(BQ:(fn.name == "runtime.NumGoroutine")=false)(WU:Nat.ble 1 N=true)(L:mg [(false,.sl t,g)]=true)
  (O:fQ P Φ) (Q:pF P N Λ (occs code)) (hF:∀x:aa (T t),qw P N Φ Λ code fn.results [(false,[.sl t 0 false x])] (l5 [(false,.sl t,g)])=F x)
  (h0:qw P N Φ Λ code fn.results [(false,[.nil])] (l5 [(false,.sl t,g)])=some ([]:aa (T t))) (h1:qw P N Φ Λ code fn.results [(false,[.sl t 0 true []])] (l5 [(false,.sl t,g)])=some ([]:aa (T t))):
  enters P f/\iP P f (gp [(false,.sl t)] [(false,.sl t,g)] λx=>bif jc x.1 then some ([]:aa (T t))else F x.1):=by
 refine⟨⟨fn,I,BQ,by rw[hb];rfl⟩,λX args k r h=>?_⟩
 simp only[gp]at h;split at h
 ·rename_i x E;split at h
  ·rename_i y D
   refine⟨_,h,λX' k'=>by simp only[gp,E,D],λnm w cc mL U=>?_⟩
   obtain⟨k1,k2⟩:=Ik _ args x E;obtain⟨l,_⟩:=x;have WV:uR w [(false,[.sl t 0 false l])] cc:=⟨mL.1.trans k1.symm,λj p C=>by
    obtain⟨q,hq,wq,q7⟩:=k2 j p C;obtain⟨u,hu,ox⟩:=mL.2 j q hq;refine⟨u,hu,?_⟩;obtain⟨b,ys⟩:=p;subst wq;exact ox.rC q7⟩
   have Y:1 <= N:=cL WU;have Z:∀ (v:V),v.aD=true -> ∀ (j:Nat) p,([(false,[v])]:aa Pt)[j]?=some p -> ∀ y∈p.2,y.aD=true:=by
    intro v hv j p C y D;rcases j with _|j
    ·injection C with C;subst C;rw[oT.1 D];exact hv
    ·cases C
   obtain⟨u,hu,C⟩:=WV.2 0 _ rfl;obtain⟨us,e,_,hv⟩:=C.pv;have e:us = #[u]:=e;subst e;obtain⟨v,g1,hr⟩:=hv 0 _ rfl;have g1:u=v:=by simpa using g1
   subst g1;have one:∀ v:V,RV w w.heap.size (λ_=>none) [] v u -> uR w [(false,[v])] cc:=λv hr=>⟨WV.1,λj p C=>by
    rcases j with _|j
    ·injection C with C;subst C;exact⟨u,hu,.v _ _ ⟨#[u],rfl,rfl,λi x E=>by
      rcases i with _|i
      ·injection E with E;subst E;exact⟨u,rfl,hr⟩
      ·cases E⟩⟩
    ·cases C⟩
   cases l with
   |cons a l=>exact Il (tQ:=[(false,[.sl t 0 false (a::l)])]) I hb J Y L O Q (Z _ rfl) ((hF _).trans D) nm w cc WV U
   | nil=>
    have D:some ([]:aa (T t))=some y:=D;injection D with D;subst D;cases hr with
    |cS=>exact Il (tQ:=[(false,[.nil])]) I hb J Y L O Q (Z _ rfl) h0 nm w cc (one _ (.nil _)) U
    |cZ _ _ _ A c ho=>exact Il (tQ:=[(false,[.sl t 0 true []])]) I hb J Y L O Q (Z _ rfl) h1 nm w cc (one _ (.de _ _ _ _ _ ho)) U
    |aD _ _ _ qn l b off cap us ho hl MZ hB oW hc wm=>exact Il (tQ:=[(false,[.sl t 0 true []])]) I hb J Y L O Q (Z _ rfl) h1 nm w cc (one _ (.de _ _ _ _ _ ho)) U
  ·cases h
 ·cases h
end
def Im(N:Nat)(σ:S)(t:Nat):S:=match σ.t t with
 | .view [q] s 0 j=>bif Nat.blt t N then (match σ.m q with
  |some (.sl (.sl C (o+2) D l))=>bif Nat.beq (full C) 0 then (((σ.drop q).drop t).root t (.sl (.sl C 2 false (l.take j)))).set t (.lf (.own [t]))else σ
  |_=>σ)else σ
 |_=>σ
def vf(N:Nat)(σ:S):aa ResultVar->S
 |[]=>σ
 |.tmp t::r=>vf N (Im N σ t) r
 |_::r=>vf N σ r
def BR{X:Type}(P:Program)(N:Nat)(Φ:eo)(Λ:mS)(code:Code)(C:Array ResultVar)(D:aa In)(args:aa Ar)(k:aa In->fW->ah X):ah X:=
 gj P N Φ Λ code (wF D args) λe σ=>match zG e with
  |some 0=>Hq P (vf N σ C.toList) C D k
  |some 1=>Hq P (vf N σ C.toList) C D k
  |_=>none
section
variable {P:Program} {w w':World} {w0:Wd} {B N:Nat} {aj aE:bG} {ρ ρ':Nat->Loc} {σ:S} {a:Act} {X:Type} {d:Nat} {r:X} {o:Oper} {Φ:eo} {Λ:mS}
def Rl.Im{t:Nat}(h:Rl w0 N aj ρ σ a w):∃ aE ρ',Rl w0 N aE ρ' (Proofs.YtglnbhiaknohlaaGreat.Im N σ t) a w:=by
 unfold Proofs.YtglnbhiaknohlaaGreat.Im;split
 ·rename_i q s j ht;cases Y:Nat.blt t N with
  |false=>exact⟨aj,ρ,h⟩
  | true=>
   have Y:t<N:=by have:=cL Y;omega
   rw[ak];split
   ·rename_i E g qn l hm;cases Q:Nat.beq (full E) 0 with
    |false=>exact⟨aj,ρ,h⟩
    | true=>
     have Q:=cD Q;rw[ak];have hv:=h.tmp t;rw[ht]at hv;obtain⟨A,n,c,T,_,hj,hu⟩:=hv;have gi:sliced A 0 j c s = .slice A j c:=by cases A<;>simp[sliced,Addr.add]
     rw[gi]at hu;let D:bG:=λb=>match aj b with
      |some k=>bif bK q k then (bif Nat.beq k.length 1 then some [t]else none)else some k
      |none=>none
     have hrel:Rel q aj D:=⟨h.we,λb hb=>by simp[D,hb],λb k hb C=>by simp[D,hb,C]⟩
     have Z:=h.rel hrel (λb k C=>by
      simp only[D]at C;cases hl:aj b with
      |none=>rw[hl]at C;cases C
      | some k'=>
       rw[hl]at C;simp only at C;refine⟨⟨_,rfl⟩,?_⟩;cases hq:bK q k' with
       | true=>
        rw[hq,ak]at C;cases hlen:Nat.beq k'.length 1 with
        |true=>rw[hlen,ak]at C;injection C with C;rw[<- C];simp
        |false=>rw[hlen,au]at C;cases C
       | false=>
        rw[hq,au]at C;injection C with C;subst C;exact(h.cX b k' hl).2.2)
     have gF:=h.root q _ hm;generalize J:aY.sl (.sl E (g+2) qn l)=z at gF;cases gF with
     |aB=>cases J
     |mp=>cases J
     |gh=>cases J
     | sl v y dj L=>
      injection J with J;subst J;simp only[cN,dj]at T;injection T with T;subst T;have hn:n=l.length:=by cases L<;>rfl
      have ap8:RV w w0.heap.size D [t] (.sl E 2 false (l.take j)) (.slice A j c):=by
       cases L with
       | cS=>
        have:j=0:=by simpa using hj
        subst this;exact .cS _ _ _
       |cZ _ _ _ _ _ ho=>omega
       |de _ _ _ _ _ ho=>omega
       |aD _ _ _ _ _ _ _ _ _ ho=>omega
       | own _ _ _ _ _ b cap cs us qc hh hs AZ r9 hc L=>
        have hl:(l.take j).length=j:=by rw[fP];omega
        have hle:∀i (hi:i<(l.take j).length),∃U:i<l.length,(l.take j)[i]=l[i]:=λi hi=>⟨by omega,List.getElem_take⟩
        have:=RV.own (w:=w) (B:=w0.heap.size) (aj:=D) [t] E 0 false (l.take j) b c cs us (by simp[D,qc,bK]) hh hs (by omega) ⟨r9.1,λh=>by cases h⟩ (λi hi k x O=>by
         obtain⟨U,e⟩:=hle i hi;rw[e,DH E Q 0]at O;exact hc i U k x O) (λi hi k x O=>by
         obtain⟨U,e⟩:=hle i hi;rw[e,DH E Q 0]at O;exact(L i U k x O).th (yG E g _ Q x (fT O)))
        rw[hl]at this;exact this
      have hrm:uM w w D D t:=⟨eK _,λ_ _ _=>rfl,λ_ _=>rfl,Z.we⟩
      have I:=Z.yM (d:=t) (ρ':=bW ρ t (.dM (.slice A j c))) (x:=.sl (.sl E 2 false (l.take j))) (h.dx t (.inl Y)) ⟨rfl,rfl,rfl,eK _,λ_ _ _=>rfl⟩ hrm (λb k hb C=>by
       have:=(Z.cX b k C).2.1;omega) (λr L=>cB _ _ _ L) (.sl _ _ (ck _ _ _) ap8)
      refine⟨_,_,I.below,I.cX,I.root,λk=>?_,I.size,I.defers,I.fix,I.dx⟩
      show RA w w0.heap.size D _ (bW _ t _ k) _;by_cases C:k=t
      ·subst C;rw[ck,hu];exact⟨rfl,by simp only[cN,ck]⟩
      ·rw[cB _ _ _ C];exact I.tmp k
   ·exact⟨aj,ρ,h⟩
 ·exact⟨aj,ρ,h⟩
def Rl.vf:∀ (l:aa ResultVar) (σ:S) (aj:bG) (ρ:Nat -> Loc),Rl w0 N aj ρ σ a w -> ∃ aE ρ',Rl w0 N aE ρ' (Proofs.YtglnbhiaknohlaaGreat.vf N σ l) a w
 |[],_,aj,ρ,h=>⟨aj,ρ,h⟩
 | .tmp t :: r,_,_,_,h=>by
  obtain⟨C,D,E⟩:=h.Im;exact Rl.vf r _ C D E
 |.cell _ _::r,_,aj,ρ,h=>Rl.vf r _ aj ρ h
def fnM_core{f:Nat}{fn:Func}{code:Code}{C:aa In}{args:aa Ar}{k:aa In -> fW -> ah X}(hf:P.funcs[f]?=some fn)(hb:fn.body=some code)(hN:fn.ntmps=N)(Ej:N <= 20000)(hlen:args.length <= N)
  (fL:fQ P Φ) (wX:pF P N Λ (occs code)) (h:BR P N Φ Λ code fn.results C args k=some r) (nm:Nat -> Nat) (w:World) (aj:bG) (ρ:Nat -> Loc) (cc:Array Value)
  (Y:pg w w.heap.size aj ρ 0 C) (lZ:∀b k,aj b=some k -> b<w.heap.size/\k≠[]) (ga:cc.size=args.length) (hv:∀i,RA w w.heap.size aj ρ ((wF C args).t i) (cc.getD i undef)) (O:Hd w aj):
  Calls P f cc w λe w'=>∃v aE outs D,k outs D=some r/\e = .returned v/\ja ⟨w,aj,λ_=>none,O,λ_ _=>rfl⟩ w w'/\(∀b k,aE b=some k -> (w.heap.size <= b \/ aj b≠none)/\b<w'.heap.size/\k≠[])/\q9 w' w.heap.size aE nm D v/\ru w w' aE ρ nm 0 D.len C outs:=by
 let W:Wd:=⟨w,aj,λr=>if 20000 <= r/\r<60000 then some (ρ r)else none,O,λr Z=>bM⟩
 refine calls_of_wp hf hb ?_;unfold BR at h;have hR:R W N (wF C args) { tmps:=cc++Array.replicate (fn.ntmps-cc.size) undef,defers:=[] } w:=by
  refine⟨aj,ρ,.of (Below.refl w.heap.size w) (eK _),λb k hb=>⟨.inr (by rw[show W.L b=aj b from rfl,hb];simp),lZ b k hb⟩,pg.roots C 0 _ Y (λr x hx=>by cases hx),λj=>?_,by simp[hN];omega,rfl,λr l Z=>?_,λr Z=>?_⟩
  ·by_cases hj:j<cc.size
   ·have e:(cc++Array.replicate (fn.ntmps-cc.size) undef).getD j undef=cc.getD j undef:=by
     rw[ij,Array.getElem?_append_left hj,ij]
    rw[e];exact hv j
   ·have e:(wF C args).t j = .undef:=by
     simp only[wF,List.getElem?_eq_none (by omega:args.length <= j)]
    rw[e];trivial
  ·grind
  ·grind
 refine wp_mono (Ee (w0:=W) fL code _ _ h wX _ w hR) λe Q w' E=>?_
 obtain⟨dR,J,DP,DN,I⟩:=E;have fin:Hq P (Proofs.YtglnbhiaknohlaaGreat.vf N dR fn.results.toList) fn.results C k=some r -> Q.defers=[] /\ ∃ v,(results fn Q.tmps).run P w' = .ok v w' /\ ∃ Io aE outs D,k outs D=some r/\Ending.returned v=Ending.returned Io/\ja ⟨w,aj,λ_=>none,O,λ_ _=>rfl⟩ w w'/\(∀ b k,aE b=some k -> (w.heap.size <= b \/ aj b≠none)/\b<w'.heap.size/\k≠[])/\q9 w' w.heap.size aE nm D Io/\ru w w' aE ρ nm 0 D.len C outs:=by
  intro WT;obtain⟨outs,D,hko,dZ⟩:=anp (w0:=W) rfl (λr T U=>bA ⟨T,U⟩) (pg.Va C 0 Y) WT;obtain⟨dg,eD,oy⟩:=Rl.vf _ dR DP DN I;obtain⟨v,aE,T,U,h3,h4⟩:=dZ dg eD Q w' oy nm;exact⟨I.defers,v,T,v,aE,outs,D,hko,rfl,⟨I.below.os,I.below.tape,I.below.output,I.below.size,λk J=>I.below.block k J⟩,U,h3,h4⟩
 split at J
 next E=>have E:=sG E;subst E;exact fin J
 next E=>have E:=sG E;subst E;exact fin J
 ·cases J
end
def rJ:(l:aa (Bool×TC×Nat))->aa In->ah (rz l)
 |[],[]=>some ()
 | (true,t,g) :: r,.aB cs :: is=>match dec t g cs,rJ r is with
  |some x,some xs=>some (x,xs)
  |_,_=>none
 | (false,t,g) :: r,.sl y :: is=>match (bif Nat.ble 1000000 g then (bif y.jM then none else y.dP t (g+2))else bif y.jM then y.dP t (g+2)else none),rJ r is with
  |some x,some xs=>some (x,xs)
  |_,_=>none
 |_,_=>none
def Oy:aa In->aa In->aa In->Prop
 |[],[],[]=>True
 |.aB I::C,.aB cs::r,.aB eV::D=>(bZ cs eV/\I.map (λv=>(v.plain,v.aD))=eV.map (λv=>(v.plain,v.aD))/\∀x∈eV,x.jM=true)/\Oy C r D
 |.sl _::C,.sl y::r,.sl E::D=>(Wk y E/\(y = .nil->E = .nil))/\Oy C r D
 |_,_,_=>False
def Oz:∀ (ps:aa PK) (C:kB ps) (is:aa In) (x:rz (eH ps)),rJ (eH ps) is=some x -> Oy (nL ps C) is (iR (eH ps) x)
 |[],_,[],x,_=>trivial
 |[],_,_::_,x,h=>by simp[rJ,eH]at h
 |.v b t::ps,C,is,x,h=>Oz ps C.2 is x h
 |.p t g off::ps,C,[],x,h=>by simp[rJ,eH]at h
 |.s t g::ps,C,[],x,h=>by simp[rJ,eH]at h
 |.p t g off::ps,C,.sl _::_,x,h=>by simp[rJ,eH]at h
 |.s t g::ps,C,.aB _::_,x,h=>by simp[rJ,eH]at h
 | .p t g off :: ps,C,.aB cs :: is,x,h=>by
  have h:rJ ((true,t,g)::eH ps) (.aB cs::is)=some x:=h;unfold rJ at h;split at h
  next y ys D I=>injection h with h;subst h;exact⟨⟨lQ t g cs y D,amx t g C.1 y,λz J=>Ub t g y z J⟩,Oz ps C.2 is ys I⟩
  ·cases h
 | .s t g :: ps,C,.sl y :: is,x,h=>by
  have h:rJ ((false,t,g)::eH ps) (.sl y::is)=some x:=h;unfold rJ at h;split at h
  ·rename_i z L D I;injection h with h;subst h;refine⟨?_,Oz ps C.2 is L I⟩;cases hb:Nat.ble 1000000 g with
   | true=>
    cases E:y.jM with
    |true=>simp_all
    | false=>
     have:y = .nil:=by cases y<;>first|rfl|cases E
     subst this;exact⟨.same _,λ_=>rfl⟩
   | false=>
    cases E:y.jM with
    |false=>simp_all
    | true=>
     rw[hb,E]at D;exact⟨V.dX D,λe=>by subst e;cases E⟩
  ·cases h
def ru.typed{w w':World}{aE:bG}{ρ:Nat -> Loc}{nm:Nat -> Nat}:∀ (E:aa In) (i Q:Nat) (outs L:aa In),ru w w' aE ρ nm i Q E outs -> Oy E outs L -> Hp w w' aE ρ nm i Q E L
 |[],i,Q,[],[],h,C=>trivial
 | .aB cs0 :: E,i,Q,.aB cs1 :: outs,.aB cs2 :: L,h,C=>by
  obtain⟨⟨b,off,cells,wG,e,e',T,U,h3,h4,h5,h6,h7⟩,Y⟩:=h;obtain⟨⟨O,WW,hnn⟩,Z⟩:=C
  refine⟨⟨b,off,cells,wG,e,e',T,U,h3,h4,by rw[<- O.1];exact h5,by rw[<- O.1];exact h6,λj x hx=>?_⟩,ru.typed E _ _ outs L Y Z⟩
  have hj:j<cs1.length:=by rw[O.1];exact(dW.1 hx).1
  obtain⟨u,hu,hc⟩:=h7 j _ (bX hj);have C:=O.2 j _ x (bX hj) hx;have Ip:∀ I,cs0[j]?=some I -> I.plain=x.plain/\I.aD=x.aD:=by
   intro I h0;have e1:(cs0.map (λv=>(v.plain,v.aD)))[j]?=(cs2.map (λv=>(v.plain,v.aD)))[j]?:=by rw[WW]
   grind
  have hxn:=hnn x (fT hx);generalize cs1[j]=y at hc C;refine⟨u,hu,?_⟩;rcases hc with ⟨D,J⟩|⟨D,J,I,c3,c4⟩|⟨D,J,c6,⟨I,c3,c4⟩,c5⟩|⟨D,J⟩
  ·cases C with
   |same=>grind
   |nil t o=>cases D
   |q t o l=>cases D
   |gr=>cases D
  ·subst D J;have hf:x.aD=false:=by rw[<- (Ip I c3).2];exact c4
   cases C with
   |same=>cases hxn
   |nil t o=>exact .inr (.inr ⟨hf,.cS _ _ _⟩)
  ·cases C with
   |same=>grind
   |nil t o=>cases c6
   |q t o l=>exact .inr (.inl ⟨rfl,J,c5⟩)
   |gr t o o' qn l T U=>simp[V.aD]at J;omega
  ·have hf:=C.Vf D;exact .inr (.inr ⟨hf,J.wk C⟩)
 | .sl y0 :: E,i,Q,.sl y1 :: outs,.sl y2 :: L,h,C=>by
  obtain⟨h,Y⟩:=h;obtain⟨⟨O,hn⟩,Z⟩:=C;exact⟨h.imp hn (λ⟨v,T,U⟩=>⟨v,T,U.wk O⟩),ru.typed E _ _ outs L Y Z⟩
 |[],_,_,_::_,_,h,_=>h.elim
 |[],_,_,[],_::_,_,h=>h.elim
 |.aB _::_,_,_,[],_,h,_=>h.elim
 |.sl _::_,_,_,[],_,h,_=>h.elim
 |.aB _::_,_,_,.sl _::_,_,h,_=>h.elim
 |.sl _::_,_,_,.aB _::_,_,h,_=>h.elim
 |.aB _::_,_,_,.aB _::_,[],_,h=>h.elim
 |.aB _::_,_,_,.aB _::_,.sl _::_,_,h=>h.elim
 |.sl _::_,_,_,.sl _::_,[],_,h=>h.elim
 |.sl _::_,_,_,.sl _::_,.aB _::_,_,h=>h.elim
def adn:∀ (l:aa (Bool×TC×Nat)) (ps:aa Pt) (x:iQ l),qi l ps=some x -> (ps.map λp=>p.2.length)=((tC l x).map λp=>p.2.length)
 |[],[],x,h=>rfl
 | [(b,t,g)],[(C,D)],x,h=>by
  unfold qi at h;cases hb:b==C with
  |false=>rw[hb]at h;cases h
  | true=>
   rw[hb]at h;simp[tC,(lQ t g D x h).1]
 | (b,t,g) :: q :: r,(C,D) :: ps,x,h=>by
  unfold qi at h;cases hb:b==C with
  |false=>simp_all
  | true=>
   rw[hb]at h;split at h
   next y ys E I=>injection h with h;subst h;simp only[tC,List.map_cons];rw[adn _ ps ys I,(lQ t g D y E).1]
   ·cases h
def ap9{l:aa (Bool×TC×Nat)}{C:fW}{x:iQ l}(h:l5 l C=some x):C.len=(fe l x).len:=by
 have key:∀ ps,qi l ps=some x -> (ps.map λp=>p.2.length).sum=(fe l x).len:=by
  intro ps h;rw[adn l ps x h];unfold fe
  match hm:tC l x with
  |[q]=>simp[fW.len]
  |[]=>rfl
  |_::_::_=>rfl
 cases C with
 |one p=>have:=key [p] h;simpa [fW.len]using this
 | cR ps=>
  simp only[l5]at h;cases hb:Nat.beq ps.length 1 with
  |true=>simp_all
  |false=>rw[hb]at h;exact key ps h
section
variable {P:Program} {w w':World} {w0:Wd} {B N:Nat} {aj aE:bG} {ρ ρ':Nat->Loc} {σ:S} {a:Act} {X:Type} {d:Nat} {r:X} {o:Oper} {Φ:eo} {Λ:mS}
def El(l ro:aa (Bool×TC×Nat))(outs:aa In)(C:fW):ah (iQ ro×rz l):=
 match l5 ro C,rJ l outs with
 |some x,some y=>some (x,y)
 |_,_=>none
def OA{f:Nat}{fn:Func}{code:Code}{ps:aa PK}{ro:aa (Bool×TC×Nat)}{F:kB ps->ah (iQ ro×rz (eH ps))}(I:P.funcs[f]?=some fn)(hb:fn.body=some code)(L:fn.ntmps=N)(O:(fn.name == "runtime.NumGoroutine")=false)(Q:Nat.ble ps.length N=true)(T:Nat.ble N 20000=true)(U:mg ro=true)
  (Y:fQ P Φ) (Z:pF P N Λ (occs code)) (hF:∀x,BR P N Φ Λ code fn.results (nL ps x) (jP ps 0 x) (El (eH ps) ro)=F x):enters P f/\uS P f ⟨ps,ro,F⟩:=by
 refine⟨⟨fn,I,O,by rw[hb];rfl⟩,λx y h nm w aj ρ cc hE lZ D hv hQ=>?_⟩
 have h:F x=some y:=h;rw[<-hF x]at h;have hlen:∀ (ps:aa PK) (i:Nat) (x:kB ps),(jP ps i x).length=ps.length:=by
  intro ps
  induction ps with
  |nil=>intro i x;rfl
  | cons p ps E=>
   intro i x;cases p with
   |v=>exact bH (· + 1) (E _ _)
   |p=>exact bH (· + 1) (E _ _)
   |s=>exact bH (· + 1) (E _ _)
 have D:cc.size=(jP ps 0 x).length:=by rw[hlen];exact D
 refine(fnM_core I hb L (cL T) (by rw[hlen];exact cL Q) Y Z h nm w aj ρ cc hE lZ D hv hQ).mono λe w' rm=>?_
 obtain⟨v,aE,outs,res,C,he,su,hl,jO,Vp⟩:=rm;unfold El at C;split at C
 next y1 y2 J h2=>injection C with C;subst C;refine⟨v,aE,he,su,hl,adk U J jO,?_⟩;rw[<-ap9 J];exact ru.typed _ _ _ _ _ Vp (Oz ps x outs y2 h2)
 ·cases C
end
set_option maxRecDepth 100000
def OB(σ:S)(C:Array ResultVar):ah Int:=
 match C.toList with
 | [.tmp t]=>(match σ.t t with
  | .aG r 0=>(match σ.m r with
   |some (.aB [.own [n],.v (.int .i64 z),.v (.int .i64 h)])=>bif Nat.beq n 20000&&z==0 then some h else none
   |_=>none)
  |_=>none)
 |_=>none
def ado(P:Program)(N:Nat)(Φ:eo)(Λ:mS)(code:Code)(C:Array ResultVar)(l:aa (T .u8)):ah Int:=
 gj P N Φ Λ code (wF [.sl (.sl .u8 0 false l)] [.mut 0 0]) λe σ=>match zG e with
  |some 0=>OB σ C
  |some 1=>OB σ C
  |_=>none
section
variable {P:Program} {w w':World} {w0:Wd} {B N:Nat} {aj aE:bG} {ρ ρ':Nat->Loc} {σ:S} {a:Act} {X:Type} {d:Nat} {r:X} {o:Oper} {Φ:eo} {Λ:mS}
def aqa{f:Nat}{fn:Func}{code:Code}{F:aa Int->ah Int}(hf:P.funcs[f]?=some fn)(hb:fn.body=some code)(hN:fn.ntmps=N)(BQ:(fn.name == "runtime.NumGoroutine")=false)(hN1:Nat.ble 1 N=true)(Ej:Nat.ble N 20000=true)
  (fL:fQ P Φ) (wX:pF P N Λ (occs code)) (hF:∀l,ado P N Φ Λ code fn.results l=F l):enters P f/\NK P f F:=by
 refine⟨⟨fn,hf,BQ,by rw[hb];rfl⟩,λw l h v Y hv hQ=>?_⟩
 rw[<-hF l]at Y;unfold ado at Y;have hN1:=cL hN1;have Ej:=cL Ej;let W:Wd:=⟨w,λ_=>none,λr=>if 20000<=r/\r<60000 then some (.dM v)else none,hQ,λr E=>bM⟩
 refine calls_of_wp hf hb ?_;have hR:R W N (wF [.sl (.sl .u8 0 false l)] [.mut 0 0]) { tmps:=#[v]++Array.replicate (fn.ntmps-(#[v]:Array Value).size) undef,defers:=[] } w:=by
  refine⟨λ_=>none,λ_=>.dM v,.of (Below.refl w.heap.size w) (eK _),(λb k hb=>by cases hb),λn y J=>?_,λj=>?_,by simp[hN];omega,rfl,λr l E=>?_,λr E=>?_⟩
  ·have J:bW (λ_=>none) (nF 0) (some (.sl (.sl .u8 0 false l))) n=some y:=J;by_cases T:n=nF 0
   ·subst T;rw[ck]at J;injection J with J;subst J;exact .sl v _ rfl (hv.key rfl)
   ·rw[cB _ _ _ T]at J;cases J
  ·cases j with
   | zero=>
    have e:(#[v]++Array.replicate (fn.ntmps-(#[v]:Array Value).size) undef).getD 0 undef=v:=by
     rw[ij,Array.getElem?_append_left (by simp)];rfl
    show RA w w.heap.size _ _ (.lf (.own [nF 0])) ((#[v]++Array.replicate (fn.ntmps-(#[v]:Array Value).size) undef).getD 0 undef);rw[e];exact⟨hv.mF rfl rfl,rfl⟩
   |succ j=>exact trivial
  ·have E:(if 20000<=r/\r<60000 then some (Loc.dM v)else none)=some l:=E;split at E
   ·injection E
   ·cases E
  ·show (if 20000<=r/\r<60000 then some (Loc.dM v)else none)=none;rw[bM]
 refine wp_mono (Ee (w0:=W) fL code _ _ Y wX _ w hR) λe U w' I=>?_
 obtain⟨dR,L,DP,DN,D⟩:=I;have fin:OB dR fn.results=some h->U.defers=[]/\∃ u,(results fn U.tmps).run P w' = .ok u w'/\∃ b off cells t,Ending.returned u = .returned (.pointer (some ⟨b,off,none⟩))/\Below w.heap.size w w'/\w.heap.size<=b/\w'.heap[b]?=some (.cells cells t (0,0))/\cells[off]?=some v/\cells[off+1]?=some (.int .i64 0)/\cells[off+2]?=some (.int .i64 h):=by
  intro C;unfold OB at C;split at C
  ·rename_i t ht;split at C
   ·rename_i r E;split at C
    ·rename_i n z h' hm;cases hb:(Nat.beq n 20000&&z==0)with
     |false=>rw[hb]at C;cases C
     | true=>
      rw[hb,ak]at C;injection C with C;subst C;rw[aO]at hb;have T:=cD hb.1;have hz:z=0:=by simpa using hb.2
      subst T hz;have h1:=D.tmp t;rw[E]at h1;obtain⟨b,off,e1,e2⟩:=h1;have h2:=D.root r _ hm;generalize O:aY.aB _=x at h2;cases h2 with
      |sl=>cases O
      |mp=>cases O
      |gh=>cases O
      | aB b' AX cells e cs us dj hl DK hs Z=>
       injection O with O;subst O;rw[dj]at e1;injection e1 with e3 e4;subst e3 e4;obtain⟨c0,Q⟩:=Z 0 _ rfl;obtain⟨c1,d1⟩:=Z 1 _ rfl;obtain⟨c2,d2⟩:=Z 2 _ rfl;have Q:=Q.2;have WX:=D.fix 20000 (.dM v) rfl;simp only[cN,WX]at Q;injection Q with Q;rw[<-Q]at c0;rw[d1.2.gE]at c1;rw[d2.2.gE]at c2
       refine⟨D.defers,_,?_,b',AX,cells,e,rfl,⟨D.below.os,D.below.tape,D.below.output,D.below.size,λk L=>D.below.block k L rfl⟩,?_,DK,c0,c1,c2⟩
       ·have jO:results fn U.tmps=(do let vs <-fn.results.mapM (rq U.tmps);pure (if h:vs.size=1 then vs[0]else .tuple vs)):=by
         unfold results;congr 1
        have qt:fn.results = #[.tmp t]:=by apply Array.ext';exact ht
        rw[jO,qt,Array.mapM_eq_mapM_toList];simp[rq,e2]
       ·have:=(D.cX b' _ hl).1;exact this.resolve_right (λh=>h rfl)
    ·cases C
   ·cases C
  ·cases C
 split at L
 next I=>have I:=sG I;subst I;exact fin L
 next I=>have I:=sG I;subst I;exact fin L
 ·cases L
end
def nV(i j:Nat):Nat:=20001+1000*i+j
def Em(i j:Nat)(x:V):Lf:=match x with
 |.sl ..=>.own [nV i j]
 |x=>.v x
def wY(i:Nat):Nat->aa V->aa Lf
 |_,[]=>[]
 |j,x::xs=>Em i j x::wY i (j+1) xs
def WY(args:aa Pt)(n:Nat):ah aY:=bif Nat.ble 20001 n&&Nat.blt n 60000 then (match args[(n-20001) / 1000]? with
 | some (_,xs)=>(match xs[(n-20001) % 1000]? with
  |some (.sl t g q l)=>some (.sl (.sl t g q l))
  |_=>none)
 |none=>none)else none
def adp(args:aa Pt):S:=⟨λi=>match args[i]? with
 |some (false,[x])=>.lf (Em i 0 x)
 |some (true,xs)=>.agg (wY i 0 xs)
 |_=>.undef,WY args⟩
def OC(σ:S)(C:Array ResultVar)(a j:Nat)(t:TC):ah (Nat×Nat):=match C.toList with
 | [.tmp s]=>(match σ.t s with
  |.view [n] D i k=>bif Nat.beq n (nV a j)&&Nat.beq D (aF t)then some (i,k)else none
  |_=>none)
 |_=>none
def adq(P:Program)(N:Nat)(Φ:eo)(Λ:mS)(code:Code)(C:Array ResultVar)(a j:Nat)(t:TC)(args:aa Pt):ah (Nat×Nat):=
 gj P N Φ Λ code (adp args) λe σ=>match zG e with
  |some 0=>OC σ C a j t
  |some 1=>OC σ C a j t
  |_=>none
def WZ(ai:aa (Bool×TC))(a j:Nat)(t:TC)(F:me ai->ah (Nat×Nat)):Bn:=⟨a,j,t,λargs=>match zH ai args with
 |some x=>F x
 |none=>none⟩
section
variable {P:Program} {w w':World} {w0:Wd} {B N:Nat} {aj aE:bG} {ρ ρ':Nat->Loc} {σ:S} {a:Act} {X:Type} {d:Nat} {r:X} {o:Oper} {Φ:eo} {Λ:mS}
def adr(i:Nat):∀ (xs:aa V) (C j:Nat),(wY i C xs)[j]?=(xs[j]?).map λx=>Em i (C+j) x
 |[],C,j=>by simp[wY]
 |x::xs,C,0=>by simp[wY]
 | x :: xs,C,j+1=>by
  simp[wY,List.getElem?_cons_succ,adr]
  grind
def ads(i:Nat):∀ (xs:aa V) (C:Nat),(wY i C xs).length=xs.length
 |[],_=>rfl
 |x::xs,C=>by simp[wY,ads i xs (C+1)]
def adt{i j:Nat}(h:j<1000):(nV i j-20001) / 1000=i/\(nV i j-20001) % 1000=j:=by
 unfold nV;omega
def zI(cc:Array Value)(n:Nat):Loc:=.dM ((tH cc ((n-20001) / 1000) ((n-20001) % 1000)).getD undef)
def adu{cc:Array Value}{i j:Nat}{x:V}{u:Value}(D:j<1000)(E:tH cc i j=some u)(I:x.aD=true)(C:RV w B (λ_=>none) [] x u):dA w B (λ_=>none) (zI cc) (Em i j x) u:=by
 unfold Em;split
 ·refine⟨C.mF rfl rfl,?_⟩;obtain⟨J,L⟩:=adt (i:=i) D;simp only[cN,zI,J,L,E];rfl
 ·exact⟨I,C⟩
def aqb{f:Nat}{fn:Func}{code:Code}{ai:aa (Bool×TC)}{J L:Nat}{t:TC}{F:me ai -> ah (Nat×Nat)}(hf:P.funcs[f]?=some fn)(hb:fn.body=some code)(hN:fn.ntmps=N)(BQ:(fn.name == "runtime.NumGoroutine")=false)(WU:Nat.ble ai.length N=true)(Ej:Nat.ble N 20000=true)(ga:(ai.all λp=>Nat.blt (aF p.2) 1000&&(p.1 || Nat.beq (aF p.2) 1))=true)(hjj:Nat.blt L 1000=true)(haa:Nat.blt J 30=true)
  (fL:fQ P Φ) (wX:pF P N Λ (occs code)) (hF:∀x,adq P N Φ Λ code fn.results J L t (gn ai x)=F x):enters P f/\NL P f (WZ ai J L t F):=by
 refine⟨⟨fn,hf,BQ,by rw[hb];rfl⟩,λargs p h w cc mL hQ=>?_⟩
 simp only[WZ]at h;split at h
 ·rename_i x hx;obtain⟨k1,k2⟩:=Ik ai args x hx;have hlen:∀ (l:aa (Bool×TC)) (x:me l),(gn l x).length=l.length:=by
   intro l
   induction l with
   |nil=>intro x;rfl
   |cons p l ih=>obtain⟨b,t⟩:=p;intro x;simp[gn,ih]
  have mI:cc.size=ai.length:=by rw[mL.1,<- k1,hlen]
  have hle:cc.size <= N:=by rw[mI];exact cL WU
  have Ej:=cL Ej;have qt:∀ (l:aa (Bool×TC)) (x:me l),(l.all λp=>Nat.blt (aF p.2) 1000&&(p.1 || Nat.beq (aF p.2) 1))=true -> ∀ (j:Nat) p,(gn l x)[j]?=some p -> (∀ y∈p.2,y.aD=true)/\p.2.length<1000/\(p.1=true \/ p.2.length=1):=by
   intro l
   induction l with
   |nil=>intro x _ j p O;simp[gn]at O
   | cons c l ih=>
    obtain⟨b,t⟩:=c;intro x hs j p O;rw[List.all_cons,aO]at hs;cases j with
    | zero=>
     simp[gn]at O;subst O
     refine⟨λy C=>?_,?_⟩
     ·obtain⟨i,hi⟩:=List.mem_iff_getElem?.1 C;exact jB t 0 x.1 (by omega) i y hi
     ·show (enc t 0 x.1).length<1000/\(b=true \/ (enc t 0 x.1).length=1);rw[ku];have h8:=hs.1;rw[aO,eB]at h8;have h9:=cL h8.1;exact⟨h9,h8.2.imp id cD⟩
    |succ j=>exact ih x.2 hs.2 j p (by simpa [gn]using O)
  have uJ:∀ (i:Nat) (p:Pt),(gn ai x)[i]?=some p -> ∃ u:Value,cc[i]?=some u/\PV w w.heap.size (λ_=>none) (λ_=>[]) p u/\(∀ y∈p.2,y.aD=true)/\p.2.length<1000:=by
   intro i p O;obtain⟨q,hq,wq,q7⟩:=k2 i p O;obtain⟨u,Q,ox⟩:=mL.2 i q hq;obtain⟨g1,g2,g3⟩:=qt ai x ga i p O;refine⟨u,Q,?_,g1,g2⟩;obtain⟨b,ys⟩:=p;obtain⟨b',xs⟩:=q;simp only at wq;subst wq;have hw:=ox.rC q7;rcases g3 with g3|g3
   ·simp only at g3;subst g3;exact hw.pvS
   ·obtain⟨y,rfl⟩:=List.length_eq_one_iff.1 g3;cases b' with
    |true=>exact hw.pvS
    |false=>exact hw.pv
  have W0:∀ (i:Nat) (p:Pt),(gn ai x)[i]?=some p -> ∀ (j:Nat) y,p.2[j]?=some y -> ∃ u,tH cc i j=some u/\RV w w.heap.size (λ_=>none) [] y u/\y.aD=true/\j<1000:=by
   intro i p O j y C;obtain⟨u,Q,⟨us,D,h2,h3⟩,h4,h5⟩:=uJ i p O;obtain⟨v,E,I⟩:=h3 j y C;refine⟨v,?_,I,h4 y (fT C),by have:=(dW.1 C).1;omega⟩;unfold tH;rw[Q];obtain⟨b,ys⟩:=p;cases b with
   | true=>
    have D:u = .agg us:=D;subst D;exact E
   | false=>
    have D:us = #[u]:=D;subst D;have hj:j=0:=by
     have:=(gd.1 E).1
     simpa using this
    subst hj;have:u=v:=by simpa using E
    subst this;have BE:∀ us,u ≠ .agg us:=by
     rintro us rfl;cases I
    cases u<;>first|exact absurd rfl (BE _)|rfl
  let W:Wd:=⟨w,λ_=>none,λr=>if 20000 <= r/\r<60000 then some (zI cc r)else none,hQ,λr I=>bM⟩
  refine calls_of_wp hf hb ?_;rw[<- hF x]at h;unfold adq at h;have hR:R W N (adp (gn ai x)) { tmps:=cc++Array.replicate (fn.ntmps-cc.size) undef,defers:=[] } w:=by
   refine⟨λ_=>none,zI cc,.of (Below.refl w.heap.size w) (eK _),(λb k hk=>by cases hk),(λn y C=>?_),λi=>?_,by simp[hN];omega,rfl,λr l I=>?_,λr I=>?_⟩
   ·have C:WY (gn ai x) n=some y:=C;unfold WY at C;cases hb:(Nat.ble 20001 n&&Nat.blt n 60000)with
    |false=>rw[hb]at C;cases C
    | true=>
     rw[hb,ak]at C;split at C
     ·rename_i b xs O;split at C
      next t' g q l hl=>injection C with C;subst C;obtain⟨u,Q,I,sk,_⟩:=W0 _ _ O _ _ hl;refine .sl u _ ?_ (I.key sk);unfold zI;simp[*]
      ·cases C
     ·cases C
   ·show RA w w.heap.size _ _ (match (gn ai x)[i]? with | some (false,[x])=>A.lf (Em i 0 x) | some (true,xs)=>.agg (wY i 0 xs) | _=>.undef) _;have DA:∀ p:Pt,(gn ai x)[i]?=some p -> ∃ u:Value,cc[i]?=some u/\(cc++Array.replicate (fn.ntmps-cc.size) undef).getD i undef=u:=by
     intro p O;obtain⟨u,Q,_⟩:=uJ i p O;have hi:=(gd.1 Q).1;exact⟨u,Q,by rw[ij,Array.getElem?_append_left hi,Q];rfl⟩
    split
    ·rename_i x' qW;obtain⟨u,Q,e⟩:=DA _ qW;rw[e];obtain⟨v,E,I,sk,_⟩:=W0 i _ qW 0 x' rfl;have UU:u=v:=by
      unfold tH at E;rw[Q]at E;obtain⟨u2,Y,⟨us,D,h2,h3⟩,_⟩:=uJ i _ qW;rw[Q]at Y;injection Y with Y;subst Y;have D:us = #[u]:=D;subst D;obtain⟨v3,hv3,hr3⟩:=h3 0 x' rfl;have:u=v3:=by simpa using hv3
      subst this;have BE:∀ us,u ≠ .agg us:=by
       rintro us rfl;cases hr3
      cases u<;>first|exact absurd rfl (BE _)|(simp only[show Nat.beq 0 0=true from rfl,ak,iE]at E;exact E)
     subst UU;exact adu (by omega) E sk I
    ·rename_i xs qW;obtain⟨u,Q,e⟩:=DA _ qW;rw[e];obtain⟨u2,Y,⟨us,D,h2,h3⟩,_⟩:=uJ i _ qW;rw[Q]at Y;injection Y with Y;subst Y;have D:u = .agg us:=D
     refine⟨us,D,by rw[ads];exact h2,λj y C=>?_⟩
     rw[adr]at C;cases hz:xs[j]? with
     |none=>rw[hz]at C;cases C
     | some z=>
      rw[hz]at C;injection C with C;subst C;obtain⟨v,E,I,sk,hj⟩:=W0 i _ qW j z hz;have huj:us[j]?=some v:=by
       unfold tH at E;rw[Q,D]at E;exact E
      refine⟨v,huj,?_⟩;rw[fj];exact adu hj E sk I
    ·trivial
   ·have I:(if 20000 <= r/\r<60000 then some (zI cc r)else none)=some l:=I;split at I
    ·injection I
    ·cases I
   ·show (if 20000 <= r/\r<60000 then some (zI cc r)else none)=none;rw[bM]
  refine wp_mono (Ee (w0:=W) fL code _ _ h wX _ w hR) λe a' w' Z=>?_
  obtain⟨dR,hk,DP,DN,gA⟩:=Z;have fin:OC dR fn.results J L t=some p -> a'.defers=[] /\ ∃ u,(results fn a'.tmps).run P w' = .ok u w' /\ ∃ A n cap,tH cc J L=some (.slice A n cap)/\p.1 <= p.2/\p.2 <= n/\Ending.returned u = .returned (sliced A p.1 p.2 cap (aF t))/\Below w.heap.size w w':=by
   intro U;unfold OC at U;split at U
   ·rename_i s hs;split at U
    ·rename_i n sz i k E;cases gX:(Nat.beq n (nV J L)&&Nat.beq sz (aF t))with
     |false=>rw[gX]at U;cases U
     | true=>
      rw[gX,ak]at U;injection U with U;subst U;rw[aO]at gX;have hn:=cD gX.1;have aqc:=cD gX.2;subst hn aqc;have D:=gA.tmp s;rw[E]at D;obtain⟨A,m,c,T,e2,e3,e4⟩:=D;have hjj:=cL hjj;have BE:20000 <= nV J L:=by unfold nV;omega
      by_cases ei:nV J L<60000
      ·have WX:=gA.fix (nV J L) (zI cc (nV J L)) (bA ⟨BE,ei⟩);have T:(match DN (nV J L)with | .dM v=>some v | _=>none)=some (Value.slice A m c):=T;rw[WX]at T;obtain⟨d1,d2⟩:=adt (i:=J) (j:=L) (by omega);have T:some ((tH cc ((nV J L-20001) / 1000) ((nV J L-20001) % 1000)).getD undef)=some (Value.slice A m c):=T;rw[d1,d2]at T;injection T with T
       refine⟨gA.defers,_,?_,A,m,c,?_,e2,e3,bH Ending.returned e4,⟨gA.below.os,gA.below.tape,gA.below.output,gA.below.size,λk hk=>gA.below.block k hk rfl⟩⟩
       ·have jO:results fn a'.tmps=(do let vs <- fn.results.mapM (rq a'.tmps);pure (if h:vs.size=1 then vs[0]else .tuple vs)):=by
         unfold results;congr 1
        have qt:fn.results = #[.tmp s]:=by apply Array.ext';exact hs
        rw[jO,qt];simp[rq]
       ·cases hl:tH cc J L with
        |none=>rw[hl]at T;cases T
        |some u=>rw[hl]at T;exact bH some T
      ·exfalso;have:=cL haa;unfold nV at ei;omega
    ·cases U
   ·cases U
  split at hk
  next Z=>have Z:=sG Z;subst Z;exact fin hk
  next Z=>have Z:=sG Z;subst Z;exact fin hk
  ·cases hk
 ·cases h
end
def Wd.pin(d:Wd)(g:Nat)(l:ah Loc)(D:20000<=g):Wd:=⟨d.w,d.L,λr=>if r=g then l else d.F r,d.held,λr C=>by
 show (if r=g then l else d.F r)=none;rw[bM];exact d.low r C⟩
def zJ(g:Nat):aa (Bool×aa Lf)->A
 |[(false,[x])]=>.lf (x.drop g)
 |[(true,cs)]=>.agg (cs.map (Lf.drop g))
 |[(false,_)]=>.undef
 |ps=>.cR (ps.map λp=>(p.1,p.2.map (Lf.drop g)))
def Iq{X:Type}(P:Program)(g:Nat)(D:Array ResultVar)(C:S)(k:S->A->ah X):ah X:=
 rj P C D.toList λps=>match C.m g with
  |some (.gh ys)=>k ⟨λj=>((ys.map (A.drop g))[j]?).getD .undef,(C.drop g).m⟩ (zJ g ps)
  |_=>none
def adv(g N:Nat)(σ:S)(xs:aa A):S:=⟨λj=>((xs.map (A.drop g))[j]?).getD .undef,bW (σ.drop g).m g (some (.gh ((List.range N).map λj=>(σ.t j).drop g)))⟩
def Ir:mS:=λ_=>none
def Is{X:Type}(P:Program)(M g:Nat)(Φ:eo)(code:Code)(C:Array ResultVar)(N:Nat)(σ:S)(xs:aa A)(k:S->A->ah X):ah X:=
 bif Nat.ble xs.length M then gj P M Φ Ir code (adv g N σ xs) λe D=>match zG e with
  |some 0=>Iq P g C D k
  |some 1=>Iq P g C D k
  |_=>none
 else none
def adw(P:Program)(M g:Nat)(Φ:eo)(code:Code)(C:Array ResultVar):tJ:=⟨λX N σ xs k=>Is P M g Φ code C N σ xs k⟩
section
variable {P:Program} {w w':World} {w0:Wd} {B M N g:Nat} {aj aE:bG} {ρ ρ':Nat->Loc} {σ:S} {a:Act} {X:Type} {d:Nat} {r:X} {o:Oper} {Φ:eo} {Λ:mS}
def It{D:ah Tmp}{C:Bool}{k:S -> ah X}(h:pE σ D C k=some r):∃ E,k E=some r/\cA (λX k=>pE (X:=X) σ D C k) E:=by
 unfold pE at h;cases C with
 |false=>exact⟨σ,h,λX k=>rfl⟩
 | true=>
  split at h
  ·rename_i d;split at h
   ·rename_i b hb;cases b with
    |true=>exact⟨_,h,λX k=>by simp only[pE,ak,hb]⟩
    |false=>exact⟨_,h,λX k=>by simp only[pE,ak,hb,au]⟩
   ·rename_i hb;exact⟨σ,h,λX k=>by
     unfold pE;simp⟩
  ·exact⟨σ,h,λX k=>rfl⟩
theorem aqd[Inhabited Wd]{ops:Array Oper}{L i:Nat}{k:S -> ah X}(h:zp P N Φ ops L i σ o k=some r):∃ J,k J=some r/\cA (λX k=>zp (X:=X) P N Φ ops L i σ o k) J:=by
 unfold zp at h;split at h
 ·rename_i D;obtain⟨v,C,O,_⟩:=HS (w0:=default) (N:=N) h;cases E:v.jR _ _ with
  |false=>rw[E]at C;cases C
  | true=>
   rw[E]at C;obtain⟨I,Q⟩:=jT C;exact⟨_,I,λX k=>by
    simp[zp,D];refine(O.at_ _).trans ?_;rw[E];exact(Q σ).at_ _⟩
 next D=>obtain⟨C,I⟩:=jT h;exact⟨_,C,λX k=>by simp[zp,D];exact(I σ).at_ _⟩
 ·cases h
theorem W2[Inhabited Wd](J:fQ P Φ){ops:Array Oper}{k:S -> ah X}(h:dw P N Φ ops σ o k=some r):∃ C,k C=some r/\cA (λX k=>dw (X:=X) P N Φ ops σ o k) C:=by
 unfold dw at h;split at h
 next D=>obtain⟨C,E,I⟩:=NZ J h;exact⟨C,E,λX k=>by simp[dw,D];exact I X k⟩
 next D=>obtain⟨E,I⟩:=jT h;exact⟨_,E,λX k=>by simp[dw,D];exact(I σ).at_ _⟩
 ·cases h
theorem Iu[Inhabited Wd](D:fQ P Φ){ops:Array Oper}:∀ (f L:Nat) (σ:S) (k:S -> ah X),jS P N Φ ops f L σ k=some r -> ∃ Z,k Z=some r/\cA (λX k=>jS (X:=X) P N Φ ops f L σ k) Z
 | 0,L,σ,k,h=>by
  unfold jS at h;split at h
  next hr=>exact⟨σ,h,λX k=>by simp[jS,hr]⟩
  ·cases h
 | f+1,L,σ,k,h=>by
  unfold jS at h;split at h
  next hr=>exact⟨σ,h,λX k=>by simp[jS,hr]⟩
  ·rename_i i hr;split at h
   ·rename_i o E;obtain⟨Z,I,J⟩:=W2 D h;obtain⟨O,Q,T⟩:=It I;obtain⟨C,U,Y⟩:=Iu D f _ O k Q;exact⟨C,U,λX k=>by
     simp[jS,hr,E];exact(J.at_ _).trans ((T.at_ _).trans (Y.at_ _))⟩
   ·cases h
  ·rename_i rs hn hs;split at h
   ·rename_i i hf;split at h
    ·rename_i o E;obtain⟨Z,I,J⟩:=aqd h;obtain⟨O,Q,T⟩:=It I;obtain⟨C,U,Y⟩:=Iu D f _ O k Q
     refine⟨C,U,λX k=>?_⟩
     show jS P N Φ ops (f+1) L σ k=k C;unfold jS;split
     next e=>exact absurd e hn
     next i e=>exact absurd e (hs i)
     ·simp[hf,E];exact(J.at_ _).trans ((T.at_ _).trans (Y.at_ _))
    ·cases h
   ·rename_i hf;split at h
    ·rename_i i W3;split at h
     ·rename_i o E;obtain⟨Z,I,J⟩:=W2 D h;obtain⟨O,Q,T⟩:=It I;obtain⟨C,U,Y⟩:=Iu D f _ O k Q
      refine⟨C,U,λX k=>?_⟩
      show jS P N Φ ops (f+1) L σ k=k C;unfold jS;split
      next e=>exact absurd e hn
      next i e=>exact absurd e (hs i)
      ·simp[hf,W3,E];exact(J.at_ _).trans ((T.at_ _).trans (Y.at_ _))
     ·cases h
    ·rename_i W3;split at h
     ·rename_i i hf3;split at h
      ·rename_i o E;obtain⟨Z,I,J⟩:=W2 D h;obtain⟨O,Q,T⟩:=It I;obtain⟨C,U,Y⟩:=Iu D f _ O k Q
       refine⟨C,U,λX k=>?_⟩
       show jS P N Φ ops (f+1) L σ k=k C;unfold jS;split
       next e=>exact absurd e hn
       next i e=>exact absurd e (hs i)
       ·simp[hf,W3,hf3,E];exact(J.at_ _).trans ((T.at_ _).trans (Y.at_ _))
      ·cases h
     ·cases h
def aqe{t:TypeId}{x lo hi I:A}{k:ah X}(h:zl P σ t x lo hi I k=some r):k=some r /\ ∀ (D:Type) (E:ah D),zl P σ t x lo hi I E=E:=by
 unfold zl at h;split at h
 ·split at h
  ·rename_i J;split at h
   ·rename_i L;obtain⟨y,C,_,O⟩:=sA _ _ h;split at C
    ·split at C
     ·rename_i hb
      refine⟨C,λD E=>?_⟩
      simp[zl,J,L];refine(O D _).trans ?_;simp_all
     ·cases C
    ·cases C
   ·cases h
  ·cases h
 ·cases h
theorem aqf[Inhabited Wd](U:fQ P Φ){k:S->ah X}(h:nQ P N Φ σ o k=some r):∃ E,k E=some r/\∀ (D:Type) (C:S->ah D),nQ P N Φ σ o C=C E:=by
 have same:∀ σ2:S,(∀ (D:Type) (C:S->ah D),nQ P N Φ σ o C=dn P N Φ σ2 o C)->∃ E,k E=some r/\∀ (D:Type) (C:S->ah D),nQ P N Φ σ o C=C E:=by
  intro σ2 e;rw[e]at h;obtain⟨E,I,O⟩:=NZ U h;exact⟨E,I,λX k=>(e X k).trans (O X k)⟩
 cases J:o.op with
 | store t x y=>
  cases L:o.dst with
  |some d=>exact same σ λD C=>by simp only[nQ,J,L]
  | none=>
   have e:∀ (D:Type) (C:S->ah D),nQ P N Φ σ o C=(match aI σ y with
    |.view [q] s i j=>zk P σ q s i j t (aI σ x) C
    |_=>dn P N Φ σ o C):=λD C=>by simp only[nQ,J,L];rfl
   rw[e]at h;split at h
   next q s i j Q=>obtain⟨E,I,O⟩:=aoD h;exact⟨E,I,λX k=>by rw[e];simp only[Q];exact O.at_ _⟩
   ·rename_i Y;obtain⟨E,I,O⟩:=NZ U h
    refine⟨E,I,λX k=>?_⟩
    rw[e];split
    next q s i j Q=>exact(Y _ _ _ _ Q).elim
    ·exact O X k
 | slice t x lo hi Z=>
  cases L:o.dst with
  |none=>exact same σ λD C=>by simp only[nQ,J,L]
  | some d=>
   cases Z with
   | some m=>
    cases lo with
    |none=>exact same σ λD C=>by simp only[nQ,J,L]
    | some l=>
     cases hi with
     |none=>exact same σ λD C=>by simp only[nQ,J,L]
     | some u=>
      have e:∀(D:Type) (C:S->ah D),nQ P N Φ σ o C=zl P σ t (aI σ x) (aI σ l) (aI σ u) (aI σ m) (bif Nat.blt d N then C (σ.set d .undef)else none):=λD C=>by simp only[nQ,J,L]
      rw[e]at h;obtain⟨I,O⟩:=aqe h;cases T:Nat.blt d N with
      |false=>rw[T]at I;cases I
      | true=>
       rw[T,ak]at I;exact⟨_,I,λX k=>by rw[e,O,T,ak]⟩
   |none=>exact same σ λD C=>by simp only[nQ,J,L]
 |_=>exact same σ λD C=>by simp only[nQ,J]
theorem W4[Inhabited Wd](C:fQ P Φ){ops:Array Oper}:∀ (rest:aa Oper) (j:Nat) (σ:S) (k:S -> ah X),uZ P N Φ ops j rest σ k=some r -> ∃ D,k D=some r/\cA (λX k=>uZ (X:=X) P N Φ ops j rest σ k) D
 |[],j,σ,k,h=>⟨σ,h,λX k=>rfl⟩
 | o :: rest,j,σ,k,h=>by
  unfold uZ at h;split at h
  ·rename_i E;obtain⟨D,I,J⟩:=aqf C h;obtain⟨T,U,Y⟩:=It I;obtain⟨L,O,Q⟩:=W4 C rest _ T k U;exact⟨L,O,λX k=>by
    simp[uZ,E];exact(J _ _).trans ((Y.at_ _).trans (Q.at_ _))⟩
  ·rename_i E;obtain⟨I,J⟩:=jT h;obtain⟨L,O,Q⟩:=W4 C rest _ _ k I;exact⟨L,O,λX k=>by
    simp[uZ,E];exact((J σ).at_ _).trans (Q.at_ _)⟩
  ·cases h
theorem aqg[Inhabited Wd](Y:fQ P Φ):∀ (c:Code) (σ:S) (k:Exit->S->ah X),gj P N Φ Ir c σ k=some r->∃ e C,k e C=some r/\∀ (J:Type) (I:Exit->S->ah J),gj P N Φ Ir c σ I=I e C:=by
 intro c
 induction c with
 |skip=>exact λσ k h=>⟨_,_,h,λ_ _=>rfl⟩
 |label l=>exact λσ k h=>⟨_,_,h,λ_ _=>rfl⟩
 |ret=>exact λσ k h=>⟨_,_,h,λ_ _=>rfl⟩
 |exit id=>exact λσ k h=>⟨_,_,h,λ_ _=>rfl⟩
 | region id ops draw=>
  intro σ k h;cases draw with
  | true=>
   simp only[gj]at h;cases hm:P.follows .mixedOrders with
   |false=>rw[hm]at h;cases h
   | true=>
    rw[hm,ak]at h;obtain⟨C,D,E⟩:=Iu Y _ _ _ _ h;exact⟨_,C,D,λX k=>by simp only[gj,hm,ak];exact E.at_ _⟩
  | false=>
   simp only[gj]at h;obtain⟨C,D,E⟩:=W4 Y _ _ _ _ h;exact⟨_,C,D,λX k=>by simp only[gj];exact E.at_ _⟩
 | seq x y Q T=>
  intro σ k h;simp only[gj]at h;obtain⟨e,C,D,E⟩:=Q σ _ h;cases e with
  | normal=>
   obtain⟨Z,oh,h3,h4⟩:=T C k D;exact⟨Z,oh,h3,λX k=>by simp only[gj];rw[E];exact h4 X k⟩
  |_=>exact⟨_,C,D,λX k=>by simp only[gj];rw[E]⟩
 | cond c x y Q T=>
  intro σ k h;simp only[gj]at h;split at h
  ·rename_i b hb;cases b with
   | true=>
    obtain⟨e,C,D,E⟩:=Q σ k h;exact⟨e,C,D,λX k=>by simp only[gj,hb,ak];exact E X k⟩
   | false=>
    obtain⟨e,C,D,E⟩:=T σ k h;exact⟨e,C,D,λX k=>by simp only[gj,hb,au];exact E X k⟩
  ·cases h
 | block id c ih=>
  intro σ k h;have L:∀ (J:Type) (I:Exit->S->ah J),gj P N Φ Ir (.block id c) σ I=gj P N Φ Ir c σ λe U=>match e with
   |.exit O=>if O=id then I .normal U else I (.exit O) U
   |e=>I e U:=λJ I=>rfl
  rw[L]at h;obtain⟨e,C,D,E⟩:=ih σ _ h;cases e with
  | exit O=>
   by_cases hi:O=id
   ·simp only[hi,if_true]at D;exact⟨_,C,D,λX k=>by rw[L,E];simp only[hi,if_true]⟩
   ·simp only[hi,if_false]at D;exact⟨_,C,D,λX k=>by rw[L,E];simp only[hi,if_false]⟩
  |_=>exact⟨_,C,D,λX k=>by rw[L,E]⟩
 |_=>intro σ k h;simp[gj]at h
def W5:∀ (l:aa ResultVar) (k:aa (Bool×aa Lf) -> ah X),rj P σ l k=some r -> ∃ ps,k ps=some r/\cA (λX k=>rj (X:=X) P σ l k) ps
 |[],k,h=>⟨[],h,λX k=>rfl⟩
 | .tmp t :: rest,k,h=>by
  simp[rj]at h;split at h
  next p C=>obtain⟨ps,D,E⟩:=W5 rest _ h;exact⟨_,D,λX k=>by simp only[rj,C];exact E.at_ _⟩
  ·cases h
 | .cell c ty :: rest,k,h=>by
  obtain⟨y,I,J⟩:=HE h;split at I
  ·rename_i p C;obtain⟨ps,D,E⟩:=W5 rest _ I;exact⟨_,D,λX k=>by
    refine(J.at_ _).trans ?_;simp[C];exact E.at_ _⟩
  ·cases I
def aqh{C:Array ResultVar}{k:S -> A -> ah X}(h:Iq P g C σ k=some r):∃ ys ps,σ.m g=some (.gh ys)/\rj P σ C.toList some=some ps/\k ⟨λj=>((ys.map (A.drop g))[j]?).getD .undef,(σ.drop g).m⟩ (zJ g ps)=some r /\
  ∀(I:Type) (D:S -> A -> ah I),Iq P g C σ D=D ⟨λj=>((ys.map (A.drop g))[j]?).getD .undef,(σ.drop g).m⟩ (zJ g ps):=by
 obtain⟨ps,E,J⟩:=W5 _ _ h;split at E
 ·rename_i ys L;exact⟨ys,ps,L,J.at_ _,E,λI D=>by
   refine(J.at_ _).trans ?_;simp[L]⟩
 ·cases E
def List.adx(xs:aa A)(g j:Nat):((xs.map (A.drop g))[j]?).getD .undef=A.drop g ((xs[j]?).getD .undef):=by
 rw[dz];cases xs[j]?<;>rfl
def RP.zJ{ps:aa (Bool×aa Lf)}{C:aa Value}(I:∀ r,r≠g->ρ' r=ρ r)(hl:C.length=ps.length)(h:∀ (i:Nat) p v,ps[i]?=some p->C[i]?=some v->RP w B aj ρ p v):
  RA w B aj ρ' (zJ g ps) (if h:C.toArray.size=1 then C.toArray[0]else .tuple C.toArray):=by
 have cR:ps.length≠1->RA w B aj ρ' (.cR (ps.map λp=>(p.1,p.2.map (Lf.drop g)))) (if h:C.toArray.size=1 then C.toArray[0]else .tuple C.toArray):=by
  intro L;rw[dif_neg (by simpa [hl]using L)]
  refine⟨C.toArray,rfl,by simpa using hl,λj p D=>?_⟩
  rw[dz]at D;cases E:ps[j]? with
  |none=>rw[E]at D;cases D
  | some q=>
   rw[E]at D;injection D with D;subst D;have J:j<C.length:=by rw[hl];exact(dW.1 E).1
   exact⟨C[j],by simp[J],(h j q C[j] E (bX J)).eC I⟩
 unfold Proofs.YtglnbhiaknohlaaGreat.zJ;split
 ·rename_i x
  match C,hl,h with
  | [v],_,h=>
   have:=h 0 _ v rfl rfl;obtain⟨u,O,Q⟩:=this.2 0 x rfl;have:v=u:=by simpa using O
   subst this;exact Q.eC I
 ·rename_i cs
  match C,hl,h with
  |[v],_,h=>exact RP.eC I (p:=(true,cs)) (h 0 _ v rfl rfl)
 ·trivial
 ·rename_i Y T U
  refine cR λe=>?_
  obtain⟨⟨b,cs⟩,rfl⟩:=List.length_eq_one_iff.1 e;cases b with
  |true=>exact T cs rfl
  |false=>exact U cs rfl
def aqi{f:Nat}{fn:Func}{code:Code}(hf:P.funcs[f]?=some fn)(hb:fn.body=some code)(hN:fn.ntmps=M)(hM:M <= 20000)(BQ:(fn.name == "runtime.NumGoroutine")=false)(hg:20000 <= g/\g<60000)(fL:fQ P Φ):
  enters P f/\qm P f (adw P M g Φ code fn.results):=by
 refine⟨⟨fn,hf,BQ,by rw[hb];rfl⟩,λX N σ xs k r h=>?_⟩
 have h:Is P M g Φ code fn.results N σ xs k=some r:=h;unfold Is at h;cases hl:Nat.ble xs.length M with
 |false=>rw[hl]at h;cases h
 | true=>
  rw[hl,ak]at h;have A7:=cL hl;obtain⟨e,τ,U,h2⟩:=aqg fL _ _ _ h;have h3:(e = .normal \/ e = .ret)/\Iq P g fn.results τ k=some r:=by
   split at U
   next O=>exact⟨.inl (sG O),U⟩
   next O=>exact⟨.inr (sG O),U⟩
   ·cases U
  obtain⟨hex,h3⟩:=h3;obtain⟨ys,ps,hy,qh,hk,hd⟩:=aqh h3
  refine⟨_,_,hk,λX' k'=>?_,λw0 aj ρ a w cc hR ga hv=>?_⟩
  ·show Is P M g Φ code fn.results N σ xs k'=_;unfold Is;rw[hl,ak,h2];rcases hex with rfl | rfl
   ·exact hd X' k'
   ·exact hd X' k'
  ·let us:=a.tmps.toList
   let W:Wd:=w0.pin g (some (.cc us)) hg.1
   let Q:=bW ρ g (.cc us)
   have Y:∀r,r≠g -> Q r=ρ r:=λr hr=>cB _ _ _ hr
   have mG:∀ j,us.getD j undef=a.tmps.getD j undef:=λj=>by
    show a.tmps.toList.getD j undef=_;rw[fk,Array.getElem?_toList,ij]
   have hle:cc.size <= M:=by rw[ga];exact A7
   have sy:Rl W M aj Q (adv g N σ xs) { tmps:=cc++Array.replicate (fn.ntmps-cc.size) undef,defers:=[] } w:=by
    refine⟨⟨hR.below.os,hR.below.tape,hR.below.output,hR.below.size,hR.below.block⟩,hR.cX,λr x C=>?_,λj=>?_,by simp[hN];omega,rfl,λr l hr=>?_,λr hr=>?_⟩
    ·have C:bW (σ.drop g).m g (some (.gh ((List.range N).map λj=>(σ.t j).drop g))) r=some x:=C;by_cases D:r=g
     ·subst D;rw[ck]at C;injection C with C;subst C
      refine .gh us _ (ck _ _ _) λj x I=>?_
      rw[dz]at I;cases hr:(List.range N)[j]? with
      |none=>rw[hr]at I;cases I
      | some j'=>
       rw[hr]at I;injection I with I;obtain⟨ei,r8⟩:=dW.1 hr;rw[ko]at r8;subst r8 I;rw[mG];exact(hR.tmp j).eC Y
     ·rw[cB _ _ _ D]at C;have C:(bif Nat.beq r g then none else (σ.m r).map (aY.drop g))=some x:=C;cases hb:Nat.beq r g with
      |true=>rw[hb]at C;cases C
      | false=>
       rw[hb,au]at C;cases hm:σ.m r with
       |none=>rw[hm]at C;cases C
       | some y=>
        rw[hm]at C;injection C with C;subst C;exact(hR.root r y hm).eC Y D
    ·show RA w w0.heap.size aj Q (((xs.map (A.drop g))[j]?).getD .undef) _;rw[List.adx];by_cases I:j<cc.size
     ·have e1:(cc++Array.replicate (fn.ntmps-cc.size) undef).getD j undef=cc.getD j undef:=by
       rw[ij,Array.getElem?_append_left I,ij]
      show RA w _ aj Q _ ((cc++Array.replicate _ undef).getD j undef);rw[e1];exact(hv j).eC Y
     ·rw[List.getElem?_eq_none (by omega:xs.length <= j)];trivial
    ·have hr:(if r=g then some (Loc.cc us)else w0.F r)=some l:=hr;by_cases D:r=g
     ·rw[bA D]at hr;injection hr with hr;rw[D,<- hr];exact ck _ _ _
     ·rw[bM D]at hr;rw[Y r D];exact hR.fix r l hr
    ·show (if r=g then some (Loc.cc us)else w0.F r)=none;rw[bM];rcases hr with hr | hr
     ·exact w0.low r (by omega)
     ·exact hR.dx r (.inr hr)
   refine calls_of_wp hf hb ?_
   refine wp_mono (Ee (w0:=W) fL code _ (λe τ=>some (e,τ)) (h2 _ _) (λp hp b hb=>by cases hb) _ w ⟨aj,Q,sy⟩) λe' J w' O=>?_
   obtain⟨Z,tv,aE,ρ',E⟩:=O;injection tv with tv;injection tv with k1 k2;subst k1 k2;have Hw:ρ' g = .cc us:=E.fix g _ (bA rfl);let eD:=bW ρ' g ((w0.F g).getD (.aB 0 0))
   have DU:∀r,r≠g -> eD r=ρ' r:=λr hr=>cB _ _ _ hr
   obtain⟨wI,W7,nI⟩:=Ho (w0:=W) (N:=M) _ _ qh;injection W7 with W7;subst W7;obtain⟨T,dZ,hlen,lT⟩:=nI aE ρ' J w' E;have aqj:(fn.results.mapM (rq J.tmps)).run P w' = .ok T.toArray w':=by
    rw[Array.mapM_eq_mapM_toList];simp[dZ]
   have jO:results fn J.tmps=(do let T <- fn.results.mapM (rq J.tmps);pure (if h:T.size=1 then T[0]else .tuple T)):=by
    unfold results;congr 1
   have hRf:Rl w0 N aE eD ⟨λj=>((ys.map (A.drop g))[j]?).getD .undef,(Z.drop g).m⟩ a w':=by
    refine⟨⟨E.below.os,E.below.tape,E.below.output,E.below.size,E.below.block⟩,E.cX,λr x C=>?_,λj=>?_,hR.size,hR.defers,λr l hr=>?_,hR.dx⟩
    ·have C:(bif Nat.beq r g then none else (Z.m r).map (aY.drop g))=some x:=C;cases hb:Nat.beq r g with
     |true=>rw[hb]at C;cases C
     | false=>
      have D:r≠g:=by rintro rfl;simp at hb
      rw[hb,au]at C;cases hm:Z.m r with
      |none=>rw[hm]at C;cases C
      | some y=>
       rw[hm]at C;injection C with C;subst C;exact(E.root r y hm).eC DU D
    ·show RA w' w0.heap.size aE eD (((ys.map (A.drop g))[j]?).getD .undef) _;rw[List.adx];cases hyj:ys[j]? with
     |none=>trivial
     | some y=>
      have gF:=E.root g _ hy;generalize L:aY.gh ys=z at gF;cases gF with
      |aB=>cases L
      |sl=>cases L
      |mp=>cases L
      | gh M3 xs' wJ hx3=>
       injection L with L;subst L;rw[Hw]at wJ;injection wJ with wJ;subst wJ;have:=hx3 j y hyj;rw[mG]at this;exact this.eC DU
    ·by_cases D:r=g
     ·subst D;show bW ρ' r ((w0.F r).getD _) r=l;rw[ck,hr];rfl
     ·rw[DU r D];exact E.fix r l ((bM D).trans hr)
   have fin:J.defers=[] /\ ∃ v,(results fn J.tmps).run P w' = .ok v w' /\ ∃ Io aE ρ',Ending.returned v=Ending.returned Io/\Rl w0 N aE ρ' ⟨λj=>((ys.map (A.drop g))[j]?).getD .undef,(Z.drop g).m⟩ a w'/\RA w' w0.heap.size aE ρ' (zJ g wI) Io:=
    ⟨E.defers,_,by rw[jO,fm,aqj,ki,Sem.run_pure],_,aE,eD,rfl,hRf,RP.zJ DU hlen lT⟩
   rcases hex with rfl|rfl
   ·exact fin
   ·exact fin
end
end Go.Proofs.YtglnbhiaknohlaaGreat
