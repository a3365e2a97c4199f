/-
  Running the program over pure contents, and that it follows (part 5). Nothing here is a claim.
-/
import Derived.Test.YtglnbhiaknohlaaGreatV4
set_option linter.unusedSimpArgs false
namespace Go.Proofs.YtglnbhiaknohlaaGreat
set_option linter.defProp false
open Go.RowKit
set_option linter.unusedVariables false
section
variable {P:Program} {w w':World} {w0:Wd} {B N:Nat} {ah aE:bG} {ρ ρ':Nat->Loc} {σ:S} {a:Act} {X:Type} {d:Nat} {r:X} {o:Oper} {Φ:eD} {p:Nat->Bool} {ops:Array Oper} {e:Nat} {x:aZ} {u:A} {Λ:m7}
def acz{i W j:Nat}{C:Oper}(D:ops[j]?=some C)(h:HX ops i W j=true):∃ e∈C.after,Region.binds .any e=true/\(e.on=i\/W.testBit e.on=true):=by
 unfold HX at h;rw[D]at h;obtain⟨e,E,hb⟩:=List.any_eq_true.1 h;rw[aM,ei]at hb
 refine⟨e,by simpa using E,hb.1,hb.2.imp (λh=>ck h) id⟩
def V9{g:Oper -> Bool}{C:Oper}{i L W:Nat}:∀ (n j:Nat),HY g ops C i L W n j=true -> ∀ k,j <= k -> k<j+n -> k=i \/ L.testBit k=true \/ (W.testBit k=true/\HX ops i W k=true) \/ (W.testBit k=false /\ ∀ ok,ops[k]?=some ok -> g ok=true/\C.apart ops ok=true)
 |0,j,_,k,D,E=>by omega
 | n+1,j,h,k,D,E=>by
  unfold HY at h;rw[aM,ei,ei]at h;by_cases I:k=j
  ·subst I;rcases h.1 with (h | h) | h
   ·exact .inl (ck h)
   ·exact .inr (.inl h)
   ·grind
  ·exact V9 n (j+1) h.2 k (by omega) (by omega)
def pZ{g:Oper -> Bool}{i L W:Nat}:∀ (n j:Nat) (k:Nat),j <= k -> k<j+n -> k≠i -> L.testBit k=false -> W.testBit k=false -> ∀ ok,ops[k]?=some ok -> g ok=true -> ij g ops i L W n j=true
 |0,j,k,C,D,_,_,_,_,_,_=>by omega
 | n+1,j,k,C,D,hi,E,I,ok,J,O=>by
  unfold ij;rw[ei];by_cases Q:k=j
  ·subst Q;refine .inl ?_;have hb:Nat.beq k i=false:=by
    cases hb:Nat.beq k i with
    |false=>rfl
    |true=>simp_all
   simp_all
  ·exact .inr (pZ n _ k (by omega) (by omega) hi E I ok J O)
def acA{g:Oper -> Bool}{i L W:Nat}:∀ (n j:Nat),ij g ops i L W n j=true -> ∃ k ok,ops[k]?=some ok/\k≠i/\L.testBit k=false/\W.testBit k=false/\g ok=true
 |0,j,h=>by cases h
 | n+1,j,h=>by
  unfold ij at h;rw[ei]at h;rcases h with h|h
  ·rw[aM,gy,o9,o9]at h;obtain⟨⟨⟨D,E⟩,I⟩,C⟩:=h;split at C
   next ok J=>exact⟨j,ok,J,(by rintro rfl;rw[Nat.beq_refl]at D;cases D),E,I,C⟩
   ·cases C
  ·exact acA n _ h
theorem ao8[Inhabited Wd]{L i:Nat}{k:S -> aj X}(E:fM o.op=true \/ fN σ ops o=some false)(I:VB σ (zC Φ ops i L (waits ops i ops.size 0 0) σ) (BO σ ops i L (waits ops i ops.size 0 0)) o=true)(h:zE P N Φ ops L i σ o k=some r):
  ∃v,k (gq σ o.dst v)=some r/\m8 P ops o (zC Φ ops i L (waits ops i ops.size 0 0) σ) (BO σ ops i L (waits ops i ops.size 0 0)) v σ /\ ∀σ:S,iB N σ o.dst v some=some (gq σ o.dst v):=by
 unfold zE at h;unfold VB at I;rw[aM]at I;split at h
 ·rename_i C;obtain⟨v,D,U,_⟩:=H7 (w0:=default) (N:=N) h;cases J:v.kz _ _ with
  |false=>rw[J]at D;cases D
  | true=>
   rw[J,ak]at D;obtain⟨O,Q⟩:=kB D;have E:=E.resolve_right (by rw[C];simp)
   refine⟨v,O,.inl ⟨C,E,U,λy T=>cE.1 I.1 y (by simpa using T),J,λt y r j e T=>?_⟩,λσ=>(Q σ).at_ _⟩
   simp_all
 next C=>obtain⟨O,Q⟩:=kB h;exact⟨.skip,O,.inr ⟨C,rfl⟩,λσ=>(Q σ).at_ _⟩
 ·cases h
def Es{i L W n:Nat}(h:zB Φ ops i L W σ n=true):zC Φ ops i L W σ n=true:=by unfold zC;rw[h];rfl
def ao9{i L W:Nat}(h:GW Φ ops i L W σ o=true):∃ ty t y,o.op = .store ty (.tmp t) y/\o.dst=none/\NV Φ ops i L W σ t=true/\(∀ k,σ.t t ≠ .ptr k) /\ ∀ r j,σ.t t = .aG r j -> BN σ o=[r]:=by
 unfold GW at h;split at h
 ·rename_i ty t y C;rw[aM,aM]at h
  refine⟨ty,t,y,C,by simpa using h.1.1,h.1.2,λk E=>?_,λr j D=>by simp[BN,C,D]⟩
  simp_all
 ·cases h
def apa{i L W:Nat}(h:Vz Φ ops i L W o=true):∃ x y t C,o.op = .call ⟨.builtin .append,⟨[.tmp x,y]⟩,⟨[t,C]⟩⟩/\m0 Φ ops i L W x=true/\(oE t=false/\Nat.beq t C=true/\BI o.dst t (.tmp x)=false):=by
 unfold Vz at h
 grind
def apb{i L W:Nat}(h:Vy Φ ops i L W σ o=true):∃ f args C c,o.op = .call { callee:=.value (.func f),args:=args,argTypes:=C } /\ Φ f=some (.m c)/\NS c=true/\sS (λt r=>!ij (ku t) ops i L W ops.size 0 && !ij (λok=>ef ok r) ops i L W ops.size 0 && !ij isApp ops i L W ops.size 0) σ c.ps args.toList=true/\qK Φ σ o=iV σ c.ps args.toList:=by
 unfold Vy at h;split at h
 ·rename_i f args C D;split at h
  next c E=>rw[aM]at h;exact⟨f,args,C,c,D,E,h.1,h.2,by simp[qK,D,E]⟩
  ·cases h
 ·cases h
def Ik{p:Nat -> Bool}:∀ (ps:aa PK) (xs:aa Operand),(∀ x∈xs,(aI σ x).nr p=true) -> ∀ n∈iV σ ps xs,p n=false
 |[],[],_,n,hn=>by cases hn
 |.v _ _::ps,x::xs,h,n,hn=>Ik ps xs (λy C=>h y (.tail _ C)) n hn
 |.s _ _::ps,x::xs,h,n,hn=>Ik ps xs (λy C=>h y (.tail _ C)) n hn
 | .p _ _ _ :: ps,x :: xs,h,n,hn=>by
  simp[iV]at hn;split at hn
  ·rename_i I j E;rcases fQ.1 hn with rfl | hn
   ·have D:=h x (.head _);rw[E]at D;have D:(!p n)=true:=D
    simpa using D
   ·exact Ik ps xs (λy C=>h y (.tail _ C)) n hn
  ·exact Ik ps xs (λy C=>h y (.tail _ C)) n hn
def Oh{D:aj Tmp}{g:Bool}{k:S -> aj X}(h:pV σ D g k=some r):k σ=some r:=by
 unfold pV at h;cases g with
 |false=>exact h
 | true=>
  rw[ak]at h;split at h
  ·rename_i d;split at h
   ·rename_i b hb;have:∀ c,b=c -> σ.set d (.lf (.v (.bool c)))=σ:=by
     rintro c rfl
     refine S.ext' (λk=>?_) λ_=>rfl
     show bV _ _ _ _=_;by_cases C:k=d
     ·subst C;rw[cg,hb]
     ·rw[cF _ _ _ C]
    grind
   ·exact h
  ·exact h
def acB{L j:Nat}(h:mB ops L j=true):j<ops.size:=by
 obtain⟨_,o,C,_⟩:=Ih.1 h
 grind
def BW{L j:Nat}:j∈(List.range ops.size).filter (mB ops L) ↔ mB ops L j=true:=by
 rw[List.mem_filter,eV];exact⟨λh=>h.2,λh=>⟨acB h,h⟩⟩
structure acC (ops:Array Oper) (p:Nat->Bool) (σ:S) (o:Oper):Prop where
 is:oF o=true
 want:fN σ ops o=some true
 aB4:∀y∈o.op.operands,(aI σ y).fM=true/\∀t,y = .tmp t->p t=false
 guard:∀g c t,o.guard=some (g,c)->(ops[g]?).bind (·.dst)=some t->p t=false
def apc{x:A}{n:Nat}{z:V}(h:rU x n=some z)(X:Type)(k:A -> aj X):wF x n k=k (.lf (.v z)):=by
 unfold rU at h;split at h
 ·split at h
  next xs _ _ C=>injection h with h;subst h;simp[wF,C,Option.bind_some,sH]
  ·cases h
 ·cases h
def acD{x:A}{n:Nat}{z:V}{g:Lf -> Lf}{G:A -> A}(C:∀ xs,G (.cQ xs) = .cQ (xs.map λp=>(p.1,p.2.map g)))(D:∀ z,g (.v z) = .v z)(h:rU x n=some z):rU (G x) n=some z:=by
 unfold rU at h;split at h
 ·split at h
  next xs _ _ E=>injection h with h;subst h;rw[C];simp[rU,dw,E,jj,List.map_cons,List.map_nil,D]
  ·cases h
 ·cases h
def Wa{v:A}(C:∀ q,v.drop q=v){rr d:Nat}{key:Nat -> aa Nat}:∀ (f j:Nat) (xs:aa Lf) (σ:S),ic rr key f j xs (σ.set d v)=(ic rr key f j xs σ).map λp=>(p.1,p.2.set d v)
 |_,_,[],σ=>by simp[ic]
 |0,j,x::xs,σ=>by cases x<;>simp[ic]
 | f+1,j,.v x :: xs,σ=>by
  simp only[ic,Wa C f];cases ic rr key f (j+1) xs σ<;>rfl
 | f+1,j,.own [q] :: xs,σ=>by
  simp only[ic];show (match σ.m q with
   |some (.sl z)=>_
   |_=>none)=_
  cases D:σ.m q with
  |none=>rfl
  | some y=>
   cases y with
   | sl z=>
    cases Nat.beq q rr with
    |true=>rfl
    | false=>
     simp only[aq];rw[S.drop_set q (C q),Wa C f];cases ic rr key f (j+1) (xs.map (Lf.drop q)) (σ.drop q)<;>rfl
   |_=>rfl
 |f+1,j,.own []::xs,σ=>rfl
 |f+1,j,.own (_::_::_)::xs,σ=>rfl
 |f+1,j,.dead::xs,σ=>rfl
def Wb{rr:Nat}{key:Nat -> aa Nat}{x n:Nat}{z:V}:∀ (f j:Nat) (xs:aa Lf) (σ C:S) (D:aa V),ic rr key f j xs σ=some (D,C) -> rU (σ.t x) n=some z -> rU (C.t x) n=some z
 | _,_,[],σ,C,D,h,E=>by
  simp only[ic]at h;simp_all
 |0,j,y::xs,σ,C,D,h,E=>by cases y<;>simp[ic]at h
 | f+1,j,.v y :: xs,σ,C,D,h,E=>by
  simp only[ic]at h;cases I:ic rr key f (j+1) xs σ with
  |none=>simp_all
  | some p=>
   rw[I]at h;injection h with h;injection h with _ h;subst h;exact Wb f (j+1) xs σ p.2 p.1 I E
 | f+1,j,.own [q] :: xs,σ,C,D,h,E=>by
  simp only[ic]at h;split at h
  ·cases hb:Nat.beq q rr with
   |true=>simp_all
   | false=>
    rw[hb,aq]at h;cases I:ic rr key f (j+1) (xs.map (Lf.drop q)) (σ.drop q)with
    |none=>simp_all
    | some p=>
     rw[I]at h;injection h with h;injection h with _ h;subst h;refine Wb f (j+1) _ (σ.drop q) p.2 p.1 I ?_;exact acD (G:=A.drop q) (g:=Lf.drop q) (λ_=>rfl) (λ_=>rfl) E
  ·cases h
def apd{d:Nat}{v:V}{t:TypeId}{x y:A}{I:S}(h:rT P (σ.set d (.lf (.v v))) t x y some=some I):∃ D,rT P σ t x y some=some D/\I=D.set d (.lf (.v v)) /\ ∀ (e n:Nat) (z:V),rU (σ.t e) n=some z -> rU (D.t e) n=some z:=by
 unfold rT at h;split at h
 ·rename_i n xs j i s rr U Y;split at h
  ·rename_i hlen;cases J:xs.all Lf.live with
   |false=>simp_all
   | true=>
    rw[J,ak]at h;split at h
    ·rename_i vs τ1 C;rw[Wa (v:=.lf (.v v)) (λ_=>rfl)]at C;cases E:ic rr (λm=>(j+m) :: i :: s :: [rr]) xs.length 0 xs σ with
     |none=>simp_all
     | some p=>
      rw[E]at C;obtain⟨vs0,L⟩:=p;injection C with C;injection C with Z e2;subst Z e2;split at h
      ·rename_i O Q T l jA;have ape:L.m rr=some (.sl (.sl O (Q+2) T l)):=jA;split at h
       ·rename_i nM;split at h
        ·rename_i hi;split at h
         ·rename_i hj;split at h
          ·rename_i e he;injection h with h
           refine⟨L.bH [rr] [] [(rr,.sl (.sl O (Q+2) T (l.set i e)))],?_,?_,λex nx z hz=>?_⟩
           ·simp[rT,U,Y,br hlen,J,ak,E,ape,br nM,az hi,br hj,he]
           ·rw[<- h];exact S.N2 _ rfl
           ·exact acD (G:=A.bH [rr] []) (λ_=>rfl) (λ_=>rfl) (Wb _ _ _ _ _ _ E hz)
          ·cases h
         ·cases h
        ·cases h
       ·cases h
      ·cases h
    ·cases h
  ·cases h
 ·cases h
def acE{t:TypeId}{a b:Operand}(C:o.op = .store t a b)(D:o.dst=none)(E:vn (aI σ a) (aI σ b)=true):dm P N Φ σ o some=rT P σ t (aI σ a) (aI σ b) some:=by
 unfold dm;rw[show fM o.op=false by rw[C];rfl,aq];simp[ig,C,D,E,ak]
theorem apf[Inhabited Wd](fO:fX P Φ){K:S -> Prop}{f L i:Nat}{Q:Oper}{Y:S}(hi:ops[i]?=some Q)(hr:mB ops L i=true)(D:VD ops L σ i=true)(jA:dn P N Φ ops σ Q some=some Y)(H:Any P N Φ ops K f (L ||| 2 ^ i) Y):Any P N Φ ops K (f+1) L σ:=by
 unfold VD at D;rw[hi]at D;split at D
 ·rename_i oi' j0 Z apg;injection Z with Z;subst Z;split at D
  ·rename_i x n d oj zM zN BX hj0;split at D
   ·rename_i ty a b T acF acG;rw[aM,aM]at D;obtain⟨⟨c1,c2⟩,c3⟩:=D;obtain⟨z,hz⟩:=Option.isSome_iff_exists.1 c1;obtain⟨a1,a2,a3⟩:=Oper.apart_spec c3;have hpd:∀ j,j<ops.size -> j≠i -> L.testBit j=false -> j=j0:=by
     intro j E I J;have:j∈(List.range ops.size).filter (λj=>!(Nat.beq j i || L.testBit j)):=by
      rw[List.mem_filter];refine⟨eV.2 E,?_⟩;rw[J,Bool.or_false];cases hb:Nat.beq j i with
      |false=>rfl
      |true=>exact absurd (ck hb) I
     rw[apg]at this;exact oe.1 this
    have rW:∀ σ2:S,rU (σ2.t x) n=some z -> dn P N Φ ops σ2 Q some=iB N σ2 (some d) (.lf (.v z)) some:=by
     intro σ2 h2;unfold dn;simp only[fN,BX];unfold dm;rw[show fM Q.op=true by rw[zM];rfl,ak,zM];simp only[eE];rw[show aI σ2 (.tmp x)=σ2.t x from rfl,apc h2,zN]
    have hN:∀ σ2:S,iB N σ2 (some d) (.lf (.v z)) some=some (σ2.set d (.lf (.v z))):=by
     intro σ2;rw[rW σ hz]at jA;obtain⟨_,g2⟩:=kB jA;exact(g2 σ2).at_ _
    have hE:Y=σ.set d (.lf (.v z)):=by
     grind
    rw[hE]at H
    refine VV (W:=0) hi (λj oj _ E=>by rw[Nat.zero_testBit]at E;cases E) (λσ=>σ.set d (.lf (.v z)))
     (λL' C=>rU (C.t x) n=some z /\ ∀j,j<ops.size -> j≠i -> L'.testBit j=false -> j=j0/\vn (aI C a) (aI C b)=true)
     (λL' C U=>(rW C U.1).trans (hN C)) (λL' C j oj' ov U O I J _ zL=>?_) f L σ (λj E=>by rw[Nat.zero_testBit]at E;cases E) hr
     ⟨hz,λj E I J=>⟨hpd j E I J,c2⟩⟩ H
    obtain⟨rfl,hg⟩:=U.2 j (gd.1 O).1 I J;rw[hj0]at O;injection O with O;subst O;have ha:aI (C.set d (.lf (.v z))) a=aI C a:=El (a1 d zN) _ (by rw[T];simp[Op.operands]);have hb:aI (C.set d (.lf (.v z))) b=aI C b:=El (a1 d zN) _ (by rw[T];simp[Op.operands]);have lJ:dn P N Φ ops (C.set d (.lf (.v z))) oj some=rT P (C.set d (.lf (.v z))) ty (aI C a) (aI C b) some:=by
     unfold dn;simp only[fN,acG];rw[acE T acF (by rw[ha,hb];exact hg),ha,hb]
    rw[lJ]at zL;obtain⟨σ2,h1,h2,h3⟩:=apd zL
    refine⟨σ2,?_,h2,h3 _ _ _ U.1,λk hk hki hkL=>?_⟩
    ·unfold dn;simp only[fN,acG];rw[acE T acF hg];exact h1
    ·grind
   ·cases D
  ·cases D
 ·cases D
theorem Il[Inhabited Wd](fO:fX P Φ):∀ (f L:Nat) (σ:S) (k:S -> aj X),kA P N Φ ops f L σ k=some r -> Any P N Φ ops (λτ=>k τ=some r) f L σ
 | 0,L,σ,k,h=>by
  unfold kA at h;split at h
  ·rename_i hr
   refine⟨λj=>?_,h⟩
   cases T:mB ops L j with
   |false=>rfl
   |true=>have:=BW.2 T;rw[hr]at this;cases this
  ·cases h
 | f+1,L,σ,k,h=>by
  unfold kA at h;split at h
  ·rename_i hr
   refine⟨λ_=>h,λj T=>?_⟩
   have:=BW.2 T;rw[hr]at this;cases this
  ·rename_i i hr;have hi:mB ops L i=true:=BW.1 (by rw[hr];exact .head _)
   refine⟨λh=>absurd (h i) (by rw[hi];simp),λj T=>?_⟩
   have T:=BW.2 T;rw[hr]at T;obtain rfl:=oe.1 T;split at h
   next o ho=>obtain⟨τ,h1,h2⟩:=VL fO h;exact⟨o,τ,ho,h2,Il fO f _ τ k (Oh h1)⟩
   ·cases h
  ·rename_i rs Z hs;split at h
   ·rename_i i hf;have hc:=List.find?_some hf;have hm:=List.mem_of_find?_eq_some hf;have hi:=BW.1 hm;split at h
    ·rename_i o ho;unfold abW at hc;rw[ho,aM,aM,aM]at hc;obtain⟨⟨⟨c1,c2⟩,c3⟩,c4⟩:=hc;have c1:fM o.op=true \/ fN σ ops o=some false:=by
      rw[ei]at c1
      refine c1.imp id λc1=>?_
      split at c1
      next b hb=>rw[hb];cases b<;>first|rfl|cases c1
      ·cases c1
     obtain⟨v,h1,hF,hN⟩:=ao8 c1 c4 h;have qL:=V9 _ _ c3;have c2:=ck c2;have Im:∀ j,(waits ops i ops.size 0 0).testBit j=true -> (L ||| 2 ^ i).testBit j=false:=by
      intro j T;have:((L |||2 ^ i) &&& waits ops i ops.size 0 0).testBit j=false:=by rw[c2];exact Nat.zero_testBit j
      rw[Nat.testBit_and,T,Bool.and_true]at this;exact this
     have vt:∀ j,(waits ops i ops.size 0 0).testBit j=true -> L.testBit j=false:=by
      intro j T;have:=Im j T;rw[zJ,o9]at this;exact this.1
     refine aoM (W:=waits ops i ops.size 0 0) (ok:=λt r=>!ij (ku t) ops i L (waits ops i ops.size 0 0) ops.size 0 && !ij (λok=>ef ok r) ops i L (waits ops i ops.size 0 0) ops.size 0 && !ij isApp ops i L (waits ops i ops.size 0 0) ops.size 0) (rV:=NV Φ ops i L (waits ops i ops.size 0 0) σ) (m6:=m6 Φ ops i L (waits ops i ops.size 0 0) σ) (m0:=m0 Φ ops i L (waits ops i ops.size 0 0)) fO ho hN (λj C D T=>?_) f L σ (λt r jc j C D J O Q=>?_) (λx hx j C D J O Q=>?_) (λx hx=>?_) (λt jc j C D J O Q=>?_) (λt jc j C D J O Q=>?_) (λj C D J O Q=>?_) vt hi hF (Il fO f _ _ k (Oh h1))
     ·have dZ:=(gd.1 D).1;rcases qL j (by omega) (by omega)with e | e | e | e
      ·subst e;have:=Im j T;rw[zJ]at this;simp at this
      ·rw[vt j T]at e;cases e
      ·exact acz D e.2
      ·rw[T]at e;cases e.1
     ·have dZ:=(gd.1 D).1;rw[aM,aM,gy,gy,gy]at jc
      refine⟨λU=>?_,?_,?_⟩
      ·have:=pZ (g:=ku t) ops.size 0 j (by omega) (by omega) J O Q C D (by unfold ku;rw[U];exact Nat.beq_refl t);rw[jc.1.1]at this;cases this
      ·cases Z:ef C r with
       |false=>rfl
       | true=>
        have:=pZ (g:=λok=>ef ok r) ops.size 0 j (by omega) (by omega) J O Q C D Z;rw[jc.1.2]at this;cases this
      ·cases Z:isApp C with
       |false=>rfl
       | true=>
        have:=pZ (g:=isApp) ops.size 0 j (by omega) (by omega) J O Q C D Z;rw[jc.2]at this;cases this
     ·have dZ:=(gd.1 D).1;unfold m6 at hx;rw[aM]at hx;intro U;have:=pZ (g:=ku x) ops.size 0 j (by omega) (by omega) J O Q C D (by unfold ku;rw[U];exact Nat.beq_refl x);rw[this]at hx;cases hx.1
     ·unfold m6 at hx;rw[aM]at hx;have hx:=hx.2;cases hz:σ.t x with
      |aG r j=>rw[hz]at hx;exact hx
      |hJ cs=>trivial
      |_=>rw[hz]at hx;cases hx
     ·have dZ:=(gd.1 D).1;by_cases U:C.dst=some t
      ·refine .inr ?_;have Wc:ku t C=true:=by unfold ku;rw[U];exact Nat.beq_refl t
       cases Eo:vp C with
       | false=>
        cases Io:NU Φ ops i L (waits ops i ops.size 0 0) σ C with
        | false=>
         have:=pZ (g:=λok=>ku t ok && !(vp ok ||NU Φ ops i L (waits ops i ops.size 0 0) σ ok)) ops.size 0 j (by omega) (by omega) J O Q C D (by rw[Wc,Eo,Io];rfl);unfold NV at jc;rw[this]at jc;cases jc
        | true=>
         unfold NU at Io;split at Io
         next s x f zO=>exact .inr ⟨s,x,f,zO,Io⟩
         ·cases Io
       | true=>
        refine .inl ⟨rfl,?_⟩;refine Es ?_;unfold zB;rw[ei]
        refine .inl (pZ (g:=λo=>ef o t) _ 0 j (by omega) (by omega) J O Q C D ?_)
        obtain⟨ty,e,h1,_,h3,_⟩:=ace Eo;unfold ef;rw[U,h1];exact Nat.beq_refl t
      ·exact .inl U
     ·have dZ:=(gd.1 D).1;by_cases U:C.dst=some t
      ·refine .inr ?_;have Wc:ku t C=true:=by unfold ku;rw[U];exact Nat.beq_refl t
       cases zP:oF C with
       | false=>
        cases hma:isApp C with
        |true=>exact .inr (.inl rfl)
        | false=>
         cases BR:zD Φ C with
         |true=>exact .inr (.inr rfl)
         | false=>
          have:=pZ (g:=λok=>ku t ok && !(oF ok ||isApp ok ||zD Φ ok)) ops.size 0 j (by omega) (by omega) J O Q C D (by rw[Wc,zP,hma,BR];rfl);unfold m0 at jc;rw[this]at jc;cases jc
       | true=>
        refine .inl ?_;have qG:ef C t=true:=by
         unfold oF at zP;rw[aM]at zP;have h1:=zP.1;unfold ef;rw[U];split at h1
         next wN=>simp only[wN];exact Nat.beq_refl t
         next wN=>simp only[wN];exact Nat.beq_refl t
         next wN=>simp only[wN];exact Nat.beq_refl t
         ·cases h1
        have h9:=pZ (g:=λo=>ef o t) ops.size 0 j (by omega) (by omega) J O Q C D qG;refine⟨rfl,?_,?_⟩
        ·refine Es ?_;unfold zB;rw[ei];exact .inl h9
        ·unfold BO;rw[ei];exact .inl h9
      ·exact .inl U
     ·have dZ:=(gd.1 D).1;rcases qL j (by omega) (by omega)with e | e | e | e
      ·exact absurd e J
      ·rw[O]at e;cases e
      ·rw[Q]at e;cases e.1
      ·obtain⟨e1,e2⟩:=e.2 C D
       refine⟨e2,?_,λn Z=>?_⟩
       ·rw[ei,ei,ei]at e1;rcases e1 with ((e1 | e1) | e1) | e1
        ·exact .inl e1
        ·obtain⟨f',args,jy,c,g1,g2,g3,g4,g5⟩:=apb e1
         refine .inr (.inl ⟨f',args,jy,c,g1,g2,g3,g4,λn Z=>?_⟩)
         refine Es ?_;unfold zB;rw[ei]
         refine .inr (pZ (g:=λo=>cu n (qK Φ σ o) ||cu n (BN σ o)) _ 0 j (by omega) (by omega) J O Q C D ?_)
         rw[g5,tT.2 Z];rfl
        ·obtain⟨ty,t,y,g1,g2,g3,g4,g5⟩:=ao9 e1;refine .inr (.inr (.inl ⟨ty,t,y,g1,g2,g3,?_⟩));cases hx:σ.t t with
         | aG r' j'=>
          show zC Φ ops i L _ σ r'=true;refine Es ?_;unfold zB;rw[ei]
          refine .inr (pZ (g:=λo=>cu r' (qK Φ σ o) ||cu r' (BN σ o)) _ 0 j (by omega) (by omega) J O Q C D ?_)
          rw[g5 r' j' hx,ei];exact .inr (tT.2 (.head _))
         |ptr k=>exact absurd hx (g4 k)
         |_=>trivial
        ·obtain⟨x,y,t1,t2,g1,g2,g3⟩:=apa e1
         refine .inr (.inr (.inr ⟨x,y,t1,t2,g1,g2,g3,λr' hU=>⟨?_,?_⟩⟩))
         ·refine Es ?_;unfold zB;rw[ei];refine .inr (pZ _ 0 j (by omega) (by omega) J O Q C D ?_);have:BN σ C=[r']:=by simp only[BN,g1,hU]
          rw[this,ei];exact .inr (tT.2 (.head _))
         ·unfold BO;rw[ei]
          refine .inr (pZ (g:=λo=>cu r' (NT σ o)) _ 0 j (by omega) (by omega) J O Q C D ?_)
          have:NT σ C=[r']:=by simp only[NT,g1,hU]
          rw[this];exact tT.2 (.head _)
       ·have h9:=pZ (g:=λo=>ef o n) ops.size 0 j (by omega) (by omega) J O Q C D Z;refine⟨?_,?_⟩
        ·refine Es ?_;unfold zB;rw[ei];exact .inl h9
        ·unfold BO;rw[ei];exact .inl h9
    ·cases h
   ·split at h
    ·rename_i i hf;have hc:=List.find?_some hf;have hm:=List.mem_of_find?_eq_some hf;have hi:=BW.1 hm;split at h
     ·rename_i o ho;unfold abX at hc;rw[ho,aM,aM,aM,aM,aM]at hc;obtain⟨⟨⟨⟨⟨c1,c2⟩,c3⟩,c4⟩,c5⟩,c6⟩:=hc;have qL:=V9 _ _ c3;have c2:=ck c2;have Im:∀ j,(waits ops i ops.size 0 0).testBit j=true -> (L ||| 2 ^ i).testBit j=false:=by
       intro j T;have:((L |||2 ^ i) &&& waits ops i ops.size 0 0).testBit j=false:=by rw[c2];exact Nat.zero_testBit j
       rw[Nat.testBit_and,T,Bool.and_true]at this;exact this
      have vt:∀ j,(waits ops i ops.size 0 0).testBit j=true -> L.testBit j=false:=by
       intro j T;have:=Im j T;rw[zJ,o9]at this;exact this.1
      obtain⟨τ,h1,h2⟩:=VL fO h;generalize hp:(λn=>ij (λo=>Eg o n) ops i L (waits ops i ops.size 0 0) ops.size 0)=p at c4 c5;have hpe:∀ j C e,ops[j]?=some C -> j≠i -> L.testBit j=false -> (waits ops i ops.size 0 0).testBit j=false -> C.dst=some e -> p e=true:=by
       intro j C e D J O Q U;have dZ:=(gd.1 D).1;rw[<- hp];exact pZ (g:=λo=>Eg o e) _ 0 j (by omega) (by omega) J O Q C D (by unfold Eg ku;rw[U];exact Nat.beq_refl e)
      have BU:∀ j C,ops[j]?=some C -> j≠i -> L.testBit j=false -> (waits ops i ops.size 0 0).testBit j=false -> VC ops i L (waits ops i ops.size 0 0) σ C=true/\o.apart ops C=true:=by
       intro j C D J O Q;have dZ:=(gd.1 D).1;rcases qL j (by omega) (by omega)with e|e|e|e
       ·exact absurd e J
       ·rw[O]at e;cases e
       ·rw[Q]at e;cases e.1
       ·exact e.2 C D
      have zP:∀ j C,ops[j]?=some C -> j≠i -> L.testBit j=false -> (waits ops i ops.size 0 0).testBit j=false -> acC ops p σ C:=by
       intro j C D J O Q;have hb:=(BU j C D J O Q).1;unfold VC at hb;rw[aM,aM,aM]at hb;obtain⟨⟨⟨b1,b2⟩,b3⟩,b4⟩:=hb;have N4:∀t,ij (ku t) ops i L (waits ops i ops.size 0 0) ops.size 0=false -> p t=false:=λt Y=>by rw[<- hp];exact Y
       refine⟨b1,?_,λy I=>?_,λg c t hg Y=>?_⟩
       ·split at b2
        next b HJ=>rw[HJ,b2]
        ·cases b2
       ·have:=cE.1 b3 y (by simpa using I);rw[aM]at this
        refine⟨this.1,λt Y=>?_⟩
        have h2:=this.2;rw[Y]at h2;exact N4 t (by simpa using h2)
       ·rw[hg]at b4;simp only[Y]at b4;exact N4 t (by simpa using b4)
      have BV:∀ n,20000 <= n -> p n=false:=by
       intro n Z;cases BY:p n with
       |false=>rfl
       | true=>
        rw[<- hp]at BY;obtain⟨k',We,hk1,Oi,zR,vu,BZ⟩:=acA _ _ BY;have hm:=(zP k' We hk1 Oi zR vu).is;unfold oF at hm;rw[aM]at hm;have hm:=hm.2;unfold Eg ku at BZ;split at BZ
        next e he=>rw[he]at hm;have h1:e=n:=ck BZ;subst h1;exact absurd (cI hm) (Nat.not_le_of_gt (Nat.lt_succ_of_le Z))
        ·cases BZ
      have hE:τ=(dn P N Φ ops σ o some).getD σ:=by rw[h2];rfl
      refine VV (W:=waits ops i ops.size 0 0) ho (λj C D T=>?_) (λσ=>(dn P N Φ ops σ o some).getD σ)
       (λL' E=>((dn P N Φ ops E o some).isSome=true/\VA E p o=true/\(qK Φ E o).all (w5 E p)=true/\wZ E o=true)/\(∀ j,L'.testBit j=false -> L.testBit j=false) /\
        ∀j C,ops[j]?=some C -> j≠i -> L'.testBit j=false -> (waits ops i ops.size 0 0).testBit j=false -> acC ops p E C)
       (λL' E hI=>?_) (λL' E j C ov hI D J O Q jA=>?_) f L σ vt hi ⟨⟨by rw[h2];rfl,c4,c5,c6⟩,λ_ h=>h,zP⟩ (by rw[<- hE];exact Il fO f _ τ k (Oh h1))
      ·have dZ:=(gd.1 D).1;rcases qL j (by omega) (by omega)with e | e | e | e
       ·subst e;have:=Im j T;rw[zJ]at this;simp at this
       ·rw[vt j T]at e;cases e
       ·exact acz D e.2
       ·rw[T]at e;cases e.1
      ·obtain⟨z,hz⟩:=Option.isSome_iff_exists.1 hI.1.1;rw[hz];rfl
      ·obtain⟨⟨i1,i2,i3,i6⟩,i4,i5⟩:=hI;have ap:=(BU j C D J (i4 j O) Q).2;obtain⟨m1,m2,m3,m4⟩:=i5 j C D J O Q;obtain⟨a1,a2,a3⟩:=Oper.apart_spec ap;obtain⟨z,hz⟩:=Option.isSome_iff_exists.1 i1;have hEz:(dn P N Φ ops E o some).getD E=z:=by rw[hz];rfl
       have jA:dn P N Φ ops z C some=some ov:=by rw[<- hEz];exact jA
       have acH:∀ t,(E.t t).fM=true -> o.dst≠some t -> z.t t=E.t t:=by
        intro t Y U;unfold dn at hz;split at hz
        ·exact ao7 fO c1 i6 hz Y U
        ·obtain⟨g1,_⟩:=kB hz;injection g1 with g1;rw[<- g1];cases zN:o.dst with
         |none=>rfl
         |some d=>exact cF _ _ _ (by rintro rfl;exact U zN)
        ·cases hz
       have aph:∀ g c t,C.guard=some (g,c) -> (ops[g]?).bind (·.dst)=some t -> (E.t t).fM=true \/ E.t t = .skip:=by
        intro g c t hg Y;unfold fN at m2;rw[hg]at m2;simp only[Y]at m2;split at m2
        next b hb=>left;rw[hb];rfl
        next hb=>exact .inr hb
        ·cases m2
       have BX:∀ g c t,C.guard=some (g,c) -> (ops[g]?).bind (·.dst)=some t -> o.dst≠some t:=by
        intro g c t hg Y U;refine a1 t U (List.mem_append_right _ ?_);rw[hg];simp only[Y];simp
       have hwz:fN z ops C=some true:=by
        rw[zH (σ:=E) λg c t hg Y=>?_]
        ·exact m2
        ·rcases aph g c t hg Y with h | h
         ·exact acH t h (BX g c t hg Y)
         ·exfalso;unfold fN at m2;rw[hg]at m2;simp only[Y,h]at m2;cases m2
       have api:∀ y∈C.op.operands,aI z y=aI E y:=by
        intro y I;cases y with
        | tmp t=>
         refine acH t (m3 _ I).1 λU=>?_
         exact a1 t U (List.mem_append_left _ (List.mem_filterMap.2 ⟨.tmp t,by simpa using I,rfl⟩))
        |_=>rfl
       obtain⟨e,x,u,U,he,hx,hu,zL,oG⟩:=N5 m1 hwz jA;have B0:=hpe j C e D J (i4 j O) Q U;have rF:=a3 e U;have vr:∀ y∈o.op.operands,(aI E y).nr p=true/\y ≠ .tmp e:=by
        intro y I;refine⟨cE.1 i2 y (by simpa using I),?_⟩;rintro rfl;exact rF (List.mem_append_left _ (List.mem_filterMap.2 ⟨.tmp e,by simpa using I,rfl⟩))
       have zN:o.dst≠some e:=λh=>a2 e h U
       have apj:fN (cT e x u E) ops o=fN E ops o:=by
        have hw:∃ b,fN E ops o=some b:=by
         unfold dn at hz;cases hw:fN E ops o with
         |none=>rw[hw]at hz;cases hz
         |some b=>exact⟨b,rfl⟩
        obtain⟨b,hw⟩:=hw
        refine zH λg c t' DN ht'=>?_
        rw[uc,bE ?_]
        ·exact A.sV (p:=p) (pb:=p) (VM hw g c t' DN ht') B0 B0
        ·rintro rfl;refine rF (List.mem_append_right _ ?_);rw[DN];simp only[ht'];simp
       have rW:dn P N Φ ops (cT e x u E) o some=some (cT e x u z):=by
        unfold dn at hz ⊢;rw[apj];split at hz
        next hw=>exact ao6 fO hx hu he B0 BV c1 i6 zN vr (λn Z=>cE.1 i3 n Z) hz
        next hw=>obtain⟨g1,g2⟩:=kB hz;injection g1 with g1;refine((g2 (cT e x u E)).at_ _).trans ?_;rw[<- g1,aoN zN rfl]
        ·cases hz
       have Wf:∀y∈o.op.operands,aI (cT e x u E) y=aI E y:=λy I=>w8 (vr y I).1 B0 (vr y I).2
       have hL:∀ k,(L' ||| 2 ^ j).testBit k=false -> L'.testBit k=false/\k≠j:=by
        intro k hk;rw[zJ,o9]at hk;refine⟨hk.1,?_⟩;rintro rfl;simp at hk
       refine⟨cT e x u E,oG E m2 (λy I=>(api y I).symm),?_,⟨by rw[rW];rfl,?_,?_,?_⟩,λk hk=>i4 k (hL k hk).1,λk We hk hki hkL hkW=>?_⟩
       ·rw[zL,rW];rfl
       ·unfold VA;rw[cE];intro y I;rw[Wf y (by simpa using I)];exact(vr y (by simpa using I)).1
       ·have hrj:qK Φ (cT e x u E) o=qK Φ E o:=by
         unfold qK;split
         ·rename_i f' args jy zO;split
          ·refine Ie _ _ λy I=>Wf y ?_
           rw[zO];simp only[Op.operands,Call.operands];simp only[Array.mem_append]
           first
            |exact .inr (by simpa using I)
            |exact .inl (by simpa using I)
          ·rfl
         ·rfl
        rw[hrj,cE];intro n Z;have h3:=cE.1 i3 n Z;have eU:n≠e:=by
         rintro rfl;have BY:p n=false:=by
          unfold qK at Z;split at Z
          ·rename_i f' args jy zO;split at Z
           ·refine Ik _ _ (λy I=>(vr y ?_).1) n Z
            rw[zO];simp only[Op.operands,Call.operands];simp only[Array.mem_append]
            first
             |exact .inr (by simpa using I)
             |exact .inl (by simpa using I)
           ·cases Z
          ·cases Z
         rw[B0]at BY;cases BY
        unfold w5 at h3 ⊢;rw[pY,bE eU];cases hm:E.m n with
        |none=>rfl
        | some y=>
         cases y with
         |sl=>rfl
         |mp=>rfl
         |gh=>rfl
         | aB cs=>
          rw[hm]at h3;simp only[jj,aZ.drop,mY.mz h3 B0];exact h3
       ·unfold wZ at i6 ⊢;split
        next ty t y zO=>rw[zO]at i6;have e1:(cT e x u E).t t=E.t t:=Wf (.tmp t) (by rw[zO];simp[Op.operands]);rw[e1];exact i6
        ·rfl
       ·obtain⟨n1,n2,n3,n4⟩:=i5 k We hk hki (hL k hkL).1 hkW;have apk:∀ t,p t=false -> t≠e:=by rintro t Y rfl;rw[B0]at Y;cases Y
        have acI:∀ t,(E.t t).fM=true -> p t=false -> (cT e x u E).t t=E.t t:=by
         intro t Y htp;rw[uc,bE (apk t htp)];exact A.Og Y e
        refine⟨n1,?_,λy I=>?_,n4⟩
        ·rw[zH (σ:=E) λg c t hg Y=>?_]
         ·exact n2
         ·unfold fN at n2;rw[hg]at n2;simp only[Y]at n2;split at n2
          next b hb=>exact acI t (by rw[hb];rfl) (n4 g c t hg Y)
          next hb=>cases n2
          ·cases n2
        ·refine⟨?_,(n3 y I).2⟩;cases y with
         | tmp t=>
          show ((cT e x u E).t t).fM=true;rw[acI t (n3 _ I).1 ((n3 _ I).2 t rfl)];exact(n3 _ I).1
         |const v=>exact(n3 _ I).1
         |global g=>exact(n3 _ I).1
         |func f=>exact(n3 _ I).1
     ·cases h
    ·split at h
     ·rename_i i hf;have hc:=List.find?_some hf;have hm:=List.mem_of_find?_eq_some hf;have hi:=BW.1 hm;split at h
      next o ho=>obtain⟨τ,h1,h2⟩:=VL fO h;exact apf fO ho hi hc h2 (Il fO f _ τ k (Oh h1))
      ·cases h
     ·cases h
def Et{b:Bool}(h:fN σ ops o=some b)(hR:Rl w0 N ah ρ σ a w):Region.wanted o (yielded ops a.tmps)=b:=by
 unfold fN at h;split at h
 next I=>injection h with h;subst h;simp[Region.wanted,I]
 ·rename_i j want I;split at h
  ·rename_i t J;have D:=hR.tmp t;rw[iu]at D;split at h
   ·rename_i c L;rw[L]at D;have E:=D.2.yS;injection h with h;subst h;cases C:a.tmps[t]? with
    |none=>rw[C]at E;cases E
    | some v=>
     rw[C]at E;subst E;simp only[Region.wanted,I,yielded,J,Option.bind_some,C];simp_all
   ·rename_i L;rw[L]at D;injection h with h;subst h;cases C:a.tmps[t]? with
    |none=>simp[Region.wanted,I,yielded,J,C]
    | some v=>
     rw[C]at D;have E:=D;subst E;simp only[Region.wanted,I,yielded,J,Option.bind_some,C,undef];simp_all
   ·cases h
  ·cases h
structure ud (ops:Array Oper) (acJ:Array Bool) (L:Nat):Prop where
 size:acJ.size=ops.size
 bit:∀j,j<ops.size->acJ[j]?=some (L.testBit j)
 out:∀j,ops.size<=j->L.testBit j=false
def ud.acK{C:Array Bool}{L:Nat}(h:ud ops C L)(j:Nat):C.getD j false=L.testBit j:=by
 rw[iu];by_cases D:j<ops.size
 ·rw[h.bit j D];rfl
 ·rw[h.out j (by omega),Array.getElem?_eq_none (by rw[h.size];omega)];rfl
def ud.ready{O:Array Bool}{L:Nat}(h:ud ops O L)(j:Nat):j∈Region.ready .any ops O ↔ mB ops L j=true:=by
 rw[mem_ready,Ih];constructor
 ·rintro⟨D,o,C,E⟩;have I:=(gd.1 C).1;rw[iu,h.bit j I]at D;exact⟨D,o,C,λe J hb=>by rw[<-h.acK];exact E e J hb⟩
 ·rintro⟨D,o,C,E⟩;have I:=(gd.1 C).1;exact⟨by rw[iu,h.bit j I];exact D,o,C,λe J hb=>by rw[h.acK];exact E e J hb⟩
def ud.set{D:Array Bool}{L i:Nat}(h:ud ops D L)(hi:i<ops.size):ud ops (D.setIfInBounds i true) (L ||| 2 ^ i):=by
 refine⟨by simp[h.size],λj C=>?_,λj C=>?_⟩
 ·rw[zJ];by_cases E:i=j
  ·subst E;rw[Array.getElem?_setIfInBounds_self_of_lt (by rw[h.size];exact hi)];simp
  ·rw[Array.getElem?_setIfInBounds_ne E,h.bit j C];simp_all
 ·rw[zJ,h.out j C]
  grind
def ud.start:ud ops (Array.replicate ops.size false) 0:=
 ⟨by simp,λj C=>by simp[C],λj _=>Nat.zero_testBit j⟩
def apl(T:fX P Φ){k:S -> aj X}{i:Nat}(hi:ops[i]?=some o)(h:dn P N Φ ops σ o k=some r):∃ E,k E=some r /\ ∀ a w (K:Act -> World -> Prop) (Q:Exit -> Act -> World -> Prop),R w0 N σ a w -> (∀ L w',R w0 N E L w' -> K L w') -> wpOp P ops Q i K a w:=by
 unfold dn at h;split at h
 ·rename_i I;obtain⟨E,U,Y⟩:=VF T h
  refine⟨E,U,λa w K Q hR D=>?_⟩
  obtain⟨ah,ρ,C⟩:=hR;unfold wpOp;rw[hi];simp[Et I C];exact .inl (Y a w K Q ⟨ah,ρ,C⟩ D)
 ·rename_i I;unfold iB at h;split at h
  ·rename_i J
   refine⟨σ,h,λa w K Q hR D=>?_⟩
   obtain⟨ah,ρ,C⟩:=hR;unfold wpOp;rw[hi];simp[Et I C,J];exact D _ _ ⟨ah,ρ,C⟩
  ·rename_i d J;cases O:Nat.blt d N with
   |false=>simp_all
   | true=>
    rw[O,ak]at h
    refine⟨_,h,λa w K Q hR D=>?_⟩
    obtain⟨ah,ρ,C⟩:=hR;unfold wpOp;rw[hi];simp only[Et I C,J];exact D _ _ ⟨ah,ρ,C.set rfl (by have:=cI O;omega)⟩
 ·cases h
def acL(T:fX P Φ){K:S -> Prop}{Q:Exit -> Act -> World -> Prop}(I:∀ J,K J -> ∀ a w,R w0 N J a w -> Q .normal a w):
  ∀(f L:Nat) (σ:S) (E:Array Bool),Any P N Φ ops K f L σ -> ud ops E L -> ∀a w,R w0 N σ a w -> wpAny P .any ops Q f E a w
 | 0,L,σ,E,h,D,a,w,hR=>by
  refine⟨List.eq_nil_iff_forall_not_mem.2 λj C=>?_,I σ h.2 a w hR⟩
  rw[D.ready,h.1]at C;cases C
 | f+1,L,σ,E,h,D,a,w,hR=>by
  refine⟨λhr=>I σ (h.1 λj=>?_) a w hR,λj C=>?_⟩
  ·cases C:mB ops L j with
   |false=>rfl
   | true=>
    have:=(D.ready j).2 C;simp_all
  ·have U:=(D.ready j).1 C;obtain⟨o,J,Y,Z,hA⟩:=h.2 j U;obtain⟨ov,O,hw⟩:=apl T Y Z;injection O with O;subst O;exact hw a w _ Q hR λa' w' gM=>acL T I f _ _ _ hA (D.set (acB U)) a' w' gM
def R.drawn(hR:R w0 N σ a w):R w0 N σ a { w with drawn:=w.drawn+1 }:=by
 obtain⟨ah,ρ,h⟩:=hR;exact⟨ah,ρ,h.grow ⟨rfl,rfl,rfl,eB _,λ_ _=>rfl⟩ (λ_ _=>rfl) (λb k hb hl=>absurd (h.cX b k hl).2.1 (Nat.not_lt.2 hb))⟩
theorem apm[Inhabited Wd](C:fX P Φ){id:Nat}{k:S->aj X}(E:P.follows .mixedOrders=true)(h:kA P N Φ ops ops.size 0 σ k=some r){Q:Exit->Act->World->Prop}(I:∀ D,k D=some r->∀ a w,R w0 N D a w->Q .normal a w)(hR:R w0 N σ a w):
  (Code.region id ops true).wp P Q a w:=
 wp_region_any E (acL C I _ _ _ _ (Il C _ _ _ _ h) ud.start a _ hR.drawn)
/-! Values. -/
def apn{E:aj Tmp}{g:Bool}{k:S -> aj X}(h:pV σ E g k=some r):∃ C,k C=some r /\ ∀ a w,R w0 N σ a w -> R w0 N C a w:=by
 unfold pV at h;cases g with
 |false=>grind
 | true=>
  rw[ak]at h;split at h
  ·rename_i d;split at h
   ·rename_i b hb;have key:∀ c:Bool,b=c -> ∀ a w,R w0 N σ a w -> R w0 N (σ.set d (.lf (.v (.bool c)))) a w:=by
     rintro c rfl a w ⟨ah,ρ,hR⟩
     refine⟨ah,ρ,hR.below,hR.cX,hR.root,λk=>?_,hR.size,hR.defers,hR.fix,hR.di⟩
     show RA w w0.heap.size ah ρ (bV σ.t d (.lf (.v (.bool b))) k) _;by_cases D:k=d
     ·subst D;rw[cg,<- hb];exact hR.tmp k
     ·rw[cF _ _ _ D];exact hR.tmp k
    grind
   ·grind
  ·grind
def Oj(O:fX P Φ)(ops:Array Oper):∀ (rest:aa Oper) (j:Nat) (σ:S) (k:S -> aj X),vo P N Φ ops j rest σ k=some r -> ∃ Y,k Y=some r /\ ∀ a w,R w0 N σ a w -> ∀ Q,(∀ E w',R w0 N Y E w' -> Q Exit.normal E w') -> wpList P ops Q rest a w
 |[],j,σ,k,h=>⟨σ,h,λa w hR Q D=>D a w hR⟩
 | o :: rest,j,σ,k,h=>by
  unfold vo at h;split at h
  ·rename_i T;obtain⟨rS,h1,zM⟩:=aof O h;obtain⟨σ2,h2,uW⟩:=apn h1;obtain⟨I,J,L⟩:=Oj O ops rest (j+1) σ2 k h2
   refine⟨I,J,λa w hR Q D=>?_⟩
   obtain⟨ah,ρ,C⟩:=hR;simp only[wpList,Et T C,if_true];exact .inl (zM a w _ Q ⟨ah,ρ,C⟩ λE w' sP=>L E w' (uW E w' sP) Q D)
  ·rename_i T;unfold iB at h;split at h
   ·rename_i U;obtain⟨I,J,L⟩:=Oj O ops rest _ σ k h
    refine⟨I,J,λa w hR Q D=>?_⟩
    obtain⟨ah,ρ,C⟩:=hR;simp[wpList,Et T C,U];exact L a w ⟨ah,ρ,C⟩ Q D
   ·rename_i d U;cases Z:Nat.blt d N with
    |false=>simp_all
    | true=>
     rw[Z,ak]at h;obtain⟨I,J,L⟩:=Oj O ops rest (j+1) _ k h
     refine⟨I,J,λa w hR Q D=>?_⟩
     obtain⟨ah,ρ,C⟩:=hR;simp only[wpList,Et T C,U];exact L _ w ⟨ah,ρ,C.set rfl (by have:=cI Z;omega)⟩ Q D
  ·cases h
def Eu(Y:fX P Φ):∀ (c:Code) (σ:S) (k:Exit->S->aj X),gA P N Φ Λ c σ k=some r->pW P N Λ (occs c)->AW P w0 N c σ λe D=>k e D=some r:=by
 intro c
 induction c with
 |skip=>exact λσ k h _ a w hR=>wp_skip ⟨σ,h,hR⟩
 |label l=>exact λσ k h _ a w hR=>wp_label ⟨σ,h,hR⟩
 |ret=>exact λσ k h _ a w hR=>wp_ret ⟨σ,h,hR⟩
 |exit id=>exact λσ k h _ a w hR=>wp_exit ⟨σ,h,hR⟩
 | region id ops draw=>
  intro σ k h _ a w hR;cases draw with
  | true=>
   simp only[gA]at h;cases hm:P.follows .mixedOrders with
   |false=>rw[hm]at h;cases h
   | true=>
    rw[hm,ak]at h
    haveI:Inhabited Wd:=⟨w0⟩
    exact apm Y hm h (λτ jA a w hR=>⟨τ,jA,hR⟩) hR
  | false=>
   simp only[gA]at h;obtain⟨D,h',hw⟩:=Oj (w0:=w0) Y ops _ _ _ _ h;exact wp_region_list (hw a w hR _ λL w' C=>⟨D,h',C⟩)
 | seq x y O Q=>
  intro σ k h I a w hR;simp only[gA]at h;have T:=O σ _ h (λp E=>I p (List.mem_append_left _ E))
  refine wp_seq (wp_mono (T a w hR) λe L w' U=>?_)
  obtain⟨D,J,C⟩:=U;cases e with
  |normal=>exact Q D k J (λp E=>I p (List.mem_append_right _ E)) L w' C
  |_=>exact⟨D,J,C⟩
 | cond c x y O Q=>
  intro σ k h I a w hR;simp only[gA]at h;split at h
  ·rename_i b hb;obtain⟨ah,ρ,C⟩:=hR;have Z:=C.aI c;rw[hb]at Z;have hcv:=Z.2.yS;cases b with
   |true=>exact wp_cond_true hcv (O σ k h (λp E=>I p (List.mem_append_left _ E)) a w ⟨ah,ρ,C⟩)
   |false=>exact wp_cond_false hcv (Q σ k h (λp E=>I p (List.mem_append_right _ E)) a w ⟨ah,ρ,C⟩)
  ·cases h
 | block id c ih=>
  intro σ k h I a w hR;simp only[gA]at h;split at h
  next b hb=>exact I (id,c) (.head _) b hb X σ k r w0 h a w hR
  ·have T:=ih σ _ h (λp E=>I p (.tail _ E))
   refine wp_block (wp_mono (T a w hR) λe L w' U=>?_)
   obtain⟨D,J,C⟩:=U;cases e with
   | exit id'=>
    simp only[Exit.inBlock];by_cases hid:id'=id
    ·simp only[hid,if_true]at J ⊢;exact⟨D,J,C⟩
    ·simp only[hid,if_false]at J ⊢;exact⟨D,J,C⟩
   |_=>exact⟨D,J,C⟩
 |_=>exact λσ k h=>by simp[gA]at h
end
/-! What a loop carries. -/
inductive Lm where
 |int (k:IntKind)
 |bool
 |str
 |own (r:Nat)
 |aF (t:TC) (o:Nat)
def Lm.T:Lm->Type
 |.int _=>Int
 |.bool=>Bool
 |.str=>ByteArray
 |.own _=>af
 |.aF t _=>aa (Proofs.YtglnbhiaknohlaaGreat.T t)
def Lm.mk:(m:Lm)->m.T->Lf
 |.int k,n=>.v (.int k n)
 |.bool,b=>.v (.bool b)
 |.str,s=>.v (.str s)
 |.own r,_=>.own [r]
 |.aF t o,l=>.v (.sl t o false l)
def Lm.rd:(m:Lm)->Lf->aj m.T
 |.int k,.v (.int C n)=>if C=k then some n else none
 |.bool,.v (.bool b)=>some b
 |.str,.v (.str s)=>some s
 |.own r,.own [D]=>bif Nat.beq D r then some ()else none
 |.aF t o,.v x=>bif Nat.blt o 2 then x.dR t o else none
 |_,_=>none
inductive Tm where
 |lf (m:Lm)
 |aG (r j:Nat)
 |fp (t:TC) (o:Nat)
 |fc (f:Nat) (t:TC)
 |ag (t:TC)
 |pk (r n:Nat)
def Tm.T:Tm->Type
 |.lf m=>m.T
 |.aG _ _=>af
 |.fp t _=>Proofs.YtglnbhiaknohlaaGreat.T t
 |.fc _ t=>Proofs.YtglnbhiaknohlaaGreat.T t
 |.ag t=>Proofs.YtglnbhiaknohlaaGreat.T t
 |.pk _ _=>af
def Tm.mk:(m:Tm)->m.T->A
 |.lf m,x=>.lf (m.mk x)
 |.aG r j,_=>.aG r j
 |.fp t o,x=>.hJ (enc t o x)
 |.fc f t,x=>.kO f (enc t 0 x)
 |.ag t,x=>.agg ((enc t 0 x).map .v)
 |.pk r n,_=>.pk r n
def Tm.rd:(m:Tm)->A->aj m.T
 |.lf m,.lf x=>m.rd x
 |.aG r j,.aG C D=>bif Nat.beq C r&&Nat.beq D j then some ()else none
 |.fp t o,.hJ cs=>bif Nat.blt o 2 then dec t o cs else none
 |.fc f t,.kO E cs=>bif Nat.beq E f then dec t 0 cs else none
 | .ag t,.agg cs=>(match ve cs with
  |some I=>dec t 0 I
  |none=>none)
 |.pk r n,.pk C J=>bif Nat.beq C r&&Nat.beq J n then some ()else none
 |_,_=>none
def Ip:aa Lm->Type
 |[]=>af
 |m::C=>m.T×Ip C
def xb:(C:aa Lm)->Ip C->aa Lf
 |[],_=>[]
 |m::C,x=>m.mk x.1::xb C x.2
def Ok:(C:aa Lm)->aa Lf->aj (Ip C)
 |[],[]=>some ()
 | m :: C,x :: xs=>match m.rd x,Ok C xs with
  |some y,some ys=>some (y,ys)
  |_,_=>none
 |_,_=>none
inductive Rm where
 |sl (t:TC) (o:Nat)
 |st (t:TC)
 |aB (ms:List Lm)
 |mp
def Rm.T:Rm->Type
 |.sl t _=>aa (Proofs.YtglnbhiaknohlaaGreat.T t)
 |.st t=>Proofs.YtglnbhiaknohlaaGreat.T t
 |.aB C=>Ip C
 |.mp=>aa (Int×Bool)
def Rm.mk:(m:Rm)->m.T->aZ
 |.sl t o,l=>.sl (.sl t o false l)
 |.st t,x=>.aB ((enc t 0 x).map .v)
 |.aB C,x=>.aB (xb C x)
 |.mp,l=>.mp l
def Rm.rd:(m:Rm)->aZ->aj m.T
 |.sl t o,.sl y=>y.dR t o
 | .st t,.aB cs=>(match ve cs with
  |some C=>dec t 0 C
  |none=>none)
 |.aB D,.aB cs=>Ok D cs
 |.mp,.mp l=>some l
 |_,_=>none
def Ev:aa (Nat×Tm)->Type
 |[]=>af
 |(_,m)::C=>m.T×Ev C
def xd:(C:aa (Nat×Tm))->Ev C->Nat->A
 |[],_,_=>.undef
 |(n,m)::C,x,k=>bif Nat.beq k n then m.mk x.1 else xd C x.2 k
def Iq:(C:aa (Nat×Tm))->(Nat->A)->aj (Ev C)
 |[],_=>some ()
 | (n,m) :: C,t=>match m.rd (t n),Iq C t with
  |some x,some xs=>some (x,xs)
  |_,_=>none
def xe:aa (Nat×Rm)->Type
 |[]=>af
 |(_,m)::C=>m.T×xe C
def xg:(C:aa (Nat×Rm))->xe C->Nat->aj aZ
 |[],_,_=>none
 |(n,m)::C,x,k=>bif Nat.beq k n then some (m.mk x.1)else xg C x.2 k
def Ew:(C:aa (Nat×Rm))->(Nat->aj aZ)->aj (xe C)
 |[],_=>some ()
 | (n,m) :: C,t=>match (t n).bind m.rd,Ew C t with
  |some x,some xs=>some (x,xs)
  |_,_=>none
structure jB where
 ts:List (Nat×Tm)
 rs:List (Nat×Rm)
def jB.St(C:jB):Type:=Ev C.ts×xe C.rs
def jB.mk'(C:jB)(x:C.St):S:=⟨xd C.ts x.1,xg C.rs x.2⟩
def jB.Ol(C:jB)(σ:S):aj C.St:=match Iq C.ts σ.t,Ew C.rs σ.m with
 |some x,some y=>some (x,y)
 |_,_=>none
/-! Roots by other names. -/
abbrev Rn:=aa (Nat×Nat)
def Rn.inv(rs:Rn)(n:Nat):aj Nat:=(rs.find? λp=>Nat.beq p.2 n).map (·.1)
def Rn.add(rs:Rn)(r n:Nat):Rn:=bif rs.any (λp=>Nat.beq p.1 r&&Nat.beq p.2 n)then rs else (r,n)::rs
def Wg(n:Nat):aj Nat->Bool
 |some m=>Nat.beq m n
 |none=>false
def Rn.ok(rs:Rn):Bool:=rs.all λp=>(Nat.beq p.1 p.2 ||Nat.ble 60000 p.2)&&Wg p.2 (rs.lookup p.1)&&Wg p.1 (rs.inv p.2)
def Lf.eC(rs:Rn):Lf->Lf
 |.v x=>.v x
 | .own [r]=>(match rs.lookup r with
  |some n=>.own [n]
  |none=>.dead)
 |_=>.dead
def A.eC(rs:Rn):A->A
 |.lf x=>.lf (x.eC rs)
 | .aG r j=>(match rs.lookup r with
  |some n=>.aG n j
  |none=>.undef)
 |.hJ cs=>.hJ cs
 |.kO f cs=>.kO f cs
 |.agg cs=>.agg (cs.map (Lf.eC rs))
 |_=>.undef
def aZ.eC(rs:Rn):aZ->aZ
 |.aB cs=>.aB (cs.map (Lf.eC rs))
 |.sl y=>.sl y
 |.mp l=>.mp l
 |.gh _=>.gh []
def S.eC(rs:Rn)(σ:S):S:=⟨λk=>(σ.t k).eC rs,λn=>match rs.inv n with
 |some r=>(σ.m r).map (aZ.eC rs)
 |none=>none⟩
def rnL:Lm->Lf->Rn->Rn
 |.own n,.own [r],rs=>rs.add r n
 |_,_,rs=>rs
def Wh:aa Lm->aa Lf->Rn->Rn
 |m::C,x::xs,rs=>Wh C xs (rnL m x rs)
 |_,_,rs=>rs
def rnT:Tm->A->Rn->Rn
 |.lf m,.lf x,rs=>rnL m x rs
 |.aG n j,.aG r C,rs=>rs.add r n
 |_,_,rs=>rs
def acM(t:Nat->A):aa (Nat×Tm)->Rn->Rn
 |[],rs=>rs
 |(k,m)::C,rs=>acM t C (rnT m (t k) rs)
def acN(m:Nat->aj aZ):aa (Nat×Rm)->Rn->Rn
 |[],rs=>rs
 | (n,x) :: xs,rs=>acN m xs (match x,rs.inv n with
  | .aB C,some r=>(match m r with
   |some (.aB cs)=>Wh C cs rs
   |_=>rs)
  | .aB C,none=>(match m n with
   |some (.aB cs)=>Wh C cs (rs.add n n)
   |_=>rs)
  |_,some _=>rs
  |_,none=>rs.add n n)
def jB.rn(C:jB)(σ:S):Rn:=acN σ.m C.rs (acM σ.t C.ts [])
def Wi(rs:aa (Nat×Rm))(p:Nat×Tm)(σ:S):S:=match p.2,σ.t p.1 with
 | .lf (.own n),.lf (.v .nil)=>(match rs.lookup n with
  |some (.sl t o)=>bif Nat.ble 60000 n then ⟨bV ((σ.drop n).root n (.sl (.sl t o false []))).t p.1 (.lf (.own [n])),((σ.drop n).root n (.sl (.sl t o false []))).m⟩else σ
  |_=>σ)
 |_,_=>σ
def Om(rs:aa (Nat×Rm)):aa (Nat×Tm)->S->S
 |[],σ=>σ
 |p::ps,σ=>Om rs ps (Wi rs p σ)
def Wj(n j r:Nat)(σ:S):S:=match σ.m r with
 | some (.aB cs)=>(match cs[j]? with
  |some (.v .nil)=>⟨σ.t,bV σ.m r (some (.aB (cs.set j (.own [n]))))⟩
  |_=>σ)
 |_=>σ
def Wl(rs:aa (Nat×Rm))(n j r:Nat)(σ:S):S:=match rs.lookup n with
 |some (.sl t o)=>bif Nat.ble 60000 n then Wj n j r ((σ.drop n).root n (.sl (.sl t o false [])))else σ
 |_=>σ
def B1(rs:aa (Nat×Rm))(r:Nat):Nat->aa Lm->aa Lf->S->S
 |j,.own n::C,.v .nil::cs,σ=>B1 rs r (j+1) C cs (Wl rs n j r σ)
 |j,_::C,_::cs,σ=>B1 rs r (j+1) C cs σ
 |_,_,_,σ=>σ
def On(rs:aa (Nat×Rm)):aa (Nat×Rm)->S->S
 |[],σ=>σ
 | (r,.aB C) :: ps,σ=>On rs ps (match σ.m r with
  |some (.aB cs)=>B1 rs r 0 C cs σ
  |_=>σ)
 |_::ps,σ=>On rs ps σ
def jB.rd1(C:jB)(σ:S):aj C.St:=bif (C.rn σ).ok then C.Ol (On C.rs C.rs (σ.eC (C.rn σ)))else none
def jB.rd(C:jB)(σ:S):aj C.St:=match C.Ol σ with
 |some x=>some x
 |none=>C.rd1 (Om C.rs C.ts σ)
section
variable {P:Program} {w w':World} {w0:Wd} {B N:Nat} {ah aE:bG} {ρ ρ':Nat->Loc} {σ:S} {a:Act} {X:Type} {d:Nat} {r:X} {o:Oper} {Φ:eD} {Λ:m7}
def Lm.qM{m:Lm}{x:Lf}{y:m.T}(h:m.rd x=some y){u:Value}(C:dy w B ah ρ x u):dy w B ah ρ (m.mk y) u:=by
 unfold Lm.rd at h;split at h
 ·split at h
  next D=>subst D;injection h with h;subst h;exact C
  ·cases h
 ·injection h with h;subst h;exact C
 ·injection h with h;subst h;exact C
 ·rename_i E I;cases hb:Nat.beq I E with
  |false=>simp_all
  |true=>obtain rfl:=ck hb;exact C
 ·rename_i t o x;cases hb:Nat.blt o 2 with
  |false=>rw[hb]at h;cases h
  | true=>
   rw[hb]at h;have:=cI hb;exact⟨by simp[V.aF];omega,C.2.wk (V.eo h)⟩
 ·cases h
def Tm.qM{m:Tm}{x:A}{y:m.T}(h:m.rd x=some y){u:Value}(I:RA w B ah ρ x u):RA w B ah ρ (m.mk y) u:=by
 cases m with
 | lf m=>
  cases x with
  |lf x=>exact Lm.qM h I
  |_=>cases h
 | aG r j=>
  cases x with
  | aG L j'=>
   have h:(bif Nat.beq L r&&Nat.beq j' j then some ()else none)=some y:=h;cases hb:(Nat.beq L r&&Nat.beq j' j)with
   |false=>simp_all
   | true=>
    rw[aM]at hb;obtain rfl:=ck hb.1;obtain rfl:=ck hb.2;exact I
  |_=>cases h
 | fp t o=>
  cases x with
  | hJ cs=>
   have h:(bif Nat.blt o 2 then dec t o cs else none)=some y:=h;cases hb:Nat.blt o 2 with
   |false=>simp_all
   | true=>
    rw[hb,ak]at h;have ho:=cI hb;have D:=l6 t o cs y h;obtain⟨b,off,O,Q,U,h4⟩:=I
    refine⟨b,off,O,Q,U,λj z C=>?_⟩
    have Y:j<cs.length:=by rw[D.1];exact(dQ.1 C).1
    have E:=bO Y;obtain⟨g1,v,Z,g3⟩:=h4 j _ E;exact⟨jM t o y (by omega) j z C,v,Z,g3.wk (D.2 j _ z E C)⟩
  |_=>cases h
 | fc f t=>
  cases x with
  | kO f' cs=>
   have h:(bif Nat.beq f' f then dec t 0 cs else none)=some y:=h;cases hb:Nat.beq f' f with
   |false=>simp_all
   | true=>
    rw[hb,ak]at h;obtain rfl:=ck hb;have D:=l6 t 0 cs y h;obtain⟨pv,e0,b,off,O,Q,U,h4⟩:=I
    refine⟨pv,e0,b,off,O,Q,U,λj z C=>?_⟩
    have Y:j<cs.length:=by rw[D.1];exact(dQ.1 C).1
    have E:=bO Y;obtain⟨g1,v,Z,g3⟩:=h4 j _ E;exact⟨jM t 0 y (by omega) j z C,v,Z,g3.wk (D.2 j _ z E C)⟩
  |_=>cases h
 | ag t=>
  cases x with
  | agg cs=>
   have h:(match ve cs with|some J=>dec t 0 J|none=>none)=some y:=h;cases l9:ve cs with
   |none=>simp_all
   | some J=>
    rw[l9]at h;have h:dec t 0 J=some y:=h;have kj:=Nc _ _ l9;have D:=l6 t 0 J y h;obtain⟨us,O,Q,U⟩:=I
    refine⟨us,O,?_,λj x hx=>?_⟩
    ·rw[Q,kj,dh,dh,D.1]
    ·rw[dw]at hx;cases C:(enc t 0 y)[j]? with
     |none=>simp_all
     | some z=>
      rw[C]at hx;injection hx with hx;subst hx;have Y:j<J.length:=by rw[D.1];exact(dQ.1 C).1
      have E:=bO Y;obtain⟨v,g1,Z⟩:=U j (.v J[j]) (by rw[kj,dw,E];rfl);exact⟨v,g1,jM t 0 y (by omega) j z C,Z.2.wk (D.2 j _ z E C)⟩
  |_=>cases h
 | pk r n=>
  cases x with
  | pk L n'=>
   have h:(bif Nat.beq L r&&Nat.beq n' n then some ()else none)=some y:=h;cases hb:(Nat.beq L r&&Nat.beq n' n)with
   |false=>simp_all
   | true=>
    rw[aM]at hb;obtain rfl:=ck hb.1;obtain rfl:=ck hb.2;exact I
  |_=>cases h
def acO:∀ (C:aa Lm) (cs:aa Lf) (y:Ip C),Ok C cs=some y -> (xb C y).length=cs.length /\ ∀ (j:Nat) x,(xb C y)[j]?=some x -> ∃ z,cs[j]?=some z/\(∀ (w:World) (B:Nat) (ah:bG) (ρ:Nat -> Loc) (u:Value),dy w B ah ρ z u -> dy w B ah ρ x u)
 |[],[],y,h=>⟨rfl,λj x D=>by simp[xb]at D⟩
 | m :: C,c :: cs,y,h=>by
  unfold Ok at h;split at h
  ·rename_i Q ys E I;injection h with h;subst h;obtain⟨J,L⟩:=acO C cs ys I
   refine⟨by simp[xb,J],λj x D=>?_⟩
   cases j with
   |zero=>simp[xb]at D;subst D;exact⟨c,rfl,λw B ah ρ u O=>Lm.qM E O⟩
   |succ j=>exact L j x (by simpa [xb]using D)
  ·cases h
def Rm.qM{m:Rm}{x:aZ}{y:m.T}(h:m.rd x=some y){n:Nat}(C:eM w B ah ρ n x):eM w B ah ρ n (m.mk y):=by
 cases m with
 | sl t o=>
  cases C with
  |sl v y' D hr=>exact .sl v _ D (hr.wk (V.eo h))
  |aB=>cases h
  |mp=>cases h
  |gh=>cases h
 | mp=>
  cases C with
  |gh=>cases h
  |sl=>cases h
  |aB=>cases h
  |mp b c es l D hl I he=>injection h with h;subst h;exact .mp b c es _ D hl I he
 | st t=>
  cases C with
  |sl=>cases h
  |mp=>cases h
  |gh=>cases h
  | aB b off cells e cs us D hl I J Q=>
   have h:(match ve cs with|some E=>dec t 0 E|none=>none)=some y:=h;cases U:ve cs with
   |none=>simp_all
   | some E=>
    rw[U]at h;have h:dec t 0 E=some y:=h;have Y:=Nc _ _ U;have O:=l6 t 0 E y h
    refine .aB b off cells e _ us D hl I (by rw[dh,<- O.1];rw[Y,dh]at J;exact J) λj x C=>?_
    rw[dw]at C;cases L:(enc t 0 y)[j]? with
    |none=>simp_all
    | some z=>
     rw[L]at C;injection C with C;subst C;have hj:j<E.length:=by rw[O.1];exact(dQ.1 L).1
     have Z:=bO hj;obtain⟨h1,h2⟩:=Q j (.v E[j]) (by rw[Y,dw,Z];rfl);exact⟨h1,jM t 0 y (by omega) j z L,h2.2.wk (O.2 j _ z Z L)⟩
 | aB ms=>
  cases C with
  |sl=>cases h
  |mp=>cases h
  |gh=>cases h
  | aB b off cells e cs us D hl I J Q=>
   obtain⟨k1,k2⟩:=acO ms cs y h
   refine .aB b off cells e _ us D hl I (by show off+(xb ms y).length <= _;rw[k1];exact J) λj x C=>?_
   grind
def Wm:∀ (C:aa (Nat×Tm)) (t:Nat -> A) (y:Ev C),Iq C t=some y -> ∀ k,xd C y k = .undef \/ ∃ m z,(Tm.rd m (t k)=some z/\xd C y k=m.mk z)
 |[],t,y,h,k=>.inl rfl
 | (n,m) :: C,t,y,h,k=>by
  unfold Iq at h;split at h
  ·rename_i x xs D E;injection h with h;subst h;by_cases I:k=n
   ·subst I;exact .inr ⟨m,x,D,by simp[xd]⟩
   ·have hb:Nat.beq k n=false:=by
     cases hb:Nat.beq k n with
     |false=>rfl
     |true=>simp_all
    simp only[xd,hb,aq];exact Wm C t xs E k
  ·cases h
def Wn:∀ (C:aa (Nat×Rm)) (t:Nat -> aj aZ) (y:xe C),Ew C t=some y -> ∀ k,xg C y k=none \/ ∃ m x z,t k=some x/\Rm.rd m x=some z/\xg C y k=some (m.mk z)
 |[],t,y,h,k=>.inl rfl
 | (n,m) :: C,t,y,h,k=>by
  unfold Ew at h;split at h
  ·rename_i x xs D E;injection h with h;subst h;by_cases I:k=n
   ·subst I;cases J:t k with
    |none=>simp_all
    |some z=>rw[J]at D;exact .inr ⟨m,z,x,rfl,D,by simp[xg]⟩
   ·have hb:Nat.beq k n=false:=by
     cases hb:Nat.beq k n with
     |false=>rfl
     |true=>simp_all
    simp only[xg,hb,aq];exact Wn C t xs E k
  ·cases h
def jB.acP{C:jB}{x:C.St}(h:C.Ol σ=some x)(hR:R w0 N σ a w):R w0 N (C.mk' x) a w:=by
 unfold jB.Ol at h;split at h
 ·rename_i u v J L;injection h with h;subst h;obtain⟨ah,ρ,hR⟩:=hR
  refine⟨ah,ρ,hR.below,hR.cX,λn y D=>?_,λk=>?_,hR.size,hR.defers,hR.fix,hR.di⟩
  ·have D:xg C.rs v n=some y:=D;rcases Wn C.rs σ.m v L n with e | ⟨m,x,z,E,I,O⟩
   ·simp_all
   ·rw[O]at D;injection D with D;subst D;exact Rm.qM I (hR.root n x E)
  ·show RA _ _ _ _ (xd C.ts u k) _;rcases Wm C.ts σ.t u J k with e | ⟨m,z,E,I⟩
   ·rw[e];trivial
   ·rw[I];exact Tm.qM E (hR.tmp k)
 ·cases h
def acQ{n:Nat}{o:aj Nat}(h:Wg n o=true):o=some n:=by
 cases o with
 |none=>cases h
 |some m=>rw[ck h]
def acR{rs:Rn}{r n:Nat}(h:rs.lookup r=some n):(r,n)∈rs:=by
 induction rs with
 |nil=>cases h
 |cons p rs C =>grind
def acS{rs:Rn}{r n:Nat}(h:rs.inv n=some r):(r,n)∈rs:=by
 unfold Rn.inv at h;cases C:rs.find? _ with
 |none=>rw[C]at h;cases h
 | some p=>
  rw[C]at h;injection h with h;subst h;have D:=List.find?_some C;have E:=List.mem_of_find?_eq_some C;rw[<- ck D];exact E
def Rn.eG(rs:Rn)(ρ:Nat->Loc):Nat->Loc:=λn=>match rs.inv n with
 |some r=>ρ r
 |none=>ρ n
def Rn.Oo{rs:Rn}(h:rs.ok=true){r n:Nat}(C:(r,n)∈rs):(r=n \/ 60000 <= n)/\rs.lookup r=some n/\rs.inv n=some r:=by
 have:=cE.1 h _ C;rw[aM,aM,ei]at this;refine⟨?_,acQ this.1.2,acQ this.2⟩;simp_all
def dy.eC{rs:Rn}(C:rs.ok=true){x:Lf}{u:Value}(h:dy w B ah ρ x u):dy w B (eN ah rs id) (rs.eG ρ) (x.eC rs) u:=by
 unfold Lf.eC;split
 ·exact⟨h.1,h.2.Hw h.1 λb=>wQ⟩
 ·rename_i r;split
  next n D=>have hi:=(Rn.Oo C (acR D)).2.2;refine⟨h.1,?_⟩;have E:=h.2;simp[cH]at E ⊢;unfold Rn.eG;simp_all
  ·trivial
 ·trivial
def Rl.eC{rs:Rn}(J:rs.ok=true)(h:Rl w0 N ah ρ σ a w):Rl w0 N (eN ah rs id) (rs.eG ρ) (σ.eC rs) a w:=by
 have hl:∀ b r n,ah b=some [r] -> rs.lookup r=some n -> eN ah rs id b=some [n]:=by
  intro b r n E I;simp[eN,E,I]
 refine⟨h.below,λb k D=>?_,λn x C=>?_,λk=>?_,h.size,h.defers,λr l O=>?_,h.di⟩
 ·unfold eN at D;split at D
  ·cases D
  ·rename_i k0 Ea;split at D
   ·cases D
   ·rename_i r O;cases Z:rs.lookup r with
    |none=>grind
    | some n=>
     rw[Z]at D;injection D with D;subst D;obtain⟨E,I,_⟩:=h.cX b k0 Ea;simp_all
 ·have C:(match rs.inv n with | some r=>(σ.m r).map (aZ.eC rs) | none=>none)=some x:=C;cases hi:rs.inv n with
  |none=>grind
  | some r=>
   rw[hi]at C;have C:(σ.m r).map (aZ.eC rs)=some x:=C;have zl:=(Rn.Oo J (acS hi)).2.1;have Y:rs.eG ρ n=ρ r:=by unfold Rn.eG;rw[hi]
   cases hm:σ.m r with
   |none=>grind
   | some y=>
    rw[hm]at C;injection C with C;subst C;cases h.root r y hm with
    | aB b off cells e cs us E I hh hs hc=>
     refine .aB b off cells e _ us (Y.trans E) (hl b r n I zl) hh (by rw[dh];exact hs) λj x C=>?_
     rw[dw]at C;cases L:cs[j]? with
     |none=>grind
     | some z=>
      rw[L]at C;injection C with C;subst C;exact⟨(hc j z L).1,(hc j z L).2.eC J⟩
    | sl v y E I=>
     exact .sl v y (Y.trans E) (RV.eN (p:=[]) (nm:=id) I zl)
    |mp b c es l E I hh he=>exact .mp b c es l (Y.trans E) (hl b r n I zl) hh he
    |gh us xs E C=>exact .gh us _ (Y.trans E) λj x hj=>by simp at hj
 ·show RA _ _ _ _ ((σ.t k).eC rs) _;have D:=h.tmp k;generalize σ.t k=x at D;unfold A.eC;split
  ·exact D.eC J
  ·rename_i r j;split
   next n Z=>have hi:=(Rn.Oo J (acR Z)).2.2;obtain⟨b,off,E,I⟩:=D;exact⟨b,off,by unfold Rn.eG;rw[hi];exact E,I⟩
   ·trivial
  ·obtain⟨b,off,Q,T,U,g4⟩:=D
   refine⟨b,off,Q,T,wQ U,λj x C=>?_⟩
   obtain⟨f1,v,f2,f3⟩:=g4 j x C;exact⟨f1,v,f2,f3.Hw f1 λb=>wQ⟩
  ·obtain⟨pv,e0,b,off,Q,T,U,g4⟩:=D
   refine⟨pv,e0,b,off,Q,T,wQ U,λj x C=>?_⟩
   obtain⟨f1,v,f2,f3⟩:=g4 j x C;exact⟨f1,v,f2,f3.Hw f1 λb=>wQ⟩
  ·obtain⟨us,Q,T,U⟩:=D
   refine⟨us,Q,by rw[dh];exact T,λj x C=>?_⟩
   rw[dw]at C;rename_i cs;cases L:cs[j]? with
   |none=>grind
   | some z=>
    rw[L]at C;injection C with C;subst C;obtain⟨v,f1,f2⟩:=U j z L;exact⟨v,f1,f2.eC J⟩
  ·trivial
 ·show rs.eG ρ r=l;unfold Rn.eG;split
  ·rename_i r0 hi;rcases(Rn.Oo J (acS hi)).1 with e | e
   ·rw[e];exact h.fix r l O
   ·rw[h.di r (.inr e)]at O;cases O
  ·exact h.fix r l O
def apo{rs:aa (Nat×Rm)}{p:Nat×Tm}(hR:R w0 N σ a w):R w0 N (Wi rs p σ) a w:=by
 unfold Wi;split
 ·rename_i n Q J;split
  ·rename_i t o hl;cases hb:Nat.ble 60000 n with
   |false=>exact hR
   | true=>
    have L:=cI hb;obtain⟨ah,ρ,hR⟩:=hR;have D:=hR.tmp p.1;rw[J]at D;have O:a.tmps.getD p.1 undef = .slice none 0 0:=by
     have E:=D.2;generalize a.tmps.getD p.1 undef=u at E;cases E;rfl
    have C:=hR.new (d:=n) (x:=.sl (.sl t o false [])) (.dI (.slice none 0 0)) (.sl _ _ (cg _ _ _) (.cS _ _ _)) (hR.di n (.inr L))
    refine⟨ah,_,C.below,C.cX,C.root,λk=>?_,C.size,C.defers,C.fix,C.di⟩
    show RA _ _ _ _ (bV ((σ.drop n).root n (.sl (.sl t o false []))).t p.1 (.lf (.own [n])) k) _;by_cases I:k=p.1
    ·subst I;rw[cg,O];exact⟨rfl,by simp[cH,cg]⟩
    ·rw[cF _ _ _ I];exact C.tmp k
  ·exact hR
 ·exact hR
def apq{n j r:Nat}{y:V}(hR:Rl w0 N ah ρ σ a w)(O:ρ n = .dI (.slice none 0 0)):Rl w0 N ah ρ (Wj n j r σ) a w:=by
 unfold Wj;split
 ·rename_i cs Q;split
  ·rename_i J
   refine⟨hR.below,hR.cX,λE x C=>?_,hR.tmp,hR.size,hR.defers,hR.fix,hR.di⟩
   have C:bV σ.m r (some (.aB (cs.set j (.own [n])))) E=some x:=C;by_cases L:E=r
   ·subst L;rw[cg]at C;injection C with C;subst C;cases hR.root E _ Q with
    | aB b off cells e cs us T I U Y Z=>
     refine .aB b off cells e _ us T I U (by rw[iw];exact Y) λi z D=>?_
     rw[List.getElem?_set]at D;by_cases hi:j=i
     ·subst hi;have dZ:j<cs.length:=(dQ.1 J).1;rw[br rfl,br dZ]at D;injection D with D;subst D;obtain⟨k1,k2⟩:=Z j _ J;refine⟨k1,?_⟩;have hu:us j = .slice none 0 0:=by
       have I:=k2.2;generalize us j=u at I;cases I;rfl
      rw[hu];exact⟨rfl,by simp only[cH,O]⟩
     ·grind
   ·rw[cF _ _ _ L]at C;exact hR.root E x C
  ·exact hR
 ·exact hR
def apr{rs:aa (Nat×Rm)}{n j r:Nat}(hR:R w0 N σ a w):R w0 N (Wl rs n j r σ) a w:=by
 unfold Wl;split
 ·rename_i t o hl;cases hb:Nat.ble 60000 n with
  |false=>exact hR
  | true=>
   have C:=cI hb;obtain⟨ah,ρ,hR⟩:=hR;exact⟨ah,_,apq (y:=.nil) (hR.new _ (.sl _ _ (cg _ _ _) (.cS _ _ _)) (hR.di n (.inr C))) (cg _ _ _)⟩
 ·exact hR
def Wo{rs:aa (Nat×Rm)}{r:Nat}:∀ (C:aa Lm) (cs:aa Lf) (j:Nat) (σ:S),R w0 N σ a w -> R w0 N (B1 rs r j C cs σ) a w
 |[],cs,j,σ,h=>by unfold B1;exact h
 | m :: C,[],j,σ,h=>by
  unfold B1;simp_all
 | m :: C,c :: cs,j,σ,h=>by
  unfold B1;split
  next D E=>cases D;cases E;exact Wo C cs _ _ (apr h)
  next D E=>cases D;cases E;exact Wo C cs _ _ h
  ·exact h
def Ir{rs:aa (Nat×Rm)}:∀ (ps:aa (Nat×Rm)) (σ:S),R w0 N σ a w -> R w0 N (On rs ps σ) a w
 |[],σ,h=>h
 |(r,.sl t o)::ps,σ,h=>Ir ps σ h
 |(r,.st t)::ps,σ,h=>Ir ps σ h
 |(r,.mp)::ps,σ,h=>Ir ps σ h
 | (r,.aB C) :: ps,σ,h=>by
  refine Ir ps _ ?_;split
  ·exact Wo C _ 0 σ h
  ·exact h
def acT{rs:aa (Nat×Rm)}:∀ (ps:aa (Nat×Tm)) (σ:S),R w0 N σ a w->R w0 N (Om rs ps σ) a w
 |[],σ,h=>h
 |p::ps,σ,h=>acT ps _ (apo h)
def jB.qM{C:jB}{x:C.St}(h:C.rd σ=some x)(hR:R w0 N σ a w):R w0 N (C.mk' x) a w:=by
 unfold jB.rd at h;split at h
 next y D=>injection h with h;subst h;exact jB.acP D hR
 ·have hR:=acT (rs:=C.rs) C.ts σ hR;revert h hR;generalize Om C.rs C.ts σ=E;intro h hR;unfold jB.rd1 at h;cases hb:(C.rn E).ok with
  |false=>simp_all
  | true=>
   rw[hb,ak]at h;obtain⟨ah,ρ,hR⟩:=hR;exact jB.acP h (Ir C.rs _ ⟨_,_,hR.eC hb⟩)
end
def xh:aa V->aa Nat->aa Lf
 |[],_=>[]
 | x :: xs,ns=>bif x.plain then .v x :: xh xs ns else (match ns with
  |n::ns=>.own [n]::xh xs ns
  |[]=>.dead::xh xs [])
def B2:aa V->aa Nat->(Nat->aj aZ)->Nat->aj aZ
 |[],_,m,k=>m k
 | x :: xs,ns,m,k=>bif x.plain then B2 xs ns m k else (match ns with
  |n::ns=>bif Nat.beq k n then some (.sl x)else B2 xs ns m k
  |[]=>B2 xs [] m k)
def kR(m:Nat->aj aZ):aa Lf->aa Nat->aj (aa V)
 |[],[]=>some []
 | .v x :: cs,ns=>bif x.plain then (match kR m cs ns with
  |some C=>some (x::C)
  |none=>none)else none
 | .own [r] :: cs,n :: ns=>bif Nat.beq r n then (match m n with
  | some (.sl y)=>bif y.plain then none else (match kR m cs ns with
   |some C=>some (y::C)
   |none=>none)
  |_=>none)else none
 |_,_=>none
abbrev Gp:=Nat×TC×Nat×aa Nat
def Is:aa Gp->Type->Type
 |[],X=>X
 |g::gs,X=>T g.2.1×Is gs X
def Oq:(gs:aa Gp)->(rs:aa (Nat×Rm))->Is gs (xe rs)->Nat->aj aZ
 |[],rs,x,k=>xg rs x k
 |(n,t,o,ns)::gs,rs,x,k=>bif Nat.beq k n then some (.aB (xh (enc t o x.1) ns))else B2 (enc t o x.1) ns (Oq gs rs x.2) k
def Ot:(gs:aa Gp)->(rs:aa (Nat×Rm))->(Nat->aj aZ)->aj (Is gs (xe rs))
 |[],rs,m=>Ew rs m
 | (n,t,o,ns) :: gs,rs,m=>match m n with
  | some (.aB cs)=>(match kR m cs ns with
   | some C=>(match dec t o C,Ot gs rs m with
    |some x,some y=>some (x,y)
    |_,_=>none)
   |none=>none)
  |_=>none
def Ex:aa V->aa Nat->aa Lm
 |[],_=>[]
 |.int k _::xs,ns=>.int k::Ex xs ns
 |.bool _::xs,ns=>.bool::Ex xs ns
 |.str _::xs,ns=>.str::Ex xs ns
 |_::xs,n::ns=>.own n::Ex xs ns
 |_::xs,[]=>.bool::Ex xs []
def Wp:aa V->aa Nat->aa (Nat×Rm)
 |.sl t o _ _::xs,n::ns=>(n,.sl t o)::Wp xs ns
 |_::xs,ns=>Wp xs ns
 |[],_=>[]
def Wq:aa Gp->aa (Nat×Rm)->aa (Nat×Rm)
 |[],rs=>rs
 |(n,t,o,ns)::gs,rs=>(n,.aB (Ex (shp t o) ns))::(Wp (shp t o) ns++Wq gs rs)
structure bJ where
 ts:List (Nat×Tm)
 rs:List (Nat×Rm)
 gs:List Gp
def bJ.St(C:bJ):Type:=Ev C.ts×Is C.gs (xe C.rs)
def bJ.mk'(C:bJ)(x:C.St):S:=⟨xd C.ts x.1,Oq C.gs C.rs x.2⟩
def bJ.Ou(C:bJ)(σ:S):aj C.St:=match Iq C.ts σ.t,Ot C.gs C.rs σ.m with
 |some x,some y=>some (x,y)
 |_,_=>none
def bJ.rd(C:bJ)(σ:S):aj C.St:=match C.Ou σ with
 |some x=>some x
 | none=>match jB.rd ⟨C.ts,Wq C.gs C.rs⟩ σ with
  |some z=>C.Ou (jB.mk' ⟨C.ts,Wq C.gs C.rs⟩ z)
  |none=>none
section
variable {P:Program} {w w':World} {w0:Wd} {B N:Nat} {ah aE:bG} {ρ ρ':Nat->Loc} {σ:S} {a:Act} {m:Nat->aj aZ}
def bW.inv{x:V}{xs ys:aa V}(k:bW (x :: xs) ys):∃ y C,ys=y :: C/\Wk x y/\bW xs C:=by
 obtain⟨D,E⟩:=k;cases ys with
 |nil=>simp at D
 |cons y C=>exact⟨y,C,rfl,E 0 x y rfl rfl,by simpa using D,λj a b I hb=>E (j+1) a b (by simpa using I) (by simpa using hb)⟩
def Wk.acU{x y:V}(h:Wk x y)(C:x.plain=true):y=x:=by
 cases h<;>first|rfl|cases C
def Wk.acV{x y:V}(h:Wk x y)(C:x.plain=false):y.plain=false:=by
 cases h<;>first|exact C|rfl
def Wr:∀ (cs:aa Lf) (ns:aa Nat) (C ys:aa V),kR m cs ns=some C -> bW C ys -> (xh ys ns).length=cs.length /\ ∀ (j:Nat) z,(xh ys ns)[j]?=some z -> cs[j]?=some z
 | [],[],C,ys,h,E=>by
  simp only[kR,iy]at h;subst h;have:ys=[]:=List.eq_nil_of_length_eq_zero E.1.symm;subst this;exact⟨rfl,λj z I=>by simp[xh]at I⟩
 | .v x :: cs,ns,C,ys,h,E=>by
  unfold kR at h;cases D:x.plain with
  |false=>simp_all
  | true=>
   rw[D,ak]at h;split at h
   ·rename_i us J;injection h with h;subst h;obtain⟨y,L,rfl,O,Q⟩:=E.inv;obtain rfl:=O.acU D;obtain⟨T,U⟩:=Wr cs ns us L J Q;simp only[xh,D,ak]
    refine⟨by simp[T],λj z I=>?_⟩
    cases j with
    |zero=>simp_all
    |succ j=>simp_all
   ·cases h
 | .own [r] :: cs,n :: ns,C,ys,h,E=>by
  unfold kR at h;cases hb:Nat.beq r n with
  |false=>simp_all
  | true=>
   rw[hb,ak]at h;obtain rfl:=ck hb;split at h
   ·rename_i y Z;cases D:y.plain with
    |true=>simp_all
    | false=>
     rw[D,aq]at h;split at h
     ·rename_i us J;injection h with h;subst h;obtain⟨y',L,rfl,O,Q⟩:=E.inv;have Y:=O.acV D;obtain⟨T,U⟩:=Wr cs ns us L J Q;simp only[xh,Y,aq]
      refine⟨by simp[T],λj z I=>?_⟩
      cases j with
      |zero=>simp_all
      |succ j=>simp_all
     ·cases h
   ·cases h
 |[],_::_,C,ys,h,_=>by simp[kR]at h
 |.dead::_,_,C,ys,h,_=>by simp[kR]at h
 |.own []::_,_,C,ys,h,_=>by simp[kR]at h
 |.own (_::_::_)::_,_,C,ys,h,_=>by simp[kR]at h
 |.own [_]::_,[],C,ys,h,_=>by simp[kR]at h
def Ws{f:Nat -> aj aZ}{k:Nat}{x:aZ}:∀ (cs:aa Lf) (ns:aa Nat) (D ys:aa V),kR m cs ns=some D -> bW D ys -> B2 ys ns f k=some x -> f k=some x \/ ∃ v y,m k=some (.sl v)/\x = .sl y/\Wk v y
 | [],[],D,ys,h,I,C=>by
  simp only[kR,iy]at h;subst h;have:ys=[]:=List.eq_nil_of_length_eq_zero I.1.symm;subst this;exact .inl C
 | .v U :: cs,ns,D,ys,h,I,C=>by
  unfold kR at h;cases E:U.plain with
  |false=>simp_all
  | true=>
   rw[E,ak]at h;split at h
   next us J=>injection h with h;subst h;obtain⟨y,L,rfl,O,Q⟩:=I.inv;obtain rfl:=O.acU E;simp[B2,E]at C;exact Ws cs ns us L J Q C
   ·cases h
 | .own [r] :: cs,n :: ns,D,ys,h,I,C=>by
  unfold kR at h;cases hb:Nat.beq r n with
  |false=>simp_all
  | true=>
   rw[hb,ak]at h;obtain rfl:=ck hb;split at h
   ·rename_i y Z;cases E:y.plain with
    |true=>simp_all
    | false=>
     rw[E,aq]at h;split at h
     ·rename_i us J;injection h with h;subst h;obtain⟨y',L,rfl,O,Q⟩:=I.inv;have Y:=O.acV E;simp only[B2,Y,aq]at C;cases T:Nat.beq k r with
      | true=>
       rw[T]at C;injection C with C;obtain rfl:=ck T
       grind
      | false=>
       rw[T]at C;exact Ws cs ns us L J Q C
     ·cases h
   ·cases h
 |[],_::_,D,ys,h,_,_=>by simp[kR]at h
 |.dead::_,_,D,ys,h,_,_=>by simp[kR]at h
 |.own []::_,_,D,ys,h,_,_=>by simp[kR]at h
 |.own (_::_::_)::_,_,D,ys,h,_,_=>by simp[kR]at h
 |.own [_]::_,[],D,ys,h,_,_=>by simp[kR]at h
def acW:∀ (gs:aa Gp) (rs:aa (Nat×Rm)) (y:Is gs (xe rs)),Ot gs rs m=some y -> ∀ k x,Oq gs rs y k=some x -> ∃ J,m k=some J /\ ∀ (w:World) (B:Nat) (ah:bG) (ρ:Nat -> Loc),eM w B ah ρ k J -> eM w B ah ρ k x
 | [],rs,y,h,k,x,C=>by
  have h:Ew rs m=some y:=h;have C:xg rs y k=some x:=C;rcases Wn rs m y h k with e|⟨m',J,z,E,I,Y⟩
  ·simp_all
  ·rw[Y]at C;injection C with C;subst C;exact⟨J,E,λw B ah ρ D=>Rm.qM I D⟩
 | (n,t,o,ns) :: gs,rs,y,h,k,x,C=>by
  unfold Ot at h;split at h
  ·rename_i cs Z;split at h
   ·rename_i L T;split at h
    ·rename_i x1 y1 h1 h2;injection h with h;subst h;have U:=l6 t o L x1 h1;simp only[Oq]at C;cases O:Nat.beq k n with
     | true=>
      rw[O,ak]at C;injection C with C;subst C;obtain rfl:=ck O;obtain⟨E,I⟩:=Wr cs ns L _ T U
      refine⟨_,Z,λw B ah ρ D=>?_⟩
      cases D with
      |aB b off cells e _ us Q hl hh hs hc=>exact .aB b off cells e _ us Q hl hh (by rw[E];exact hs) λj z hz=>hc j z (I j z hz)
     | false=>
      rw[O,aq]at C;rcases Ws cs ns L _ T U C with e|⟨v,y',E,rfl,I⟩
      ·exact acW gs rs y1 h2 k x e
      ·refine⟨_,E,λw B ah ρ D=>?_⟩
       cases D with
       |sl u _ Q D=>exact .sl u _ Q (D.wk I)
    ·cases h
   ·cases h
  ·cases h
def bJ.acX{C:bJ}{x:C.St}(h:C.Ou σ=some x)(hR:R w0 N σ a w):R w0 N (C.mk' x) a w:=by
 unfold bJ.Ou at h;split at h
 ·rename_i u v I J;injection h with h;subst h;obtain⟨ah,ρ,hR⟩:=hR
  refine⟨ah,ρ,hR.below,hR.cX,λn y L=>?_,λk=>?_,hR.size,hR.defers,hR.fix,hR.di⟩
  ·obtain⟨O,D,E⟩:=acW C.gs C.rs v J n y L;exact E _ _ _ _ (hR.root n O D)
  ·show RA _ _ _ _ (xd C.ts u k) _;rcases Wm C.ts σ.t u I k with e | ⟨m,z,D,E⟩
   ·rw[e];trivial
   ·rw[E];exact Tm.qM D (hR.tmp k)
 ·cases h
def bJ.qM{C:bJ}{x:C.St}(h:C.rd σ=some x)(hR:R w0 N σ a w):R w0 N (C.mk' x) a w:=by
 unfold bJ.rd at h;split at h
 next y D=>injection h with h;subst h;exact bJ.acX D hR
 ·split at h
  next z E=>exact bJ.acX h (jB.qM E hR)
  ·cases h
end
def zS:Exit->aj Nat
 |.normal=>some 0
 |.ret=>some 1
 |.exit n=>some (n+2)
 |_=>none
def Wt:Nat->Exit
 |0=>.normal
 |1=>.ret
 |n+2=>.exit n
def sX{e:Exit}{n:Nat}(h:zS e=some n):e=Wt n:=by
 cases e<;>simp[zS]at h<;>subst h<;>rfl
def ue:aa (Nat×bJ)->Type
 |[]=>Empty
 |(_,C)::r=>C.St⊕ue r
def Ov:(l:aa (Nat×bJ))->Nat->S->aj (ue l)
 |[],_,_=>none
 | (n,C) :: r,e,σ=>bif Nat.beq n e then (match C.rd σ with
  |some x=>some (.inl x)
  |none=>none)else (match Ov r e σ with
  |some x=>some (.inr x)
  |none=>none)
def Wu{X:Type}:(l:aa (Nat×bJ))->ue l->(Exit->S->aj X)->aj X
 |[],z,_=>nomatch z
 | (n,C) :: r,z,k=>match z with
  |.inl x=>k (Wt n) (C.mk' x)
  |.inr z=>Wu r z k
def iter{α β:Type}(step:α->aj (α⊕β)):Nat->α->aj β
 |0,_=>none
 | n+1,x=>match step x with
  |some (.inl y)=>iter step n y
  |some (.inr z)=>some z
  |none=>none
def Ey(P:Program)(N:Nat)(Φ:eD)(Λ:m7)(body:Code)(C:bJ)(D:aa (Nat×bJ))(x:C.St):aj (C.St⊕ue D):=
 gA P N Φ Λ body (C.mk' x) λe σ=>match zS e with
  | some 0=>(match C.rd σ with
   |some x=>some (.inl x)
   |none=>none)
  | some n=>(match Ov D n σ with
   |some x=>some (.inr x)
   |none=>none)
  |none=>none
def Wv{X:Type}(id:Nat)(k:Exit->S->aj X)(e:Exit)(σ:S):aj X:=
 match e with
 |.exit C=>if C=id then k .normal σ else k (.exit C) σ
 |e=>k e σ
def Ow(id:Nat)(C:bJ)(D:aa (Nat×bJ))(F:C.St->aj (C.St⊕ue D))(fuel:C.St->Nat):sU:=
 ⟨λX σ k=>match C.rd σ with
  | some x=>(match iter F (fuel x) x with
   |some z=>Wu D z (Wv id k)
   |none=>none)
  |none=>none⟩
def mE:aa (Bool×TC)->Type
 |[]=>af
 |(_,t)::r=>T t×mE r
def gC:(l:aa (Bool×TC))->mE l->aa Pt
 |[],_=>[]
 |(b,t)::r,x=>(b,enc t 0 x.1)::gC r x.2
def zU:(l:aa (Bool×TC))->aa Pt->aj (mE l)
 |[],[]=>some ()
 | (b,t) :: r,(C,D) :: ps=>bif b==C then (match dec t 0 D,zU r ps with
  |some x,some xs=>some (x,xs)
  |_,_=>none)else none
 |_,_=>none
def gD(ai:aa (Bool×TC))(ro:aa (Bool×TC×Nat))(F:mE ai->aj (ja ro)):jx:=
 ⟨λX args k=>match zU ai args with
  | some x=>(match F x with
   |some y=>k (ff ro y)
   |none=>none)
  |none=>none⟩
def Ww:Pt->A
 |(false,[x])=>.lf (.v x)
 |(true,xs)=>.agg (xs.map .v)
 |(false,.bool true::c::cs)=>.hJ (c::cs)
 |(false,.bool false::.int .i64 (.ofNat g)::c::cs)=>.kO g (c::cs)
 |_=>.undef
def acY(args:aa Pt):S:=⟨λk=>match args[k]? with
 |some p=>Ww p
 |none=>.undef,λ_=>none⟩
def qN{X:Type}(P:Program)(N:Nat)(Φ:eD)(Λ:m7)(code:Code)(C:Array ResultVar)(args:aa Pt)(k:gp->aj X):aj X:=
 gA P N Φ Λ code (acY args) λe σ=>match zS e with
  |some 0=>Ht P σ C k
  |some 1=>Ht P σ C k
  |_=>none
section
variable {P:Program} {w w':World} {w0:Wd} {B N:Nat} {ah aE:bG} {ρ ρ':Nat->Loc} {σ:S} {a:Act} {X:Type} {d:Nat} {r:X} {o:Oper} {Φ:eD} {Λ:m7}
def acZ:∀ (l:aa (Nat×bJ)) (e:Nat) (z:ue l),Ov l e σ=some z->∀ (X:Type) (k:Exit->S->aj X),∃ D,Wu l z k=k (Wt e) D/\∀ a w,R w0 N σ a w->R w0 N D a w
 |[],e,z,h=>by cases h
 | (n,E) :: l,e,z,h=>by
  intro X k;unfold Ov at h;cases hb:Nat.beq n e with
  | true=>
   obtain rfl:=ck hb;rw[hb,ak]at h;split at h
   next x C=>injection h with h;subst h;exact⟨E.mk' x,rfl,λa w hR=>bJ.qM C hR⟩
   ·cases h
  | false=>
   rw[hb,aq]at h;split at h
   next x C=>injection h with h;subst h;exact acZ l e x C X k
   ·cases h
def aps{id:Nat}{body:Code}{E:bJ}{O:aa (Nat×bJ)}{F:E.St -> aj (E.St⊕ue O)}{fuel:E.St -> Nat}(fO:fX P Φ)(xj:pW P N Λ (occs body))(hF:∀ x,Ey P N Φ Λ body E O x=F x):BP P N (.block id (.loop body)) (Ow id E O F fuel):=by
 intro X σ k r w0 h a w hR;simp only[Ow]at h;split at h
 ·rename_i x I;split at h
  ·rename_i z hz;refine wp_block ?_;have key:∀ (n:Nat) (x:E.St),iter F n x=some z -> ∀ (a:Act) (w:World),R w0 N (E.mk' x) a w -> ∀ (b:Frame) (J:aa Item) (cs:aa Frame),
     ∃e L w',Exit.inBlock id (λe L w'=>∃Z,k e Z=some r/\R w0 N Z L w') e L w'/\Arrives P (lone (b.at a (.code body::.inLoop body::J)) cs w) b J cs e L w':=by
    intro n
    induction n with
    |zero=>intro x I;simp[iter]at I
    | succ n ih=>
     intro x I a w hR b J cs;simp only[iter]at I;have lJ:∃ y,Ey P N Φ Λ body E O x=some y/\(match y with | .inl y=>iter F n y=some z | .inr z'=>z'=z):=by
      rw[hF];split at I
      ·grind
      ·grind
      ·cases I
     obtain⟨y,hy,Q⟩:=lJ;unfold Ey at hy;have hwp:=Eu (w0:=w0) fO body _ _ hy xj a w hR;obtain⟨e,U,w1,⟨rS,D,sP⟩,T⟩:=hwp b (.inLoop body::J) cs;split at D
     ·rename_i C;have C:=sX C;subst C;split at D
      next x1 UY=>injection D with D;subst D;obtain⟨e2,a2,w2,rG,apt⟩:=ih x1 Q U w1 (bJ.qM UY sP) b J cs;exact⟨e2,a2,w2,rG,.of_steps (Steps.trans T (.one step_inLoop)) apt⟩
      ·cases D
     ·rename_i n' Y C;have C:=sX C;split at D
      ·rename_i z1 It;injection D with D;subst D;have Q:z1=z:=Q;subst Q;obtain⟨σ2,nL,oD⟩:=acZ (w0:=w0) (N:=N) O n' z1 It X (Wv id k);rw[nL]at h;rw[<- C]at h;refine⟨e,U,w1,?_,?_⟩
       ·cases e with
        | exit id'=>
         simp only[Wv]at h;simp only[Exit.inBlock];split at h
         ·grind
         ·grind
        |_=>exact⟨σ2,h,oD U w1 sP⟩
       ·refine .pass (x:=.inLoop body) rfl (λ_ _=>.inl ?_) T
        intro e';rw[e']at C
        match n',Y,C with
        |0,Y,_=>exact Y rfl
        |1,_,C=>cases C
        |n+2,_,C=>cases C
      ·cases D
     ·cases D
   intro b J cs;obtain⟨e,L,w',hq,T⟩:=key (fuel x) x hz a w (bJ.qM I hR) b J cs;exact⟨e,L,w',hq,.of_steps (.one step_loop) T⟩
  ·cases h
 ·cases h
def PV.rR{key:Nat->aa Nat}{b:Bool}{xs ys:aa V}{u:Value}(h:PV w B ah key (b,xs) u)(k:bW xs ys):PV w B ah key (b,ys) u:=by
 obtain⟨us,E,I,J⟩:=h
 refine⟨us,E,I.trans k.1,λj y C=>?_⟩
 have D:j<xs.length:=by rw[k.1];exact(dQ.1 C).1
 obtain⟨v,L,O⟩:=J j _ (bO D);exact⟨v,L,O.wk (k.2 j _ y (bO D) C)⟩
def zd.rR{cs C:aa V}{u:Value}(h:zd w cs u)(k:bW cs C):zd w C u:=by
 obtain⟨b,off,I,hb,J⟩:=h
 refine⟨b,off,I,hb,λj y D=>?_⟩
 have E:j<cs.length:=by rw[k.1];exact(dQ.1 D).1
 obtain⟨v,L,O⟩:=J j _ (bO E);exact⟨v,L,O.wk (k.2 j _ y (bO E) D)⟩
def PA.rR{b:Bool}{xs ys:aa V}{u:Value}(h:PA w (b,xs) u)(k:bW xs ys):PA w (b,ys) u:=by
 cases h with
 |v _ _ h=>exact .v _ _ (h.rR k)
 | p c cs _ h=>
  obtain⟨y,E,rfl,C,D⟩:=k.inv;cases C;have h:=h.rR D;obtain⟨J,eZ,rfl,_,_⟩:=D.inv;exact .p _ _ _ h
 | f g c cs u h=>
  obtain⟨y,E,rfl,C,D⟩:=k.inv;cases C;obtain⟨y,E,rfl,C,I⟩:=D.inv;cases C;have h:=h.rR I;obtain⟨J,eZ,rfl,_,_⟩:=I.inv;exact .f _ _ _ _ h
def PA.ra{p:Pt}{u:Value}(h:PA w p u)(D:∀ y∈p.2,y.aF=true):RA w w.heap.size (λ_=>none) ρ (Ww p) u:=by
 have O:∀ {cs:aa V} {u:Value},zd w cs u -> (∀ y∈cs,y.aF=true) -> RF w w.heap.size (λ_=>none) cs u:=by
  rintro cs u ⟨b,off,rfl,hb,E⟩ D
  refine⟨b,off,rfl,hb,rfl,λj x Q=>⟨D x (ga Q),E j x Q⟩⟩
 cases h with
 | v _ _ h=>
  obtain⟨us,T,U,E⟩:=h;obtain⟨b,xs⟩:=p;cases b with
  | true=>
   refine⟨us,T,by rw[dh];exact U,λi y C=>?_⟩
   rw[dw]at C;cases I:xs[i]? with
   |none=>simp_all
   | some z=>
    rw[I]at C;injection C with C;subst C;obtain⟨v,J,L⟩:=E i z I;exact⟨v,J,D z (ga I),L⟩
  | false=>
   subst T;have Y:=U.symm;obtain⟨x,rfl⟩:=List.length_eq_one_iff.1 Y;obtain⟨v,J,L⟩:=E 0 x rfl;have:u=v:=by simpa using J
   subst this;exact⟨D x (by simp),L⟩
 |p c cs _ h=>exact O h λy C=>D y (.tail _ C)
 |f g c cs u h=>exact⟨u,rfl,O h λy C=>D y (.tail _ (.tail _ C))⟩
def Iu:∀ (l:aa (Bool×TC)) (ps:aa Pt) (x:mE l),zU l ps=some x -> (gC l x).length=ps.length /\ ∀ (i:Nat) p,(gC l x)[i]?=some p -> ∃ q,ps[i]?=some q/\q.1=p.1/\bW q.2 p.2
 |[],[],x,h=>⟨rfl,λi p C=>by simp[gC]at C⟩
 | (b,t) :: r,(D,E) :: ps,x,h=>by
  unfold zU at h;cases hb:b==D with
  |false=>simp_all
  | true=>
   rw[hb,ak]at h;have hb:b=D:=by simpa using hb
   subst hb;split at h
   ·rename_i y ys I J;injection h with h;subst h;obtain⟨L,O⟩:=Iu r ps ys J
    refine⟨by simp[gC,L],λi p C=>?_⟩
    cases i with
    |zero=>simp[gC]at C;subst C;exact⟨(b,E),rfl,rfl,l6 t 0 E y I⟩
    |succ i=>exact O i p (by simpa [gC]using C)
   ·cases h
 |[],_::_,x,h=>by simp[zU]at h
 |_::_,[],x,h=>by simp[zU]at h
def mF(l:aa (Bool×TC×Nat)):Bool:=l.all λp=>Nat.ble (full p.2.1) p.2.2
def ac0(t:TC)(g:Nat)(x:T t)(h:full t <= g):(enc t g x).all V.loc=true:=by
 rw[cE];intro y D;have E:=wu t g x y D;have hl:=MP t g x y D;cases y with
 | sl I C q l=>
  have J:C=g:=by simpa [V.gr]using E
  subst J;have hl:=cI hl;show ze I C=true
  match C,h with
  |0,h=>omega
  |1,h=>omega
  | n+2,h=>
   simp only[ze,ei];left;exact iP (by omega)
 |_=>rfl
def Wx:∀ (l:aa (Bool×TC×Nat)) (ps:aa Pt) (x:ja l),mF l=true -> qF l ps=some x -> (tR l x).length=ps.length /\ ∀ (nm:Nat -> Nat) (off:Nat) (C:aa Value),jO w B ah nm off ps C -> jO w B ah nm off (tR l x) C
 |[],[],x,_,h=>⟨rfl,λnm off C D=>D⟩
 | [(b,t,g)],[(E,C)],x,J,h=>by
  unfold qF at h;cases hb:b==E with
  |false=>rw[hb]at h;cases h
  | true=>
   rw[hb]at h;have h:dec t g C=some x:=h;have hb:b=E:=by simpa using hb
   subst hb;have O:full t <= g:=by simpa [mF]using J
   refine⟨rfl,λnm off us D=>?_⟩
   match us,D with
   |[u],⟨⟨_,I⟩,_⟩=>exact⟨⟨ac0 t g x O,I.rR (l6 t g C x h)⟩,trivial⟩
 | (b,t,g) :: q :: r,(E,C) :: ps,x,J,h=>by
  unfold qF at h;cases hb:b==E with
  |false=>grind
  | true=>
   rw[hb,ak]at h;have hb:b=E:=by simpa using hb
   subst hb;have L:full t <= g/\mF (q :: r)=true:=by
    simp only[mF,List.all_cons,aM]at J ⊢;simp_all
   split at h
   ·rename_i y ys I Q;injection h with h;subst h;obtain⟨T,Y⟩:=Wx (q :: r) ps ys L.2 Q
    refine⟨by simp[tR,T],λnm off us D=>?_⟩
    match us,D with
    | u :: us,⟨⟨_,U⟩,Z⟩=>
     have hlen:=(l6 t g C y I).1;refine⟨⟨ac0 t g y L.1,U.rR (l6 t g C y I)⟩,?_⟩;simp_all
   ·cases h
 |[],_::_,x,_,h=>by simp[qF]at h
 |[_],[],x,_,h=>by simp[qF]at h
 |[_],_::_::_,x,_,h=>by simp[qF]at h
 |_::_::_,[],x,_,h=>by simp[qF]at h
def ac1{l:aa (Bool×TC×Nat)}{E:gp}{x:ja l}(J:mF l=true)(h:mm l E=some x){nm:Nat -> Nat}{v:Value}(D:rI w B ah nm E v):rI w B ah nm (ff l x) v:=by
 cases E with
 | one p=>
  obtain⟨C,I⟩:=Wx (w:=w) (B:=B) (ah:=ah) l [p] x J h;have D:jO w B ah nm 0 [p] [v]:=D;have:=I nm 0 [v] D;unfold ff
  match hm:tR l x,C,this with
  |[q],_,this=>exact this
  |[],C,_=>cases C
  |_::_::_,C,_=>simp at C
 | cQ ps=>
  simp only[mm]at h;cases hb:Nat.beq ps.length 1 with
  |true=>simp_all
  | false=>
   rw[hb,aq]at h;obtain⟨C,I⟩:=Wx (w:=w) (B:=B) (ah:=ah) l ps x J h;obtain⟨L,e,D⟩:=D;have:=I nm 0 _ D;unfold ff
   match hm:tR l x,C,this with
   |[q],C,this=>simp_all
   |[],_,this=>exact⟨L,e,this⟩
   |_::_::_,_,this=>exact⟨L,e,this⟩
def ac2:∀ (l:aa (Bool×TC)) (x:mE l),(gC l x).length=l.length
 |[],x=>rfl
 |(b,t)::l,x=>by simp[gC,ac2 l]
def ac3:∀ (l:aa (Bool×TC)) (x:mE l) (j:Nat) (p:Pt),(gC l x)[j]?=some p->∀ y∈p.2,y.aF=true
 |[],x,j,p,C,_,_=>by simp[gC]at C
 | (b,t) :: l,x,0,p,C,y,D=>by
  simp[gC]at C;subst C;obtain⟨i,hi⟩:=List.mem_iff_getElem?.1 D;exact jM t 0 x.1 (by omega) i y hi
 |(b,t)::l,x,j+1,p,C,y,D=>ac3 l x.2 j p (by simpa [gC]using C) y D
def Iv{f:Nat}{fn:Func}{code:Code}{uf:aa Pt}{ro:aa (Bool×TC×Nat)}{y:ja ro}(hf:P.funcs[f]?=some fn)(hb:fn.body=some code)(hN:fn.ntmps=N)(L:uf.length <= N)(gP:mF ro=true)
  (fO:fX P Φ) (xj:pW P N Λ (occs code)) (apu:∀(j:Nat) p,uf[j]?=some p -> ∀y∈p.2,y.aF=true) (I:qN P N Φ Λ code fn.results uf (mm ro)=some y) (nm:Nat -> Nat) (w:World) (bX:Array Value) (O:vf w uf bX) (Q:Hd w (λ_=>none)):
  Calls P f bX w λe w'=>∃v aE,e = .returned v/\Below w.heap.size w w'/\(∀b k,aE b=some k -> w.heap.size <= b/\b<w'.heap.size/\k≠[])/\rI w' w.heap.size aE nm (ff ro y) v:=by
 have L:bX.size <= N:=by rw[O.1];exact L
 refine calls_of_wp hf hb ?_;unfold qN at I;have hR:R (.of w Q) N (acY uf) { tmps:=bX++Array.replicate (fn.ntmps-bX.size) undef,defers:=[] } w:=by
  refine⟨λ_=>none,λ_=>.aB 0 0,.of (Below.refl w.heap.size w) (eB _),(λb k D=>by cases D),(λn y I=>by cases I),λj=>?_,by simp[hN];omega,rfl,(λr l h=>by cases h),(λ_ _=>rfl)⟩
  show RA w w.heap.size _ _ (match uf[j]? with|some p=>Ww p|none=>.undef) _;cases T:uf[j]? with
  |none=>trivial
  | some p=>
   obtain⟨u,U,oC⟩:=O.2 j p T;have hj:=(gd.1 U).1;have e:(bX++Array.replicate (fn.ntmps-bX.size) undef).getD j undef=u:=by rw[iu,Array.getElem?_append_left hj,U];rfl
   rw[e];exact oC.ra (apu j p T)
 refine wp_mono (Eu (w0:=.of w Q) fO code _ _ I xj _ w hR) λe J w' C=>?_
 obtain⟨dV,D,ah,ρ,E⟩:=C;have Y:Ht P dV fn.results (mm ro)=some y -> J.defers=[] /\ ∃ v,(results fn J.tmps).run P w' = .ok v w' /\ ∃ Z aE,Ending.returned v=Ending.returned Z/\Below w.heap.size w w'/\(∀ b k,aE b=some k -> w.heap.size <= b/\b<w'.heap.size/\k≠[])/\rI w' w.heap.size aE nm (ff ro y) Z:=by
  intro Wy;obtain⟨res,ko,ew⟩:=amL Wy;obtain⟨v,aE,h1,h2,h3⟩:=ew ah ρ J w' E nm;exact⟨E.defers,v,h1,v,aE,rfl,⟨E.below.os,E.below.tape,E.below.output,E.below.size,λk D=>E.below.block k D rfl⟩,λb k hb=>⟨(h2 b k hb).1.resolve_right (λh=>h rfl),(h2 b k hb).2⟩,ac1 gP ko h3⟩
 split at D
 next C=>have C:=sX C;subst C;exact Y D
 next C=>have C:=sX C;subst C;exact Y D
 ·cases D
def apv{f:Nat}{fn:Func}{code:Code}{ai:aa (Bool×TC)}{ro:aa (Bool×TC×Nat)}{F:mE ai -> aj (ja ro)}(C:P.funcs[f]?=some fn)(hb:fn.body=some code)(L:fn.ntmps=N)(O:(fn.name == "runtime.NumGoroutine")=false)(Q:Nat.ble ai.length N=true)(T:mF ro=true)
  (U:fX P Φ) (Y:pW P N Λ (occs code)) (Z:∀x,qN P N Φ Λ code fn.results (gC ai x) (mm ro)=F x):enters P f/\iZ P f (gD ai ro F):=by
 refine⟨⟨fn,C,O,by rw[hb];rfl⟩,λX args k r h=>?_⟩
 simp[gD]at h;split at h
 ·rename_i x D;split at h
  ·rename_i y E
   refine⟨_,h,λX' k'=>by simp only[gD,D,E],λnm w bX I hQ=>?_⟩
   obtain⟨k1,k2⟩:=Iu ai args x D
   refine Iv C hb L (by rw[ac2];exact cI Q) T U Y (ac3 ai x) ((Z x).trans E) nm w bX ⟨I.1.trans k1.symm,λj p hp=>?_⟩ hQ
   obtain⟨q,hq,J,rG⟩:=k2 j p hp;obtain⟨u,hu,oC⟩:=I.2 j q hq;refine⟨u,hu,?_⟩;obtain⟨b,ys⟩:=p;simp only at J;subst J;exact oC.rR rG
  ·cases h
 ·cases h
def apw{f:Nat}{fn:Func}{code:Code}{t:TC}{g:Nat}{F:aa (T t) -> aj (aa (T t))}(I:P.funcs[f]?=some fn)(hb:fn.body=some code)(J:fn.ntmps=N)(B3:(fn.name == "runtime.NumGoroutine")=false)(Wz:Nat.ble 1 N=true)(L:mF [(false,.sl t,g)]=true)
  (O:fX P Φ) (Q:pW P N Λ (occs code)) (hF:∀x:aa (T t),qN P N Φ Λ code fn.results [(false,[.sl t 0 false x])] (mm [(false,.sl t,g)])=F x)
  (h0:qN P N Φ Λ code fn.results [(false,[.nil])] (mm [(false,.sl t,g)])=some ([]:aa (T t))) (h1:qN P N Φ Λ code fn.results [(false,[.sl t 0 true []])] (mm [(false,.sl t,g)])=some ([]:aa (T t))):
  enters P f/\iZ P f (gD [(false,.sl t)] [(false,.sl t,g)] λx=>bif jn x.1 then some ([]:aa (T t))else F x.1):=by
 refine⟨⟨fn,I,B3,by rw[hb];rfl⟩,λX args k r h=>?_⟩
 simp only[gD]at h;split at h
 ·rename_i x E;split at h
  ·rename_i y D
   refine⟨_,h,λX' k'=>by simp only[gD,E,D],λnm w bX mV U=>?_⟩
   obtain⟨k1,k2⟩:=Iu _ args x E;obtain⟨l,_⟩:=x;have WA:vf w [(false,[.sl t 0 false l])] bX:=⟨mV.1.trans k1.symm,λj p C=>by
    obtain⟨q,hq,yX,rG⟩:=k2 j p C;obtain⟨u,hu,oC⟩:=mV.2 j q hq;refine⟨u,hu,?_⟩;obtain⟨b,ys⟩:=p;subst yX;exact oC.rR rG⟩
   have Y:1 <= N:=cI Wz;have Z:∀ (v:V),v.aF=true -> ∀ (j:Nat) p,([(false,[v])]:aa Pt)[j]?=some p -> ∀ y∈p.2,y.aF=true:=by
    intro v hv j p C y D;rcases j with _|j
    ·injection C with C;subst C;rw[oe.1 D];exact hv
    ·cases C
   obtain⟨u,hu,C⟩:=WA.2 0 _ rfl;obtain⟨us,e,_,hv⟩:=C.pv;have e:us = #[u]:=e;subst e;obtain⟨v,g1,hr⟩:=hv 0 _ rfl;have g1:u=v:=by simpa using g1
   subst g1;have one:∀ v:V,RV w w.heap.size (λ_=>none) [] v u -> vf w [(false,[v])] bX:=λv hr=>⟨WA.1,λj p C=>by
    rcases j with _|j
    ·injection C with C;subst C;exact⟨u,hu,.v _ _ ⟨#[u],rfl,rfl,λi x E=>by
      rcases i with _|i
      ·injection E with E;subst E;exact⟨u,rfl,hr⟩
      ·cases E⟩⟩
    ·cases C⟩
   cases l with
   |cons a l=>exact Iv (uf:=[(false,[.sl t 0 false (a::l)])]) I hb J Y L O Q (Z _ rfl) ((hF _).trans D) nm w bX WA U
   | nil=>
    have D:some ([]:aa (T t))=some y:=D;injection D with D;subst D;cases hr with
    |cS=>exact Iv (uf:=[(false,[.nil])]) I hb J Y L O Q (Z _ rfl) h0 nm w bX (one _ (.nil _)) U
    |cW _ _ _ A c ho=>exact Iv (uf:=[(false,[.sl t 0 true []])]) I hb J Y L O Q (Z _ rfl) h1 nm w bX (one _ (.de _ _ _ _ _ ho)) U
    |aF _ _ _ qn l b off cap us ho hl MY hB pG hc rA=>exact Iv (uf:=[(false,[.sl t 0 true []])]) I hb J Y L O Q (Z _ rfl) h1 nm w bX (one _ (.de _ _ _ _ _ ho)) U
  ·cases h
 ·cases h
end
def Iw(N:Nat)(σ:S)(t:Nat):S:=match σ.t t with
 | .view [q] s 0 j=>bif Nat.blt t N then (match σ.m q with
  |some (.sl (.sl C (o+2) D l))=>bif Nat.beq (full C) 0 then (((σ.drop q).drop t).root t (.sl (.sl C 2 false (l.take j)))).set t (.lf (.own [t]))else σ
  |_=>σ)else σ
 |_=>σ
def vw(N:Nat)(σ:S):aa ResultVar->S
 |[]=>σ
 |.tmp t::r=>vw N (Iw N σ t) r
 |_::r=>vw N σ r
def B4{X:Type}(P:Program)(N:Nat)(Φ:eD)(Λ:m7)(code:Code)(C:Array ResultVar)(D:aa In)(args:aa Ar)(k:aa In->gp->aj X):aj X:=
 gA P N Φ Λ code (wR D args) λe σ=>match zS e with
  |some 0=>Hz P (vw N σ C.toList) C D k
  |some 1=>Hz P (vw N σ C.toList) C D k
  |_=>none
section
variable {P:Program} {w w':World} {w0:Wd} {B N:Nat} {ah aE:bG} {ρ ρ':Nat->Loc} {σ:S} {a:Act} {X:Type} {d:Nat} {r:X} {o:Oper} {Φ:eD} {Λ:m7}
def Rl.Iw{t:Nat}(h:Rl w0 N ah ρ σ a w):∃ aE ρ',Rl w0 N aE ρ' (Proofs.YtglnbhiaknohlaaGreat.Iw N σ t) a w:=by
 unfold Proofs.YtglnbhiaknohlaaGreat.Iw;split
 ·rename_i q s j ht;cases Y:Nat.blt t N with
  |false=>exact⟨ah,ρ,h⟩
  | true=>
   have Y:t<N:=by have:=cI Y;omega
   rw[ak];split
   ·rename_i E g qn l hm;cases Q:Nat.beq (full E) 0 with
    |false=>exact⟨ah,ρ,h⟩
    | true=>
     have Q:=ck Q;rw[ak];have hv:=h.tmp t;rw[ht]at hv;obtain⟨A,n,c,T,_,hj,hu⟩:=hv;have fW:sliced A 0 j c s = .slice A j c:=by cases A<;>simp[sliced,Addr.add]
     rw[fW]at hu;let D:bG:=λb=>match ah b with
      |some k=>bif bL q k then (bif Nat.beq k.length 1 then some [t]else none)else some k
      |none=>none
     have hrel:Rel q ah D:=⟨h.wH,λb hb=>by simp[D,hb],λb k hb C=>by simp[D,hb,C]⟩
     have Z:=h.rel hrel (λb k C=>by
      simp only[D]at C;cases hl:ah b with
      |none=>rw[hl]at C;cases C
      | some k'=>
       rw[hl]at C;simp only at C;refine⟨⟨_,rfl⟩,?_⟩;cases hq:bL q k' with
       | true=>
        rw[hq,ak]at C;cases hlen:Nat.beq k'.length 1 with
        |true=>rw[hlen,ak]at C;injection C with C;rw[<- C];simp
        |false=>rw[hlen,aq]at C;cases C
       | false=>
        rw[hq,aq]at C;injection C with C;subst C;exact(h.cX b k' hl).2.2)
     have gP:=h.root q _ hm;generalize J:aZ.sl (.sl E (g+2) qn l)=z at gP;cases gP with
     |aB=>cases J
     |mp=>cases J
     |gh=>cases J
     | sl v y dz L=>
      injection J with J;subst J;simp only[cH,dz]at T;injection T with T;subst T;have hn:n=l.length:=by cases L<;>rfl
      have apx:RV w w0.heap.size D [t] (.sl E 2 false (l.take j)) (.slice A j c):=by
       cases L with
       | cS=>
        have:j=0:=by simpa using hj
        subst this;exact .cS _ _ _
       |cW _ _ _ _ _ ho=>omega
       |de _ _ _ _ _ ho=>omega
       |aF _ _ _ _ _ _ _ _ _ ho=>omega
       | own _ _ _ _ _ b cap cs us qA hh hs Bb sD hc L=>
        have hl:(l.take j).length=j:=by rw[fF];omega
        have hle:∀i (hi:i<(l.take j).length),∃U:i<l.length,(l.take j)[i]=l[i]:=λi hi=>⟨by omega,List.getElem_take⟩
        have:=RV.own (w:=w) (B:=w0.heap.size) (ah:=D) [t] E 0 false (l.take j) b c cs us (by simp[D,qA,bL]) hh hs (by omega) ⟨sD.1,λh=>by cases h⟩ (λi hi k x O=>by
         obtain⟨U,e⟩:=hle i hi;rw[e,DV E Q 0]at O;exact hc i U k x O) (λi hi k x O=>by
         obtain⟨U,e⟩:=hle i hi;rw[e,DV E Q 0]at O;exact(L i U k x O).tL (yQ E g _ Q x (ga O)))
        rw[hl]at this;exact this
      have hrm:va w w D D t:=⟨eB _,λ_ _ _=>rfl,λ_ _=>rfl,Z.wH⟩
      have I:=Z.yU (d:=t) (ρ':=bV ρ t (.dI (.slice A j c))) (x:=.sl (.sl E 2 false (l.take j))) (h.di t (.inl Y)) ⟨rfl,rfl,rfl,eB _,λ_ _ _=>rfl⟩ hrm (λb k hb C=>by
       have:=(Z.cX b k C).2.1;omega) (λr L=>cF _ _ _ L) (.sl _ _ (cg _ _ _) apx)
      refine⟨_,_,I.below,I.cX,I.root,λk=>?_,I.size,I.defers,I.fix,I.di⟩
      show RA w w0.heap.size D _ (bV _ t _ k) _;by_cases C:k=t
      ·subst C;rw[cg,hu];exact⟨rfl,by simp only[cH,cg]⟩
      ·rw[cF _ _ _ C];exact I.tmp k
   ·exact⟨ah,ρ,h⟩
 ·exact⟨ah,ρ,h⟩
def Rl.vw:∀ (l:aa ResultVar) (σ:S) (ah:bG) (ρ:Nat -> Loc),Rl w0 N ah ρ σ a w -> ∃ aE ρ',Rl w0 N aE ρ' (Proofs.YtglnbhiaknohlaaGreat.vw N σ l) a w
 |[],_,ah,ρ,h=>⟨ah,ρ,h⟩
 | .tmp t :: r,_,_,_,h=>by
  obtain⟨C,D,E⟩:=h.Iw;exact Rl.vw r _ C D E
 |.cell _ _::r,_,ah,ρ,h=>Rl.vw r _ ah ρ h
def fnM_core{f:Nat}{fn:Func}{code:Code}{C:aa In}{args:aa Ar}{k:aa In -> gp -> aj X}(hf:P.funcs[f]?=some fn)(hb:fn.body=some code)(hN:fn.ntmps=N)(Ez:N <= 20000)(hlen:args.length <= N)
  (fO:fX P Φ) (xj:pW P N Λ (occs code)) (h:B4 P N Φ Λ code fn.results C args k=some r) (nm:Nat -> Nat) (w:World) (ah:bG) (ρ:Nat -> Loc) (bX:Array Value)
  (Y:pR w w.heap.size ah ρ 0 C) (mj:∀b k,ah b=some k -> b<w.heap.size/\k≠[]) (gx:bX.size=args.length) (hv:∀i,RA w w.heap.size ah ρ ((wR C args).t i) (bX.getD i undef)) (O:Hd w ah):
  Calls P f bX w λe w'=>∃v aE outs D,k outs D=some r/\e = .returned v/\jl ⟨w,ah,λ_=>none,O,λ_ _=>rfl⟩ w w'/\(∀b k,aE b=some k -> (w.heap.size <= b \/ ah b≠none)/\b<w'.heap.size/\k≠[])/\rI w' w.heap.size aE nm D v/\rN w w' aE ρ nm 0 D.len C outs:=by
 let W:Wd:=⟨w,ah,λr=>if 20000 <= r/\r<60000 then some (ρ r)else none,O,λr Z=>bE⟩
 refine calls_of_wp hf hb ?_;unfold B4 at h;have hR:R W N (wR C args) { tmps:=bX++Array.replicate (fn.ntmps-bX.size) undef,defers:=[] } w:=by
  refine⟨ah,ρ,.of (Below.refl w.heap.size w) (eB _),λb k hb=>⟨.inr (by rw[show W.L b=ah b from rfl,hb];simp),mj b k hb⟩,pR.roots C 0 _ Y (λr x hx=>by cases hx),λj=>?_,by simp[hN];omega,rfl,λr l Z=>?_,λr Z=>?_⟩
  ·by_cases hj:j<bX.size
   ·have e:(bX++Array.replicate (fn.ntmps-bX.size) undef).getD j undef=bX.getD j undef:=by
     rw[iu,Array.getElem?_append_left hj,iu]
    rw[e];exact hv j
   ·have e:(wR C args).t j = .undef:=by
     simp only[wR,List.getElem?_eq_none (by omega:args.length <= j)]
    rw[e];trivial
  ·grind
  ·grind
 refine wp_mono (Eu (w0:=W) fO code _ _ h xj _ w hR) λe Q w' E=>?_
 obtain⟨dV,J,D3,D1,I⟩:=E;have fin:Hz P (Proofs.YtglnbhiaknohlaaGreat.vw N dV fn.results.toList) fn.results C k=some r -> Q.defers=[] /\ ∃ v,(results fn Q.tmps).run P w' = .ok v w' /\ ∃ Ix aE outs D,k outs D=some r/\Ending.returned v=Ending.returned Ix/\jl ⟨w,ah,λ_=>none,O,λ_ _=>rfl⟩ w w'/\(∀ b k,aE b=some k -> (w.heap.size <= b \/ ah b≠none)/\b<w'.heap.size/\k≠[])/\rI w' w.heap.size aE nm D Ix/\rN w w' aE ρ nm 0 D.len C outs:=by
  intro Wy;obtain⟨outs,D,hko,ew⟩:=amN (w0:=W) rfl (λr T U=>br ⟨T,U⟩) (pR.UP C 0 Y) Wy;obtain⟨dg,eH,oD⟩:=Rl.vw _ dV D3 D1 I;obtain⟨v,aE,T,U,h3,h4⟩:=ew dg eH Q w' oD nm;exact⟨I.defers,v,T,v,aE,outs,D,hko,rfl,⟨I.below.os,I.below.tape,I.below.output,I.below.size,λk J=>I.below.block k J⟩,U,h3,h4⟩
 split at J
 next E=>have E:=sX E;subst E;exact fin J
 next E=>have E:=sX E;subst E;exact fin J
 ·cases J
end
def rY:(l:aa (Bool×TC×Nat))->aa In->aj (rO l)
 |[],[]=>some ()
 | (true,t,g) :: r,.aB cs :: is=>match dec t g cs,rY r is with
  |some x,some xs=>some (x,xs)
  |_,_=>none
 | (false,t,g) :: r,.sl y :: is=>match (bif Nat.ble 1000000 g then (bif y.ki then none else y.dR t (g+2))else bif y.ki then y.dR t (g+2)else none),rY r is with
  |some x,some xs=>some (x,xs)
  |_,_=>none
 |_,_=>none
def Ox:aa In->aa In->aa In->Prop
 |[],[],[]=>True
 |.aB I::C,.aB cs::r,.aB eZ::D=>(bW cs eZ/\I.map (λv=>(v.plain,v.aF))=eZ.map (λv=>(v.plain,v.aF))/\∀x∈eZ,x.ki=true)/\Ox C r D
 |.sl _::C,.sl y::r,.sl E::D=>(Wk y E/\(y = .nil->E = .nil))/\Ox C r D
 |_,_,_=>False
def Oy:∀ (ps:aa PK) (C:kP ps) (is:aa In) (x:rO (eO ps)),rY (eO ps) is=some x -> Ox (nQ ps C) is (jb (eO ps) x)
 |[],_,[],x,_=>trivial
 |[],_,_::_,x,h=>by simp[rY,eO]at h
 |.v b t::ps,C,is,x,h=>Oy ps C.2 is x h
 |.p t g off::ps,C,[],x,h=>by simp[rY,eO]at h
 |.s t g::ps,C,[],x,h=>by simp[rY,eO]at h
 |.p t g off::ps,C,.sl _::_,x,h=>by simp[rY,eO]at h
 |.s t g::ps,C,.aB _::_,x,h=>by simp[rY,eO]at h
 | .p t g off :: ps,C,.aB cs :: is,x,h=>by
  have h:rY ((true,t,g)::eO ps) (.aB cs::is)=some x:=h;unfold rY at h;split at h
  next y ys D I=>injection h with h;subst h;exact⟨⟨l6 t g cs y D,alW t g C.1 y,λz J=>TO t g y z J⟩,Oy ps C.2 is ys I⟩
  ·cases h
 | .s t g :: ps,C,.sl y :: is,x,h=>by
  have h:rY ((false,t,g)::eO ps) (.sl y::is)=some x:=h;unfold rY at h;split at h
  ·rename_i z L D I;injection h with h;subst h;refine⟨?_,Oy ps C.2 is L I⟩;cases hb:Nat.ble 1000000 g with
   | true=>
    cases E:y.ki with
    |true=>simp_all
    | false=>
     have:y = .nil:=by cases y<;>first|rfl|cases E
     subst this;exact⟨.same _,λ_=>rfl⟩
   | false=>
    cases E:y.ki with
    |false=>simp_all
    | true=>
     rw[hb,E]at D;exact⟨V.eo D,λe=>by subst e;cases E⟩
  ·cases h
def rN.typed{w w':World}{aE:bG}{ρ:Nat -> Loc}{nm:Nat -> Nat}:∀ (E:aa In) (i Q:Nat) (outs L:aa In),rN w w' aE ρ nm i Q E outs -> Ox E outs L -> Hy w w' aE ρ nm i Q E L
 |[],i,Q,[],[],h,C=>trivial
 | .aB cs0 :: E,i,Q,.aB cs1 :: outs,.aB cs2 :: L,h,C=>by
  obtain⟨⟨b,off,cells,wS,e,e',T,U,h3,h4,h5,h6,h7⟩,Y⟩:=h;obtain⟨⟨O,WB,hnn⟩,Z⟩:=C
  refine⟨⟨b,off,cells,wS,e,e',T,U,h3,h4,by rw[<- O.1];exact h5,by rw[<- O.1];exact h6,λj x hx=>?_⟩,rN.typed E _ _ outs L Y Z⟩
  have hj:j<cs1.length:=by rw[O.1];exact(dQ.1 hx).1
  obtain⟨u,hu,hc⟩:=h7 j _ (bO hj);have C:=O.2 j _ x (bO hj) hx;have WC:∀ I,cs0[j]?=some I -> I.plain=x.plain/\I.aF=x.aF:=by
   intro I h0;have e1:(cs0.map (λv=>(v.plain,v.aF)))[j]?=(cs2.map (λv=>(v.plain,v.aF)))[j]?:=by rw[WB]
   grind
  have hxn:=hnn x (ga hx);generalize cs1[j]=y at hc C;refine⟨u,hu,?_⟩;rcases hc with ⟨D,J⟩|⟨D,J,I,c3,c4⟩|⟨D,J,c6,⟨I,c3,c4⟩,c5⟩|⟨D,J⟩
  ·cases C with
   |same=>grind
   |nil t o=>cases D
   |q t o l=>cases D
   |gr=>cases D
  ·subst D J;have hf:x.aF=false:=by rw[<- (WC I c3).2];exact c4
   cases C with
   |same=>cases hxn
   |nil t o=>exact .inr (.inr ⟨hf,.cS _ _ _⟩)
  ·cases C with
   |same=>grind
   |nil t o=>cases c6
   |q t o l=>exact .inr (.inl ⟨rfl,J,c5⟩)
   |gr t o o' qn l T U=>simp[V.aF]at J;omega
  ·have hf:=C.UU D;exact .inr (.inr ⟨hf,J.wk C⟩)
 | .sl y0 :: E,i,Q,.sl y1 :: outs,.sl y2 :: L,h,C=>by
  obtain⟨h,Y⟩:=h;obtain⟨⟨O,hn⟩,Z⟩:=C;exact⟨h.imp hn (λ⟨v,T,U⟩=>⟨v,T,U.wk O⟩),rN.typed E _ _ outs L Y Z⟩
 |[],_,_,_::_,_,h,_=>h.elim
 |[],_,_,[],_::_,_,h=>h.elim
 |.aB _::_,_,_,[],_,h,_=>h.elim
 |.sl _::_,_,_,[],_,h,_=>h.elim
 |.aB _::_,_,_,.sl _::_,_,h,_=>h.elim
 |.sl _::_,_,_,.aB _::_,_,h,_=>h.elim
 |.aB _::_,_,_,.aB _::_,[],_,h=>h.elim
 |.aB _::_,_,_,.aB _::_,.sl _::_,_,h=>h.elim
 |.sl _::_,_,_,.sl _::_,[],_,h=>h.elim
 |.sl _::_,_,_,.sl _::_,.aB _::_,_,h=>h.elim
def ac4:∀ (l:aa (Bool×TC×Nat)) (ps:aa Pt) (x:ja l),qF l ps=some x -> (ps.map λp=>p.2.length)=((tR l x).map λp=>p.2.length)
 |[],[],x,h=>rfl
 | [(b,t,g)],[(C,D)],x,h=>by
  unfold qF at h;cases hb:b==C with
  |false=>rw[hb]at h;cases h
  | true=>
   rw[hb]at h;simp[tR,(l6 t g D x h).1]
 | (b,t,g) :: q :: r,(C,D) :: ps,x,h=>by
  unfold qF at h;cases hb:b==C with
  |false=>simp_all
  | true=>
   rw[hb]at h;split at h
   next y ys E I=>injection h with h;subst h;simp only[tR,List.map_cons];rw[ac4 _ ps ys I,(l6 t g D y E).1]
   ·cases h
def apy{l:aa (Bool×TC×Nat)}{C:gp}{x:ja l}(h:mm l C=some x):C.len=(ff l x).len:=by
 have key:∀ ps,qF l ps=some x -> (ps.map λp=>p.2.length).sum=(ff l x).len:=by
  intro ps h;rw[ac4 l ps x h];unfold ff
  match hm:tR l x with
  |[q]=>simp[gp.len]
  |[]=>rfl
  |_::_::_=>rfl
 cases C with
 |one p=>have:=key [p] h;simpa [gp.len]using this
 | cQ ps=>
  simp only[mm]at h;cases hb:Nat.beq ps.length 1 with
  |true=>simp_all
  |false=>rw[hb]at h;exact key ps h
section
variable {P:Program} {w w':World} {w0:Wd} {B N:Nat} {ah aE:bG} {ρ ρ':Nat->Loc} {σ:S} {a:Act} {X:Type} {d:Nat} {r:X} {o:Oper} {Φ:eD} {Λ:m7}
def EA(l ro:aa (Bool×TC×Nat))(outs:aa In)(C:gp):aj (ja ro×rO l):=
 match mm ro C,rY l outs with
 |some x,some y=>some (x,y)
 |_,_=>none
def Oz{f:Nat}{fn:Func}{code:Code}{ps:aa PK}{ro:aa (Bool×TC×Nat)}{F:kP ps->aj (ja ro×rO (eO ps))}(I:P.funcs[f]?=some fn)(hb:fn.body=some code)(L:fn.ntmps=N)(O:(fn.name == "runtime.NumGoroutine")=false)(Q:Nat.ble ps.length N=true)(T:Nat.ble N 20000=true)(U:mF ro=true)
  (Y:fX P Φ) (Z:pW P N Λ (occs code)) (hF:∀x,B4 P N Φ Λ code fn.results (nQ ps x) (kr ps 0 x) (EA (eO ps) ro)=F x):enters P f/\vg P f ⟨ps,ro,F⟩:=by
 refine⟨⟨fn,I,O,by rw[hb];rfl⟩,λx y h nm w ah ρ bX hE mj D hv hQ=>?_⟩
 have h:F x=some y:=h;rw[<-hF x]at h;have hlen:∀ (ps:aa PK) (i:Nat) (x:kP ps),(kr ps i x).length=ps.length:=by
  intro ps
  induction ps with
  |nil=>intro i x;rfl
  | cons p ps E=>
   intro i x;cases p with
   |v=>exact bF (· + 1) (E _ _)
   |p=>exact bF (· + 1) (E _ _)
   |s=>exact bF (· + 1) (E _ _)
 have D:bX.size=(kr ps 0 x).length:=by rw[hlen];exact D
 refine(fnM_core I hb L (cI T) (by rw[hlen];exact cI Q) Y Z h nm w ah ρ bX hE mj D hv hQ).mono λe w' rL=>?_
 obtain⟨v,aE,outs,res,C,he,sL,hl,ko,U6⟩:=rL;unfold EA at C;split at C
 next y1 y2 J h2=>injection C with C;subst C;refine⟨v,aE,he,sL,hl,ac1 U J ko,?_⟩;rw[<-apy J];exact rN.typed _ _ _ _ _ U6 (Oy ps x outs y2 h2)
 ·cases C
end
set_option maxRecDepth 100000
def OA(σ:S)(C:Array ResultVar):aj Int:=
 match C.toList with
 | [.tmp t]=>(match σ.t t with
  | .aG r 0=>(match σ.m r with
   |some (.aB [.own [n],.v (.int .i64 z),.v (.int .i64 h)])=>bif Nat.beq n 20000&&z==0 then some h else none
   |_=>none)
  |_=>none)
 |_=>none
def ac5(P:Program)(N:Nat)(Φ:eD)(Λ:m7)(code:Code)(C:Array ResultVar)(l:aa (T .u8)):aj Int:=
 gA P N Φ Λ code (wR [.sl (.sl .u8 0 false l)] [.mut 0 0]) λe σ=>match zS e with
  |some 0=>OA σ C
  |some 1=>OA σ C
  |_=>none
section
variable {P:Program} {w w':World} {w0:Wd} {B N:Nat} {ah aE:bG} {ρ ρ':Nat->Loc} {σ:S} {a:Act} {X:Type} {d:Nat} {r:X} {o:Oper} {Φ:eD} {Λ:m7}
def apz{f:Nat}{fn:Func}{code:Code}{F:aa Int->aj Int}(hf:P.funcs[f]?=some fn)(hb:fn.body=some code)(hN:fn.ntmps=N)(B3:(fn.name == "runtime.NumGoroutine")=false)(hN1:Nat.ble 1 N=true)(Ez:Nat.ble N 20000=true)
  (fO:fX P Φ) (xj:pW P N Λ (occs code)) (hF:∀l,ac5 P N Φ Λ code fn.results l=F l):enters P f/\NJ P f F:=by
 refine⟨⟨fn,hf,B3,by rw[hb];rfl⟩,λw l h v Y hv hQ=>?_⟩
 rw[<-hF l]at Y;unfold ac5 at Y;have hN1:=cI hN1;have Ez:=cI Ez;let W:Wd:=⟨w,λ_=>none,λr=>if 20000<=r/\r<60000 then some (.dI v)else none,hQ,λr E=>bE⟩
 refine calls_of_wp hf hb ?_;have hR:R W N (wR [.sl (.sl .u8 0 false l)] [.mut 0 0]) { tmps:=#[v]++Array.replicate (fn.ntmps-(#[v]:Array Value).size) undef,defers:=[] } w:=by
  refine⟨λ_=>none,λ_=>.dI v,.of (Below.refl w.heap.size w) (eB _),(λb k hb=>by cases hb),λn y J=>?_,λj=>?_,by simp[hN];omega,rfl,λr l E=>?_,λr E=>?_⟩
  ·have J:bV (λ_=>none) (nF 0) (some (.sl (.sl .u8 0 false l))) n=some y:=J;by_cases T:n=nF 0
   ·subst T;rw[cg]at J;injection J with J;subst J;exact .sl v _ rfl (hv.key rfl)
   ·rw[cF _ _ _ T]at J;cases J
  ·cases j with
   | zero=>
    have e:(#[v]++Array.replicate (fn.ntmps-(#[v]:Array Value).size) undef).getD 0 undef=v:=by
     rw[iu,Array.getElem?_append_left (by simp)];rfl
    show RA w w.heap.size _ _ (.lf (.own [nF 0])) ((#[v]++Array.replicate (fn.ntmps-(#[v]:Array Value).size) undef).getD 0 undef);rw[e];exact⟨hv.mQ rfl rfl,rfl⟩
   |succ j=>exact trivial
  ·have E:(if 20000<=r/\r<60000 then some (Loc.dI v)else none)=some l:=E;split at E
   ·injection E
   ·cases E
  ·show (if 20000<=r/\r<60000 then some (Loc.dI v)else none)=none;rw[bE]
 refine wp_mono (Eu (w0:=W) fO code _ _ Y xj _ w hR) λe U w' I=>?_
 obtain⟨dV,L,D3,D1,D⟩:=I;have fin:OA dV fn.results=some h->U.defers=[]/\∃ u,(results fn U.tmps).run P w' = .ok u w'/\∃ b off cells t,Ending.returned u = .returned (.pointer (some ⟨b,off,none⟩))/\Below w.heap.size w w'/\w.heap.size<=b/\w'.heap[b]?=some (.cells cells t (0,0))/\cells[off]?=some v/\cells[off+1]?=some (.int .i64 0)/\cells[off+2]?=some (.int .i64 h):=by
  intro C;unfold OA at C;split at C
  ·rename_i t ht;split at C
   ·rename_i r E;split at C
    ·rename_i n z h' hm;cases hb:(Nat.beq n 20000&&z==0)with
     |false=>rw[hb]at C;cases C
     | true=>
      rw[hb,ak]at C;injection C with C;subst C;rw[aM]at hb;have T:=ck hb.1;have hz:z=0:=by simpa using hb.2
      subst T hz;have h1:=D.tmp t;rw[E]at h1;obtain⟨b,off,e1,e2⟩:=h1;have h2:=D.root r _ hm;generalize O:aZ.aB _=x at h2;cases h2 with
      |sl=>cases O
      |mp=>cases O
      |gh=>cases O
      | aB b' A9 cells e cs us dz hl DY hs Z=>
       injection O with O;subst O;rw[dz]at e1;injection e1 with e3 e4;subst e3 e4;obtain⟨c0,Q⟩:=Z 0 _ rfl;obtain⟨c1,d1⟩:=Z 1 _ rfl;obtain⟨c2,d2⟩:=Z 2 _ rfl;have Q:=Q.2;have WD:=D.fix 20000 (.dI v) rfl;simp only[cH,WD]at Q;injection Q with Q;rw[<-Q]at c0;rw[d1.2.gO]at c1;rw[d2.2.gO]at c2
       refine⟨D.defers,_,?_,b',A9,cells,e,rfl,⟨D.below.os,D.below.tape,D.below.output,D.below.size,λk L=>D.below.block k L rfl⟩,?_,DY,c0,c1,c2⟩
       ·have ko:results fn U.tmps=(do let vs <-fn.results.mapM (rM U.tmps);pure (if h:vs.size=1 then vs[0]else .tuple vs)):=by
         unfold results;congr 1
        have qL:fn.results = #[.tmp t]:=by apply Array.ext';exact ht
        rw[ko,qL,Array.mapM_eq_mapM_toList];simp[rM,e2]
       ·have:=(D.cX b' _ hl).1;exact this.resolve_right (λh=>h rfl)
    ·cases C
   ·cases C
  ·cases C
 split at L
 next I=>have I:=sX I;subst I;exact fin L
 next I=>have I:=sX I;subst I;exact fin L
 ·cases L
end
def nV(i j:Nat):Nat:=20001+1000*i+j
def EB(i j:Nat)(x:V):Lf:=match x with
 |.sl ..=>.own [nV i j]
 |x=>.v x
def xk(i:Nat):Nat->aa V->aa Lf
 |_,[]=>[]
 |j,x::xs=>EB i j x::xk i (j+1) xs
def WE(args:aa Pt)(n:Nat):aj aZ:=bif Nat.ble 20001 n&&Nat.blt n 60000 then (match args[(n-20001) / 1000]? with
 | some (_,xs)=>(match xs[(n-20001) % 1000]? with
  |some (.sl t g q l)=>some (.sl (.sl t g q l))
  |_=>none)
 |none=>none)else none
def ac6(args:aa Pt):S:=⟨λi=>match args[i]? with
 |some (false,[x])=>.lf (EB i 0 x)
 |some (true,xs)=>.agg (xk i 0 xs)
 |_=>.undef,WE args⟩
def OB(σ:S)(C:Array ResultVar)(a j:Nat)(t:TC):aj (Nat×Nat):=match C.toList with
 | [.tmp s]=>(match σ.t s with
  |.view [n] D i k=>bif Nat.beq n (nV a j)&&Nat.beq D (aD t)then some (i,k)else none
  |_=>none)
 |_=>none
def ac7(P:Program)(N:Nat)(Φ:eD)(Λ:m7)(code:Code)(C:Array ResultVar)(a j:Nat)(t:TC)(args:aa Pt):aj (Nat×Nat):=
 gA P N Φ Λ code (ac6 args) λe σ=>match zS e with
  |some 0=>OB σ C a j t
  |some 1=>OB σ C a j t
  |_=>none
def WG(ai:aa (Bool×TC))(a j:Nat)(t:TC)(F:mE ai->aj (Nat×Nat)):BB:=⟨a,j,t,λargs=>match zU ai args with
 |some x=>F x
 |none=>none⟩
section
variable {P:Program} {w w':World} {w0:Wd} {B N:Nat} {ah aE:bG} {ρ ρ':Nat->Loc} {σ:S} {a:Act} {X:Type} {d:Nat} {r:X} {o:Oper} {Φ:eD} {Λ:m7}
def ac8(i:Nat):∀ (xs:aa V) (C j:Nat),(xk i C xs)[j]?=(xs[j]?).map λx=>EB i (C+j) x
 |[],C,j=>by simp[xk]
 |x::xs,C,0=>by simp[xk]
 | x :: xs,C,j+1=>by
  simp[xk,List.getElem?_cons_succ,ac8]
  grind
def ac9(i:Nat):∀ (xs:aa V) (C:Nat),(xk i C xs).length=xs.length
 |[],_=>rfl
 |x::xs,C=>by simp[xk,ac9 i xs (C+1)]
def ada{i j:Nat}(h:j<1000):(nV i j-20001) / 1000=i/\(nV i j-20001) % 1000=j:=by
 unfold nV;omega
def zV(bX:Array Value)(n:Nat):Loc:=.dI ((tW bX ((n-20001) / 1000) ((n-20001) % 1000)).getD undef)
def adb{bX:Array Value}{i j:Nat}{x:V}{u:Value}(D:j<1000)(E:tW bX i j=some u)(I:x.aF=true)(C:RV w B (λ_=>none) [] x u):dy w B (λ_=>none) (zV bX) (EB i j x) u:=by
 unfold EB;split
 ·refine⟨C.mQ rfl rfl,?_⟩;obtain⟨J,L⟩:=ada (i:=i) D;simp only[cH,zV,J,L,E];rfl
 ·exact⟨I,C⟩
def apA{f:Nat}{fn:Func}{code:Code}{ai:aa (Bool×TC)}{J L:Nat}{t:TC}{F:mE ai -> aj (Nat×Nat)}(hf:P.funcs[f]?=some fn)(hb:fn.body=some code)(hN:fn.ntmps=N)(B3:(fn.name == "runtime.NumGoroutine")=false)(Wz:Nat.ble ai.length N=true)(Ez:Nat.ble N 20000=true)(gx:(ai.all λp=>Nat.blt (aD p.2) 1000&&(p.1 || Nat.beq (aD p.2) 1))=true)(hjj:Nat.blt L 1000=true)(haa:Nat.blt J 30=true)
  (fO:fX P Φ) (xj:pW P N Λ (occs code)) (hF:∀x,ac7 P N Φ Λ code fn.results J L t (gC ai x)=F x):enters P f/\NK P f (WG ai J L t F):=by
 refine⟨⟨fn,hf,B3,by rw[hb];rfl⟩,λargs p h w bX mV hQ=>?_⟩
 simp only[WG]at h;split at h
 ·rename_i x hx;obtain⟨k1,k2⟩:=Iu ai args x hx;have hlen:∀ (l:aa (Bool×TC)) (x:mE l),(gC l x).length=l.length:=by
   intro l
   induction l with
   |nil=>intro x;rfl
   |cons p l ih=>obtain⟨b,t⟩:=p;intro x;simp[gC,ih]
  have pI:bX.size=ai.length:=by rw[mV.1,<- k1,hlen]
  have hle:bX.size <= N:=by rw[pI];exact cI Wz
  have Ez:=cI Ez;have qL:∀ (l:aa (Bool×TC)) (x:mE l),(l.all λp=>Nat.blt (aD p.2) 1000&&(p.1 || Nat.beq (aD p.2) 1))=true -> ∀ (j:Nat) p,(gC l x)[j]?=some p -> (∀ y∈p.2,y.aF=true)/\p.2.length<1000/\(p.1=true \/ p.2.length=1):=by
   intro l
   induction l with
   |nil=>intro x _ j p O;simp[gC]at O
   | cons c l ih=>
    obtain⟨b,t⟩:=c;intro x hs j p O;rw[List.all_cons,aM]at hs;cases j with
    | zero=>
     simp[gC]at O;subst O
     refine⟨λy C=>?_,?_⟩
     ·obtain⟨i,hi⟩:=List.mem_iff_getElem?.1 C;exact jM t 0 x.1 (by omega) i y hi
     ·show (enc t 0 x.1).length<1000/\(b=true \/ (enc t 0 x.1).length=1);rw[jZ];have h8:=hs.1;rw[aM,ei]at h8;have h9:=cI h8.1;exact⟨h9,h8.2.imp id ck⟩
    |succ j=>exact ih x.2 hs.2 j p (by simpa [gC]using O)
  have Bl:∀ (i:Nat) (p:Pt),(gC ai x)[i]?=some p -> ∃ u:Value,bX[i]?=some u/\PV w w.heap.size (λ_=>none) (λ_=>[]) p u/\(∀ y∈p.2,y.aF=true)/\p.2.length<1000:=by
   intro i p O;obtain⟨q,hq,yX,rG⟩:=k2 i p O;obtain⟨u,Q,oC⟩:=mV.2 i q hq;obtain⟨g1,g2,g3⟩:=qL ai x gx i p O;refine⟨u,Q,?_,g1,g2⟩;obtain⟨b,ys⟩:=p;obtain⟨b',xs⟩:=q;simp only at yX;subst yX;have hw:=oC.rR rG;rcases g3 with g3|g3
   ·simp only at g3;subst g3;exact hw.pvS
   ·obtain⟨y,rfl⟩:=List.length_eq_one_iff.1 g3;cases b' with
    |true=>exact hw.pvS
    |false=>exact hw.pv
  have WH:∀ (i:Nat) (p:Pt),(gC ai x)[i]?=some p -> ∀ (j:Nat) y,p.2[j]?=some y -> ∃ u,tW bX i j=some u/\RV w w.heap.size (λ_=>none) [] y u/\y.aF=true/\j<1000:=by
   intro i p O j y C;obtain⟨u,Q,⟨us,D,h2,h3⟩,h4,h5⟩:=Bl i p O;obtain⟨v,E,I⟩:=h3 j y C;refine⟨v,?_,I,h4 y (ga C),by have:=(dQ.1 C).1;omega⟩;unfold tW;rw[Q];obtain⟨b,ys⟩:=p;cases b with
   | true=>
    have D:u = .agg us:=D;subst D;exact E
   | false=>
    have D:us = #[u]:=D;subst D;have hj:j=0:=by
     have:=(gd.1 E).1
     simpa using this
    subst hj;have:u=v:=by simpa using E
    subst this;have BS:∀ us,u ≠ .agg us:=by
     rintro us rfl;cases I
    cases u<;>first|exact absurd rfl (BS _)|rfl
  let W:Wd:=⟨w,λ_=>none,λr=>if 20000 <= r/\r<60000 then some (zV bX r)else none,hQ,λr I=>bE⟩
  refine calls_of_wp hf hb ?_;rw[<- hF x]at h;unfold ac7 at h;have hR:R W N (ac6 (gC ai x)) { tmps:=bX++Array.replicate (fn.ntmps-bX.size) undef,defers:=[] } w:=by
   refine⟨λ_=>none,zV bX,.of (Below.refl w.heap.size w) (eB _),(λb k hk=>by cases hk),(λn y C=>?_),λi=>?_,by simp[hN];omega,rfl,λr l I=>?_,λr I=>?_⟩
   ·have C:WE (gC ai x) n=some y:=C;unfold WE at C;cases hb:(Nat.ble 20001 n&&Nat.blt n 60000)with
    |false=>rw[hb]at C;cases C
    | true=>
     rw[hb,ak]at C;split at C
     ·rename_i b xs O;split at C
      next t' g q l hl=>injection C with C;subst C;obtain⟨u,Q,I,qz,_⟩:=WH _ _ O _ _ hl;refine .sl u _ ?_ (I.key qz);unfold zV;simp[*]
      ·cases C
     ·cases C
   ·show RA w w.heap.size _ _ (match (gC ai x)[i]? with | some (false,[x])=>A.lf (EB i 0 x) | some (true,xs)=>.agg (xk i 0 xs) | _=>.undef) _;have DM:∀ p:Pt,(gC ai x)[i]?=some p -> ∃ u:Value,bX[i]?=some u/\(bX++Array.replicate (fn.ntmps-bX.size) undef).getD i undef=u:=by
     intro p O;obtain⟨u,Q,_⟩:=Bl i p O;have hi:=(gd.1 Q).1;exact⟨u,Q,by rw[iu,Array.getElem?_append_left hi,Q];rfl⟩
    split
    ·rename_i x' pH;obtain⟨u,Q,e⟩:=DM _ pH;rw[e];obtain⟨v,E,I,qz,_⟩:=WH i _ pH 0 x' rfl;have UA:u=v:=by
      unfold tW at E;rw[Q]at E;obtain⟨u2,Y,⟨us,D,h2,h3⟩,_⟩:=Bl i _ pH;rw[Q]at Y;injection Y with Y;subst Y;have D:us = #[u]:=D;subst D;obtain⟨v3,hv3,hr3⟩:=h3 0 x' rfl;have:u=v3:=by simpa using hv3
      subst this;have BS:∀ us,u ≠ .agg us:=by
       rintro us rfl;cases hr3
      cases u<;>first|exact absurd rfl (BS _)|(simp only[show Nat.beq 0 0=true from rfl,ak,iy]at E;exact E)
     subst UA;exact adb (by omega) E qz I
    ·rename_i xs pH;obtain⟨u,Q,e⟩:=DM _ pH;rw[e];obtain⟨u2,Y,⟨us,D,h2,h3⟩,_⟩:=Bl i _ pH;rw[Q]at Y;injection Y with Y;subst Y;have D:u = .agg us:=D
     refine⟨us,D,by rw[ac9];exact h2,λj y C=>?_⟩
     rw[ac8]at C;cases hz:xs[j]? with
     |none=>rw[hz]at C;cases C
     | some z=>
      rw[hz]at C;injection C with C;subst C;obtain⟨v,E,I,qz,hj⟩:=WH i _ pH j z hz;have huj:us[j]?=some v:=by
       unfold tW at E;rw[Q,D]at E;exact E
      refine⟨v,huj,?_⟩;rw[fo];exact adb hj E qz I
    ·trivial
   ·have I:(if 20000 <= r/\r<60000 then some (zV bX r)else none)=some l:=I;split at I
    ·injection I
    ·cases I
   ·show (if 20000 <= r/\r<60000 then some (zV bX r)else none)=none;rw[bE]
  refine wp_mono (Eu (w0:=W) fO code _ _ h xj _ w hR) λe a' w' Z=>?_
  obtain⟨dV,hk,D3,D1,gM⟩:=Z;have fin:OB dV fn.results J L t=some p -> a'.defers=[] /\ ∃ u,(results fn a'.tmps).run P w' = .ok u w' /\ ∃ A n cap,tW bX J L=some (.slice A n cap)/\p.1 <= p.2/\p.2 <= n/\Ending.returned u = .returned (sliced A p.1 p.2 cap (aD t))/\Below w.heap.size w w':=by
   intro U;unfold OB at U;split at U
   ·rename_i s hs;split at U
    ·rename_i n sz i k E;cases gz:(Nat.beq n (nV J L)&&Nat.beq sz (aD t))with
     |false=>rw[gz]at U;cases U
     | true=>
      rw[gz,ak]at U;injection U with U;subst U;rw[aM]at gz;have hn:=ck gz.1;have apB:=ck gz.2;subst hn apB;have D:=gM.tmp s;rw[E]at D;obtain⟨A,m,c,T,e2,e3,e4⟩:=D;have hjj:=cI hjj;have BS:20000 <= nV J L:=by unfold nV;omega
      by_cases dZ:nV J L<60000
      ·have WD:=gM.fix (nV J L) (zV bX (nV J L)) (br ⟨BS,dZ⟩);have T:(match D1 (nV J L)with | .dI v=>some v | _=>none)=some (Value.slice A m c):=T;rw[WD]at T;obtain⟨d1,d2⟩:=ada (i:=J) (j:=L) (by omega);have T:some ((tW bX ((nV J L-20001) / 1000) ((nV J L-20001) % 1000)).getD undef)=some (Value.slice A m c):=T;rw[d1,d2]at T;injection T with T
       refine⟨gM.defers,_,?_,A,m,c,?_,e2,e3,bF Ending.returned e4,⟨gM.below.os,gM.below.tape,gM.below.output,gM.below.size,λk hk=>gM.below.block k hk rfl⟩⟩
       ·have ko:results fn a'.tmps=(do let vs <- fn.results.mapM (rM a'.tmps);pure (if h:vs.size=1 then vs[0]else .tuple vs)):=by
         unfold results;congr 1
        have qL:fn.results = #[.tmp s]:=by apply Array.ext';exact hs
        rw[ko,qL];simp[rM]
       ·cases hl:tW bX J L with
        |none=>rw[hl]at T;cases T
        |some u=>rw[hl]at T;exact bF some T
      ·exfalso;have:=cI haa;unfold nV at dZ;omega
    ·cases U
   ·cases U
  split at hk
  next Z=>have Z:=sX Z;subst Z;exact fin hk
  next Z=>have Z:=sX Z;subst Z;exact fin hk
  ·cases hk
 ·cases h
end
def Wd.pin(d:Wd)(g:Nat)(l:aj Loc)(D:20000<=g):Wd:=⟨d.w,d.L,λr=>if r=g then l else d.F r,d.held,λr C=>by
 show (if r=g then l else d.F r)=none;rw[bE];exact d.low r C⟩
def zW(g:Nat):aa (Bool×aa Lf)->A
 |[(false,[x])]=>.lf (x.drop g)
 |[(true,cs)]=>.agg (cs.map (Lf.drop g))
 |[(false,_)]=>.undef
 |ps=>.cQ (ps.map λp=>(p.1,p.2.map (Lf.drop g)))
def Iy{X:Type}(P:Program)(g:Nat)(D:Array ResultVar)(C:S)(k:S->A->aj X):aj X:=
 rK P C D.toList λps=>match C.m g with
  |some (.gh ys)=>k ⟨λj=>((ys.map (A.drop g))[j]?).getD .undef,(C.drop g).m⟩ (zW g ps)
  |_=>none
def ade(g N:Nat)(σ:S)(xs:aa A):S:=⟨λj=>((xs.map (A.drop g))[j]?).getD .undef,bV (σ.drop g).m g (some (.gh ((List.range N).map λj=>(σ.t j).drop g)))⟩
def Iz:m7:=λ_=>none
def IA{X:Type}(P:Program)(M g:Nat)(Φ:eD)(code:Code)(C:Array ResultVar)(N:Nat)(σ:S)(xs:aa A)(k:S->A->aj X):aj X:=
 bif Nat.ble xs.length M then gA P M Φ Iz code (ade g N σ xs) λe D=>match zS e with
  |some 0=>Iy P g C D k
  |some 1=>Iy P g C D k
  |_=>none
 else none
def adf(P:Program)(M g:Nat)(Φ:eD)(code:Code)(C:Array ResultVar):tX:=⟨λX N σ xs k=>IA P M g Φ code C N σ xs k⟩
section
variable {P:Program} {w w':World} {w0:Wd} {B M N g:Nat} {ah aE:bG} {ρ ρ':Nat->Loc} {σ:S} {a:Act} {X:Type} {d:Nat} {r:X} {o:Oper} {Φ:eD} {Λ:m7}
def IB{D:aj Tmp}{C:Bool}{k:S -> aj X}(h:pV σ D C k=some r):∃ E,k E=some r/\cA (λX k=>pV (X:=X) σ D C k) E:=by
 unfold pV at h;cases C with
 |false=>exact⟨σ,h,λX k=>rfl⟩
 | true=>
  split at h
  ·rename_i d;split at h
   ·rename_i b hb;cases b with
    |true=>exact⟨_,h,λX k=>by simp only[pV,ak,hb]⟩
    |false=>exact⟨_,h,λX k=>by simp only[pV,ak,hb,aq]⟩
   ·rename_i hb;exact⟨σ,h,λX k=>by
     unfold pV;simp⟩
  ·exact⟨σ,h,λX k=>rfl⟩
theorem apC[Inhabited Wd]{ops:Array Oper}{L i:Nat}{k:S -> aj X}(h:zE P N Φ ops L i σ o k=some r):∃ J,k J=some r/\cA (λX k=>zE (X:=X) P N Φ ops L i σ o k) J:=by
 unfold zE at h;split at h
 ·rename_i D;obtain⟨v,C,O,_⟩:=H7 (w0:=default) (N:=N) h;cases E:v.kz _ _ with
  |false=>rw[E]at C;cases C
  | true=>
   rw[E]at C;obtain⟨I,Q⟩:=kB C;exact⟨_,I,λX k=>by
    simp[zE,D];refine(O.at_ _).trans ?_;rw[E];exact(Q σ).at_ _⟩
 next D=>obtain⟨C,I⟩:=kB h;exact⟨_,C,λX k=>by simp[zE,D];exact(I σ).at_ _⟩
 ·cases h
theorem WI[Inhabited Wd](J:fX P Φ){ops:Array Oper}{k:S -> aj X}(h:dn P N Φ ops σ o k=some r):∃ C,k C=some r/\cA (λX k=>dn (X:=X) P N Φ ops σ o k) C:=by
 unfold dn at h;split at h
 next D=>obtain⟨C,E,I⟩:=NY J h;exact⟨C,E,λX k=>by simp[dn,D];exact I X k⟩
 next D=>obtain⟨E,I⟩:=kB h;exact⟨_,E,λX k=>by simp[dn,D];exact(I σ).at_ _⟩
 ·cases h
theorem IC[Inhabited Wd](D:fX P Φ){ops:Array Oper}:∀ (f L:Nat) (σ:S) (k:S -> aj X),kA P N Φ ops f L σ k=some r -> ∃ Z,k Z=some r/\cA (λX k=>kA (X:=X) P N Φ ops f L σ k) Z
 | 0,L,σ,k,h=>by
  unfold kA at h;split at h
  next hr=>exact⟨σ,h,λX k=>by simp[kA,hr]⟩
  ·cases h
 | f+1,L,σ,k,h=>by
  unfold kA at h;split at h
  next hr=>exact⟨σ,h,λX k=>by simp[kA,hr]⟩
  ·rename_i i hr;split at h
   ·rename_i o E;obtain⟨Z,I,J⟩:=WI D h;obtain⟨O,Q,T⟩:=IB I;obtain⟨C,U,Y⟩:=IC D f _ O k Q;exact⟨C,U,λX k=>by
     simp[kA,hr,E];exact(J.at_ _).trans ((T.at_ _).trans (Y.at_ _))⟩
   ·cases h
  ·rename_i rs hn hs;split at h
   ·rename_i i hf;split at h
    ·rename_i o E;obtain⟨Z,I,J⟩:=apC h;obtain⟨O,Q,T⟩:=IB I;obtain⟨C,U,Y⟩:=IC D f _ O k Q
     refine⟨C,U,λX k=>?_⟩
     show kA P N Φ ops (f+1) L σ k=k C;unfold kA;split
     next e=>exact absurd e hn
     next i e=>exact absurd e (hs i)
     ·simp[hf,E];exact(J.at_ _).trans ((T.at_ _).trans (Y.at_ _))
    ·cases h
   ·rename_i hf;split at h
    ·rename_i i WJ;split at h
     ·rename_i o E;obtain⟨Z,I,J⟩:=WI D h;obtain⟨O,Q,T⟩:=IB I;obtain⟨C,U,Y⟩:=IC D f _ O k Q
      refine⟨C,U,λX k=>?_⟩
      show kA P N Φ ops (f+1) L σ k=k C;unfold kA;split
      next e=>exact absurd e hn
      next i e=>exact absurd e (hs i)
      ·simp[hf,WJ,E];exact(J.at_ _).trans ((T.at_ _).trans (Y.at_ _))
     ·cases h
    ·rename_i WJ;split at h
     ·rename_i i hf3;split at h
      ·rename_i o E;obtain⟨Z,I,J⟩:=WI D h;obtain⟨O,Q,T⟩:=IB I;obtain⟨C,U,Y⟩:=IC D f _ O k Q
       refine⟨C,U,λX k=>?_⟩
       show kA P N Φ ops (f+1) L σ k=k C;unfold kA;split
       next e=>exact absurd e hn
       next i e=>exact absurd e (hs i)
       ·simp[hf,WJ,hf3,E];exact(J.at_ _).trans ((T.at_ _).trans (Y.at_ _))
      ·cases h
     ·cases h
def apD{t:TypeId}{x lo hi I:A}{k:aj X}(h:zz P σ t x lo hi I k=some r):k=some r /\ ∀ (D:Type) (E:aj D),zz P σ t x lo hi I E=E:=by
 unfold zz at h;split at h
 ·split at h
  ·rename_i J;split at h
   ·rename_i L;obtain⟨y,C,_,O⟩:=sQ _ _ h;split at C
    ·split at C
     ·rename_i hb
      refine⟨C,λD E=>?_⟩
      simp[zz,J,L];refine(O D _).trans ?_;simp_all
     ·cases C
    ·cases C
   ·cases h
  ·cases h
 ·cases h
theorem apE[Inhabited Wd](U:fX P Φ){k:S->aj X}(h:nU P N Φ σ o k=some r):∃ E,k E=some r/\∀ (D:Type) (C:S->aj D),nU P N Φ σ o C=C E:=by
 have same:∀ σ2:S,(∀ (D:Type) (C:S->aj D),nU P N Φ σ o C=dm P N Φ σ2 o C)->∃ E,k E=some r/\∀ (D:Type) (C:S->aj D),nU P N Φ σ o C=C E:=by
  intro σ2 e;rw[e]at h;obtain⟨E,I,O⟩:=NY U h;exact⟨E,I,λX k=>(e X k).trans (O X k)⟩
 cases J:o.op with
 | store t x y=>
  cases L:o.dst with
  |some d=>exact same σ λD C=>by simp only[nU,J,L]
  | none=>
   have e:∀ (D:Type) (C:S->aj D),nU P N Φ σ o C=(match aI σ y with
    |.view [q] s i j=>zy P σ q s i j t (aI σ x) C
    |_=>dm P N Φ σ o C):=λD C=>by simp only[nU,J,L];rfl
   rw[e]at h;split at h
   next q s i j Q=>obtain⟨E,I,O⟩:=an2 h;exact⟨E,I,λX k=>by rw[e];simp only[Q];exact O.at_ _⟩
   ·rename_i Y;obtain⟨E,I,O⟩:=NY U h
    refine⟨E,I,λX k=>?_⟩
    rw[e];split
    next q s i j Q=>exact(Y _ _ _ _ Q).elim
    ·exact O X k
 | slice t x lo hi Z=>
  cases L:o.dst with
  |none=>exact same σ λD C=>by simp only[nU,J,L]
  | some d=>
   cases Z with
   | some m=>
    cases lo with
    |none=>exact same σ λD C=>by simp only[nU,J,L]
    | some l=>
     cases hi with
     |none=>exact same σ λD C=>by simp only[nU,J,L]
     | some u=>
      have e:∀(D:Type) (C:S->aj D),nU P N Φ σ o C=zz P σ t (aI σ x) (aI σ l) (aI σ u) (aI σ m) (bif Nat.blt d N then C (σ.set d .undef)else none):=λD C=>by simp only[nU,J,L]
      rw[e]at h;obtain⟨I,O⟩:=apD h;cases T:Nat.blt d N with
      |false=>rw[T]at I;cases I
      | true=>
       rw[T,ak]at I;exact⟨_,I,λX k=>by rw[e,O,T,ak]⟩
   |none=>exact same σ λD C=>by simp only[nU,J,L]
 |_=>exact same σ λD C=>by simp only[nU,J]
theorem WK[Inhabited Wd](C:fX P Φ){ops:Array Oper}:∀ (rest:aa Oper) (j:Nat) (σ:S) (k:S -> aj X),vo P N Φ ops j rest σ k=some r -> ∃ D,k D=some r/\cA (λX k=>vo (X:=X) P N Φ ops j rest σ k) D
 |[],j,σ,k,h=>⟨σ,h,λX k=>rfl⟩
 | o :: rest,j,σ,k,h=>by
  unfold vo at h;split at h
  ·rename_i E;obtain⟨D,I,J⟩:=apE C h;obtain⟨T,U,Y⟩:=IB I;obtain⟨L,O,Q⟩:=WK C rest _ T k U;exact⟨L,O,λX k=>by
    simp[vo,E];exact(J _ _).trans ((Y.at_ _).trans (Q.at_ _))⟩
  ·rename_i E;obtain⟨I,J⟩:=kB h;obtain⟨L,O,Q⟩:=WK C rest _ _ k I;exact⟨L,O,λX k=>by
    simp[vo,E];exact((J σ).at_ _).trans (Q.at_ _)⟩
  ·cases h
theorem apF[Inhabited Wd](Y:fX P Φ):∀ (c:Code) (σ:S) (k:Exit->S->aj X),gA P N Φ Iz c σ k=some r->∃ e C,k e C=some r/\∀ (J:Type) (I:Exit->S->aj J),gA P N Φ Iz c σ I=I e C:=by
 intro c
 induction c with
 |skip=>exact λσ k h=>⟨_,_,h,λ_ _=>rfl⟩
 |label l=>exact λσ k h=>⟨_,_,h,λ_ _=>rfl⟩
 |ret=>exact λσ k h=>⟨_,_,h,λ_ _=>rfl⟩
 |exit id=>exact λσ k h=>⟨_,_,h,λ_ _=>rfl⟩
 | region id ops draw=>
  intro σ k h;cases draw with
  | true=>
   simp only[gA]at h;cases hm:P.follows .mixedOrders with
   |false=>rw[hm]at h;cases h
   | true=>
    rw[hm,ak]at h;obtain⟨C,D,E⟩:=IC Y _ _ _ _ h;exact⟨_,C,D,λX k=>by simp only[gA,hm,ak];exact E.at_ _⟩
  | false=>
   simp only[gA]at h;obtain⟨C,D,E⟩:=WK Y _ _ _ _ h;exact⟨_,C,D,λX k=>by simp only[gA];exact E.at_ _⟩
 | seq x y Q T=>
  intro σ k h;simp only[gA]at h;obtain⟨e,C,D,E⟩:=Q σ _ h;cases e with
  | normal=>
   obtain⟨Z,ov,h3,h4⟩:=T C k D;exact⟨Z,ov,h3,λX k=>by simp only[gA];rw[E];exact h4 X k⟩
  |_=>exact⟨_,C,D,λX k=>by simp only[gA];rw[E]⟩
 | cond c x y Q T=>
  intro σ k h;simp only[gA]at h;split at h
  ·rename_i b hb;cases b with
   | true=>
    obtain⟨e,C,D,E⟩:=Q σ k h;exact⟨e,C,D,λX k=>by simp only[gA,hb,ak];exact E X k⟩
   | false=>
    obtain⟨e,C,D,E⟩:=T σ k h;exact⟨e,C,D,λX k=>by simp only[gA,hb,aq];exact E X k⟩
  ·cases h
 | block id c ih=>
  intro σ k h;have L:∀ (J:Type) (I:Exit->S->aj J),gA P N Φ Iz (.block id c) σ I=gA P N Φ Iz c σ λe U=>match e with
   |.exit O=>if O=id then I .normal U else I (.exit O) U
   |e=>I e U:=λJ I=>rfl
  rw[L]at h;obtain⟨e,C,D,E⟩:=ih σ _ h;cases e with
  | exit O=>
   by_cases hi:O=id
   ·simp only[hi,if_true]at D;exact⟨_,C,D,λX k=>by rw[L,E];simp only[hi,if_true]⟩
   ·simp only[hi,if_false]at D;exact⟨_,C,D,λX k=>by rw[L,E];simp only[hi,if_false]⟩
  |_=>exact⟨_,C,D,λX k=>by rw[L,E]⟩
 |_=>intro σ k h;simp[gA]at h
def WL:∀ (l:aa ResultVar) (k:aa (Bool×aa Lf) -> aj X),rK P σ l k=some r -> ∃ ps,k ps=some r/\cA (λX k=>rK (X:=X) P σ l k) ps
 |[],k,h=>⟨[],h,λX k=>rfl⟩
 | .tmp t :: rest,k,h=>by
  simp[rK]at h;split at h
  next p C=>obtain⟨ps,D,E⟩:=WL rest _ h;exact⟨_,D,λX k=>by simp only[rK,C];exact E.at_ _⟩
  ·cases h
 | .cell c ty :: rest,k,h=>by
  obtain⟨y,I,J⟩:=HM h;split at I
  ·rename_i p C;obtain⟨ps,D,E⟩:=WL rest _ I;exact⟨_,D,λX k=>by
    refine(J.at_ _).trans ?_;simp[C];exact E.at_ _⟩
  ·cases I
def apG{C:Array ResultVar}{k:S -> A -> aj X}(h:Iy P g C σ k=some r):∃ ys ps,σ.m g=some (.gh ys)/\rK P σ C.toList some=some ps/\k ⟨λj=>((ys.map (A.drop g))[j]?).getD .undef,(σ.drop g).m⟩ (zW g ps)=some r /\
  ∀(I:Type) (D:S -> A -> aj I),Iy P g C σ D=D ⟨λj=>((ys.map (A.drop g))[j]?).getD .undef,(σ.drop g).m⟩ (zW g ps):=by
 obtain⟨ps,E,J⟩:=WL _ _ h;split at E
 ·rename_i ys L;exact⟨ys,ps,L,J.at_ _,E,λI D=>by
   refine(J.at_ _).trans ?_;simp[L]⟩
 ·cases E
def List.adg(xs:aa A)(g j:Nat):((xs.map (A.drop g))[j]?).getD .undef=A.drop g ((xs[j]?).getD .undef):=by
 rw[dw];cases xs[j]?<;>rfl
def RP.zW{ps:aa (Bool×aa Lf)}{C:aa Value}(I:∀ r,r≠g->ρ' r=ρ r)(hl:C.length=ps.length)(h:∀ (i:Nat) p v,ps[i]?=some p->C[i]?=some v->RP w B ah ρ p v):
  RA w B ah ρ' (zW g ps) (if h:C.toArray.size=1 then C.toArray[0]else .tuple C.toArray):=by
 have cQ:ps.length≠1->RA w B ah ρ' (.cQ (ps.map λp=>(p.1,p.2.map (Lf.drop g)))) (if h:C.toArray.size=1 then C.toArray[0]else .tuple C.toArray):=by
  intro L;rw[dif_neg (by simpa [hl]using L)]
  refine⟨C.toArray,rfl,by simpa using hl,λj p D=>?_⟩
  rw[dw]at D;cases E:ps[j]? with
  |none=>rw[E]at D;cases D
  | some q=>
   rw[E]at D;injection D with D;subst D;have J:j<C.length:=by rw[hl];exact(dQ.1 E).1
   exact⟨C[j],by simp[J],(h j q C[j] E (bO J)).eG I⟩
 unfold Proofs.YtglnbhiaknohlaaGreat.zW;split
 ·rename_i x
  match C,hl,h with
  | [v],_,h=>
   have:=h 0 _ v rfl rfl;obtain⟨u,O,Q⟩:=this.2 0 x rfl;have:v=u:=by simpa using O
   subst this;exact Q.eG I
 ·rename_i cs
  match C,hl,h with
  |[v],_,h=>exact RP.eG I (p:=(true,cs)) (h 0 _ v rfl rfl)
 ·trivial
 ·rename_i Y T U
  refine cQ λe=>?_
  obtain⟨⟨b,cs⟩,rfl⟩:=List.length_eq_one_iff.1 e;cases b with
  |true=>exact T cs rfl
  |false=>exact U cs rfl
def apH{f:Nat}{fn:Func}{code:Code}(hf:P.funcs[f]?=some fn)(hb:fn.body=some code)(hN:fn.ntmps=M)(hM:M <= 20000)(B3:(fn.name == "runtime.NumGoroutine")=false)(hg:20000 <= g/\g<60000)(fO:fX P Φ):
  enters P f/\qI P f (adf P M g Φ code fn.results):=by
 refine⟨⟨fn,hf,B3,by rw[hb];rfl⟩,λX N σ xs k r h=>?_⟩
 have h:IA P M g Φ code fn.results N σ xs k=some r:=h;unfold IA at h;cases hl:Nat.ble xs.length M with
 |false=>rw[hl]at h;cases h
 | true=>
  rw[hl,ak]at h;have Bi:=cI hl;obtain⟨e,τ,U,h2⟩:=apF fO _ _ _ h;have h3:(e = .normal \/ e = .ret)/\Iy P g fn.results τ k=some r:=by
   split at U
   next O=>exact⟨.inl (sX O),U⟩
   next O=>exact⟨.inr (sX O),U⟩
   ·cases U
  obtain⟨hex,h3⟩:=h3;obtain⟨ys,ps,hy,qE,hk,hd⟩:=apG h3
  refine⟨_,_,hk,λX' k'=>?_,λw0 ah ρ a w bX hR gx hv=>?_⟩
  ·show IA P M g Φ code fn.results N σ xs k'=_;unfold IA;rw[hl,ak,h2];rcases hex with rfl | rfl
   ·exact hd X' k'
   ·exact hd X' k'
  ·let us:=a.tmps.toList
   let W:Wd:=w0.pin g (some (.bX us)) hg.1
   let Q:=bV ρ g (.bX us)
   have Y:∀r,r≠g -> Q r=ρ r:=λr hr=>cF _ _ _ hr
   have mR:∀ j,us.getD j undef=a.tmps.getD j undef:=λj=>by
    show a.tmps.toList.getD j undef=_;rw[en,oc,iu]
   have hle:bX.size <= M:=by rw[gx];exact Bi
   have sP:Rl W M ah Q (ade g N σ xs) { tmps:=bX++Array.replicate (fn.ntmps-bX.size) undef,defers:=[] } w:=by
    refine⟨⟨hR.below.os,hR.below.tape,hR.below.output,hR.below.size,hR.below.block⟩,hR.cX,λr x C=>?_,λj=>?_,by simp[hN];omega,rfl,λr l hr=>?_,λr hr=>?_⟩
    ·have C:bV (σ.drop g).m g (some (.gh ((List.range N).map λj=>(σ.t j).drop g))) r=some x:=C;by_cases D:r=g
     ·subst D;rw[cg]at C;injection C with C;subst C
      refine .gh us _ (cg _ _ _) λj x I=>?_
      rw[dw]at I;cases hr:(List.range N)[j]? with
      |none=>rw[hr]at I;cases I
      | some j'=>
       rw[hr]at I;injection I with I;obtain⟨dZ,sC⟩:=dQ.1 hr;rw[jI]at sC;subst sC I;rw[mR];exact(hR.tmp j).eG Y
     ·rw[cF _ _ _ D]at C;have C:(bif Nat.beq r g then none else (σ.m r).map (aZ.drop g))=some x:=C;cases hb:Nat.beq r g with
      |true=>rw[hb]at C;cases C
      | false=>
       rw[hb,aq]at C;cases hm:σ.m r with
       |none=>rw[hm]at C;cases C
       | some y=>
        rw[hm]at C;injection C with C;subst C;exact(hR.root r y hm).eG Y D
    ·show RA w w0.heap.size ah Q (((xs.map (A.drop g))[j]?).getD .undef) _;rw[List.adg];by_cases I:j<bX.size
     ·have e1:(bX++Array.replicate (fn.ntmps-bX.size) undef).getD j undef=bX.getD j undef:=by
       rw[iu,Array.getElem?_append_left I,iu]
      show RA w _ ah Q _ ((bX++Array.replicate _ undef).getD j undef);rw[e1];exact(hv j).eG Y
     ·rw[List.getElem?_eq_none (by omega:xs.length <= j)];trivial
    ·have hr:(if r=g then some (Loc.bX us)else w0.F r)=some l:=hr;by_cases D:r=g
     ·rw[br D]at hr;injection hr with hr;rw[D,<- hr];exact cg _ _ _
     ·rw[bE D]at hr;rw[Y r D];exact hR.fix r l hr
    ·show (if r=g then some (Loc.bX us)else w0.F r)=none;rw[bE];rcases hr with hr | hr
     ·exact w0.low r (by omega)
     ·exact hR.di r (.inr hr)
   refine calls_of_wp hf hb ?_
   refine wp_mono (Eu (w0:=W) fO code _ (λe τ=>some (e,τ)) (h2 _ _) (λp hp b hb=>by cases hb) _ w ⟨ah,Q,sP⟩) λe' J w' O=>?_
   obtain⟨Z,sM,aE,ρ',E⟩:=O;injection sM with sM;injection sM with k1 k2;subst k1 k2;have HF:ρ' g = .bX us:=E.fix g _ (br rfl);let eH:=bV ρ' g ((w0.F g).getD (.aB 0 0))
   have D8:∀r,r≠g -> eH r=ρ' r:=λr hr=>cF _ _ _ hr
   obtain⟨wU,WM,mS⟩:=Hx (w0:=W) (N:=M) _ _ qE;injection WM with WM;subst WM;obtain⟨T,ew,hlen,l9⟩:=mS aE ρ' J w' E;have apI:(fn.results.mapM (rM J.tmps)).run P w' = .ok T.toArray w':=by
    rw[Array.mapM_eq_mapM_toList];simp[ew]
   have ko:results fn J.tmps=(do let T <- fn.results.mapM (rM J.tmps);pure (if h:T.size=1 then T[0]else .tuple T)):=by
    unfold results;congr 1
   have hRf:Rl w0 N aE eH ⟨λj=>((ys.map (A.drop g))[j]?).getD .undef,(Z.drop g).m⟩ a w':=by
    refine⟨⟨E.below.os,E.below.tape,E.below.output,E.below.size,E.below.block⟩,E.cX,λr x C=>?_,λj=>?_,hR.size,hR.defers,λr l hr=>?_,hR.di⟩
    ·have C:(bif Nat.beq r g then none else (Z.m r).map (aZ.drop g))=some x:=C;cases hb:Nat.beq r g with
     |true=>rw[hb]at C;cases C
     | false=>
      have D:r≠g:=by rintro rfl;simp at hb
      rw[hb,aq]at C;cases hm:Z.m r with
      |none=>rw[hm]at C;cases C
      | some y=>
       rw[hm]at C;injection C with C;subst C;exact(E.root r y hm).eG D8 D
    ·show RA w' w0.heap.size aE eH (((ys.map (A.drop g))[j]?).getD .undef) _;rw[List.adg];cases hyj:ys[j]? with
     |none=>trivial
     | some y=>
      have gP:=E.root g _ hy;generalize L:aZ.gh ys=z at gP;cases gP with
      |aB=>cases L
      |sl=>cases L
      |mp=>cases L
      | gh M1 xs' wV hx3=>
       injection L with L;subst L;rw[HF]at wV;injection wV with wV;subst wV;have:=hx3 j y hyj;rw[mR]at this;exact this.eG D8
    ·by_cases D:r=g
     ·subst D;show bV ρ' r ((w0.F r).getD _) r=l;rw[cg,hr];rfl
     ·rw[D8 r D];exact E.fix r l ((bE D).trans hr)
   have fin:J.defers=[] /\ ∃ v,(results fn J.tmps).run P w' = .ok v w' /\ ∃ Ix aE ρ',Ending.returned v=Ending.returned Ix/\Rl w0 N aE ρ' ⟨λj=>((ys.map (A.drop g))[j]?).getD .undef,(Z.drop g).m⟩ a w'/\RA w' w0.heap.size aE ρ' (zW g wU) Ix:=
    ⟨E.defers,_,by rw[ko,fq,apI,kL,Sem.run_pure],_,aE,eH,rfl,hRf,RP.zW D8 hlen l9⟩
   rcases hex with rfl|rfl
   ·exact fin
   ·exact fin
end
end Go.Proofs.YtglnbhiaknohlaaGreat
