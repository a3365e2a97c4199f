/-
  Running the program over pure contents, and that it follows (part 3). Nothing here is a claim.
-/
import Derived.Lib.AppendStr
import Derived.MapKept
import Derived.Test.YtglnbhiaknohlaaGreatV2
set_option linter.unusedSimpArgs false
namespace Go.Proofs.YtglnbhiaknohlaaGreat
set_option linter.defProp false
open Go.RowKit
set_option linter.unusedVariables false
section
variable {P:Program} {w w':World} {w0:Wd} {B N:Nat} {ah dg aE:bG} {ρ eH ρ':Nat->Loc} {σ:S} {a:Act} {X:Type} {d:Nat} {r:X} {ns cn:aa Nat} {o:Oper} {rs:aa Nat} {eC:aa (Nat×Nat)} {nm Nw:Nat->Nat} {c0:Nat}
def am0{C:aj Tmp}{D:gp}{k:S -> aj X}(h:mX N σ C D k=some r):∃ T,k T=some r /\ ∀ ah ρ a w v,Rl w0 N ah ρ σ a w -> rI w w0.heap.size ah (λn=>iE C+n) D v -> ∃ ρ',Rl w0 N ah ρ' T (a.put C v) w /\ ∀ r,r<iE C -> ρ' r=ρ r:=by
 unfold mX at h;cases C with
 |none=>exact⟨σ,h,λah ρ a w v hR _=>⟨ρ,hR,λ_ _=>rfl⟩⟩
 | some d=>
  have h:(bif Nat.blt d N then (match D with
   | .one p=>(match sH (p.1,lK (1000000000100000+1000*d) p.2)with
    |some y=>k ((iU _ σ p.2).set d y)
    |none=>none)
   |.cQ ps=>k ((lM _ σ ps).set d _))else none)=some r:=h
  cases I:Nat.blt d N with
  |false=>rw[I]at h;cases h
  | true=>
   rw[I,ak]at h;have U:d<N:=cI I;cases D with
   | one p=>
    simp only at h;split at h
    ·rename_i y hy
     refine⟨_,h,λah ρ a w v hR J=>?_⟩
     obtain⟨ρ',L,O,_,Q⟩:=Hu [p] (1000000000100000+1000*d) 0 σ ρ [v] (by omega) hR J;have Ux:=Q 0 _ v rfl rfl;exact⟨ρ',L.set (T4 hy Ux) U,O⟩
    ·cases h
   | cQ wU=>
    refine⟨_,h,λah ρ a w v hR J=>?_⟩
    obtain⟨E,rfl,hv⟩:=J;obtain⟨ρ',L,O,hlen,Q⟩:=Hu wU (1000000000100000+1000*d) 0 σ ρ E.toList (by omega) hR hv
    refine⟨ρ',L.set ⟨E,rfl,by simpa using hlen,λj p Y=>?_⟩ U,O⟩
    have Z:j<E.size:=by
     have:=(dQ.1 Y).1
     grind
    exact⟨E[j],Array.getElem?_eq_getElem Z,Q j p _ Y (by rw[oc,Array.getElem?_eq_getElem Z])⟩
def U5{f:Nat}{args:Array Operand}{jy:Array TypeId}{c:nR}{k:S -> aj X}(ho:o.op = .call { callee:=.value (.func f),args,argTypes:=jy })(he:enters P f)(hc:vg P f c)(h:mq N σ o.dst c args.toList k=some r):∃ dV C cn,k dV=some r/\jz σ c.ps args.toList=some C/\(∀ n,cu n cn=true -> n<N \/ 60000 <= n)/\(∀ I∈C,cu I.root cn=false) /\
  ∀a w K Q ah ρ,Rl w0 N ah ρ σ a w -> (∀v w' dg eH vm,Rl w0 N dg vm dV (a.put o.dst v) w' -> rP w w' ah dg ρ eH ((kQ 0 C).map (·.1)) cn -> jl w0 w w' -> (∀r,r<iE o.dst -> vm r=eH r) -> K (a.put o.dst v) w') -> o.wp P a w K Q:=by
 unfold mq at h;split at h
 ·rename_i C tV;generalize abm:kQ 0 C=eC at h;cases mw:(once eC&&Nat.ble C.length 40)with
  |false=>rw[mw]at h;cases h
  | true=>
   rw[mw,ak]at h;rw[aM]at mw;have aBZ:=cI mw.2;have zl:∀ p∈kQ 0 C,eC.lookup p.1=some p.2:=by
    intro p hp;rw[abm]at hp;have:=cE.1 mw.1 p hp;obtain⟨n,J,he⟩:=(Option.any_eq_true _ _).1 this;simp_all
   obtain⟨x,T,hrel,aB0,mV⟩:=Nt (w0:=w0) (N:=N) _ _ C _ tV h;clear h;split at T
   ·rename_i y hy;unfold zo at T;generalize pQ:nT (iE o.dst) (ff c.ro y.1).len C (jb (eO c.ps) y.2)=cn at T;generalize A7:eC.map (·.1)=ns at T mV;cases jc:Bp N C (jb (eO c.ps) y.2) cn with
    |false=>rw[jc]at T;cases T
    | true=>
     rw[jc,ak]at T;simp only[Bp,aM]at jc;obtain⟨⟨⟨ok1,ok2⟩,ok3⟩,ok4⟩:=jc;obtain⟨dV,h3,Ny⟩:=am0 (w0:=w0) T
     refine⟨dV,C,cn,h3,tV,λn J=>?_,λI nS=>by simpa using cE.1 ok2 I nS,λa w K Q ah ρ hR hK=>?_⟩
     ·have:=cE.1 ok3 n (tT.1 J);rw[ei]at this;rcases this with h | h
      ·exact .inl (by have:=cI h;omega)
      ·exact .inr (cI h)
     have Y:Bo ns ah (eN ah eC id):=by rw[<- A7];exact amW (λb k hb=>(hR.cX b k hb).2.2)
     have abn:=Ns _ _ _ tV;let rs:=C.map Mu.root
     have nP:∀ j I,C[j]?=some I -> rs[0+j]?=some I.root:=by
      intro j I hj;rw[fo,dw,hj];rfl
     have hE:=UW (rs:=rs) hR Y C (nQ c.ps x) 0 zl nP abn hrel (by omega);have hA:=mV ah ρ a w (eN ah eC id) (wT w ρ rs) hR Y (nQ c.ps x) 0 (λj z O=>by rw[fo];exact O) (λj I hj=>by
      have h1:=nP j I hj;rw[fo]at h1 ⊢;exact HB h1 (by have:=(dQ.1 hj).1;omega))
     obtain⟨hA1,Uj⟩:=D6.get _ _ hA;let nm:Nat -> Nat:=λn=>if n<(ff c.ro y.1).len then iE o.dst+n else (zn (iE o.dst) (ff c.ro y.1).len C).getD (n-(ff c.ro y.1).len) 0
     have qE:∀ (ps:aa PK) (i:Nat) (x:kP ps),(kr ps i x).length=ps.length:=by
      intro ps
      induction ps with
      |nil=>intro i x;rfl
      | cons p ps ih=>
       intro i x;cases p with
       |v=>exact bF (· + 1) (ih _ _)
       |p=>exact bF (· + 1) (ih _ _)
       |s=>exact bF (· + 1) (ih _ _)
     unfold Oper.wp;rw[Nk w o a f args jy ho he,Oper.upon_enter];have wP:(args.map a.eval)=(args.toList.map a.eval).toArray:=by apply Array.ext';rw[Array.toList_map]
     rw[wP];have Nz:∀ b k,eN ah eC id b=some k -> (∃ E,ah b=some E/\cJ E ns=true)/\k≠[]:=by
      intro b k hb;cases hl:ah b with
      |none=>rw[Y.none b hl]at hb;cases hb
      | some E=>
       refine⟨⟨E,rfl,?_⟩,?_⟩
       ·cases hq:cJ E ns with
        |true=>rfl
        |false=>rw[(Y.rest b E hl).2 hq]at hb;cases hb
       ·simp only[eN,hl]at hb;split at hb
        ·cases hb
        ·cases abo:eC.lookup _ with
         |none=>rw[abo]at hb;cases hb
         |some n=>rw[abo]at hb;injection hb with hb;subst hb;simp
     have hQ:Hd w (eN ah eC id):=w0.on hR.below (λb k hb=>by obtain⟨⟨E,hl,_⟩,_⟩:=Nz b k hb;exact(hR.cX b E hl).1)
     refine(hc x y hy nm w (eN ah eC id) (wT w ρ rs) _ hE (λb k hb=>⟨?_,(Nz b k hb).2⟩) ?_ Uj hQ).mono λe w' rL=>?_
     ·obtain⟨⟨E,hl,_⟩,_⟩:=Nz b k hb;exact(hR.cX b E hl).2.1
     ·rw[List.size_toArray,hA1,qE]
     ·obtain⟨v,D,rfl,U,D9,ko,U6⟩:=rL;have hB:=hR.below.size;let dg:bG:=λb=>match eN ah eC id b with
       |none=>if b<w.heap.size then ah b else D b
       |some _=>D b
      have e1:∀ b k,D b=some k -> dg b=some k:=by
       intro b k hb;show (match eN ah eC id b with|none=>if b<w.heap.size then ah b else D b|some _=>D b)=some k;split
       next Z=>have:=(D9 b k hb).1;have nK:=this.resolve_right (λh=>h Z);rw[bE];exact hb
       ·exact hb
      have e2:∀ b,w.heap.size <= b -> dg b=D b:=by
       intro b hb;show (match eN ah eC id b with|none=>if b<w.heap.size then ah b else D b|some _=>D b)=D b;split
       ·rw[bE]
       ·rfl
      have abp:∀ p∈sO w' ρ (iE o.dst) (ff c.ro y.1).len C (jb (eO c.ps) y.2),(sO w' ρ (iE o.dst) (ff c.ro y.1).len C (jb (eO c.ps) y.2)).lookup p.1=some p.2:=
       abh (by rw[Nv,pQ];exact ok1)
      generalize Bu:sO w' ρ (iE o.dst) (ff c.ro y.1).len C (jb (eO c.ps) y.2)=hd at abp;have am1:hd.map (·.1)=cn:=by rw[<- Bu,Nv,pQ]
      have hv:rP w w' ah dg ρ (abf hd ρ) ns cn:=by
       refine⟨U.size,λb hb hk=>?_,λn J=>?_,λb k hb=>(hR.cX b k hb).2⟩
       ·have Z:eN ah eC id b=none:=by
         cases hl:ah b with
         |none=>exact Y.none b hl
         |some k=>exact(Y.rest b k hl).2 (hk k hl)
        refine⟨U.block b hb Z,?_⟩;show (match eN ah eC id b with|none=>if b<w.heap.size then ah b else D b|some _=>D b)=ah b;rw[Z];exact br hb
       ·show (match hd.lookup n with|some v=>Loc.dI v|none=>ρ n)=ρ n;rw[abg (by rw[am1];exact J)]
      have Bv:∀I∈C,cu I.root cn=false:=λI nS=>by simpa using cE.1 ok2 I nS
      have HH:=U1 (c0:=iE o.dst) (nm:=nm) hR hv e1 e2 hB C (nQ c.ps x) (jb (eO c.ps) y.2) 0 (ff c.ro y.1).len nP abn hrel (by omega) U6 (λk n J=>?_) (λp hp=>?_) Bv ok4
      ·have abq:jl w0 w w':=by
        refine⟨U.os,U.tape,U.output,U.size,λk hk hL=>U.block k (kI hk hB) ?_⟩
        cases hl:ah k with
        |none=>exact Y.none k hl
        |some E=>exact absurd hL ((hR.cX k E hl).1.resolve_left (by omega))
       have oD:Rl w0 N dg (abf hd ρ) (σ.bH ns cn (lN ns cn (iE o.dst) (ff c.ro y.1).len C (jb (eO c.ps) y.2))) a w':=by
        refine hR.jo hv abq (λb k hb=>?_) (λn J=>?_) (λn z O=>?_)
        ·have hb:(match eN ah eC id b with | none=>if b<w.heap.size then ah b else D b | some _=>D b)=some k:=hb;have abr:D b=some k -> (w0.heap.size <= b \/ w0.L b≠none)/\b<w'.heap.size/\k≠[]:=by
          intro h1;obtain⟨g1,g2,g3⟩:=D9 b k h1;refine⟨?_,g2,g3⟩;rcases g1 with g1|g1
          ·exact .inl (Nat.le_trans hB g1)
          ·cases Z:eN ah eC id b with
           |none=>exact absurd Z g1
           | some k2=>
            obtain⟨⟨E,hl,_⟩,_⟩:=Nz b k2 Z;exact(hR.cX b E hl).1
         split at hb
         ·split at hb
          ·have:=hR.cX b k hb;exact⟨this.1,kI this.2.1 U.size,this.2.2⟩
          ·exact abr hb
         ·exact abr hb
        ·have:=cE.1 ok3 n (tT.1 J);rw[ei]at this;refine hR.di n ?_;rcases this with h | h
         ·exact .inl (by have:=cI h;omega)
         ·exact .inr (cI h)
        ·have zh:(n,z)∈lN ns cn (iE o.dst) (ff c.ro y.1).len C (jb (eO c.ps) y.2):=by
          clear HH;generalize lN ns cn (iE o.dst) (ff c.ro y.1).len C (jb (eO c.ps) y.2)=l at O
          induction l with
          |nil=>cases O
          | cons p l ih=>
           rw[List.lookup_cons]at O;cases hb:n==p.1 with
           | true=>
            rw[hb]at O;have e:n=p.1:=by simpa using hb
            injection O with O;rw[e,<- O]
            grind
           | false=>
            rw[hb]at O;exact .tail _ (ih O)
         exact HH (n,z) zh
       have am2:rI w' w0.heap.size dg (λn=>iE o.dst+n) (ff c.ro y.1) v:=?_
       ·obtain⟨vm,HI,wV⟩:=Ny dg _ a w' v oD am2;exact hK v w' dg _ vm HI (by rw[abm,A7];exact hv) abq wV
       have U7:∀(L:Nat),L=(ff c.ro y.1).len -> ∀n,n<L -> nm n=iE o.dst+n:=λL hL n J=>br
       generalize aB1:ff c.ro y.1=res at ko U7;cases res with
       | one p=>
        have ko:jO w' w.heap.size D nm 0 [p] [v]:=ko;exact jO.Bt [p] 0 [v] ko hB e2 e1 (λn _ J=>U7 _ rfl n (by simpa [gp.len]using J))
       | cQ wU=>
        obtain⟨vs,e,l9⟩:=ko;exact⟨vs,e,jO.Bt wU 0 vs.toList l9 hB e2 e1 (λn _ J=>U7 _ rfl n (by simpa [gp.len]using J))⟩
      ·show (if (ff c.ro y.1).len+k<(ff c.ro y.1).len then iE o.dst+((ff c.ro y.1).len+k)else (zn _ (ff c.ro y.1).len C).getD ((ff c.ro y.1).len+k-(ff c.ro y.1).len) 0)=n;rw[bE,show (ff c.ro y.1).len+k-(ff c.ro y.1).len=k by omega,en,J];rfl
      ·rw[Bu]at hp;show (match hd.lookup p.1 with|some v=>Loc.dI v|none=>ρ p.1) = .dI p.2;rw[abp p hp]
   ·cases T
 ·cases h
def am3{f:Nat}{args:Array Operand}{D:Array TypeId}{c:nR}{k:S -> aj X}(E:o.op = .call { callee:=.value (.func f),args,argTypes:=D })(I:enters P f)(J:vg P f c)(h:mq N σ o.dst c args.toList k=some r):∃ C,k C=some r/\l8 P w0 N o σ C:=by
 obtain⟨C,Z,cn,L,_,_,_,O⟩:=U5 E I J h
 refine⟨C,L,λa w K Q hR T=>?_⟩
 obtain⟨ah,ρ,hR⟩:=hR;exact O a w K Q ah ρ hR λv w' dg eH U Y _ _ _=>T _ _ ⟨dg,U,Y⟩
end
def dT:Nat:=89999
def qH(ah:bG)(k:aa Nat):bG:=λb=>match ah b with
 |some q=>bif k.isSuffixOf q then some (q.take (q.length-k.length)++[dT])else bif bL dT q then none else some q
 |none=>none
def NA(σ:S)(c:nR)(args:aa Operand)(q:Nat):Bool:=match jz σ c.ps args with
 |some C=>!cu q ((kQ 0 C).map (·.1))&&C.any λD=>Nat.beq D.root dT
 |none=>false
def Bw{X:Type}(N:Nat)(σ:S)(E:aj Tmp)(c:nR)(args:aa Operand)(k:S->aj X):aj X:=
 match args with
 | .tmp t :: _=>(match σ.t t with
  | .lf (.own [j,i,s,q])=>(match σ.m q with
   | some (.sl (.sl C (o+2) I l))=>if s=aD C then (if hi:i<l.length then (match (enc C o l[i])[j]? with
    | some y=>bif Nat.ble N 20000&&Nat.ble 20000 q&&Nat.blt q 60000&&NA ((σ.bH [q,dT] [dT] [(dT,.sl y)]).set t (.lf (.own [dT]))) c args q then mq N ((σ.bH [q,dT] [dT] [(dT,.sl y)]).set t (.lf (.own [dT]))) E c args λD=>(match D.m dT with
      | some (.sl J)=>(match dec C o (splice (enc C o l[i]) j [J])with
       |some e=>k ((D.drop dT).root q (.sl (.sl C (o+2) I (l.set i e))))
       |none=>none)
      |_=>none)else none
    |none=>none)else none)else none
   |_=>none)
  |_=>none)
 |_=>none
section
variable {P:Program} {w w':World} {w0:Wd} {B N:Nat} {ah dg aE:bG} {ρ eH ρ':Nat->Loc} {σ:S} {a:Act} {X:Type} {d:Nat} {r:X} {o:Oper} {K:aa Nat}
def NB{b:Nat}(h:ah b=none):qH ah K b=none:=by simp[qH,h]
def am4{b:Nat}{p:aa Nat}(h:ah b=some (p++K)):qH ah K b=some (p++[dT]):=by
 have C:K.isSuffixOf _=true:=List.isSuffixOf_iff_suffix.2 ⟨p,rfl⟩;simp[qH,h,C]
def U8{b:Nat}{k:aa Nat}(h:ah b=some k)(C:¬ K <:+ k)(D:bL dT k=false):qH ah K b=some k:=by
 have C:K.isSuffixOf k=false:=by
  grind
 simp[qH,h,C,D]
def RV.cut{k:aa Nat}{x:V}{v:Value}(h:RV w B ah k x v):∀ p,k=p++K\/x.aF=true->RV w B (qH ah K) (p++[dT]) x v:=by
 induction h with
 |int=>exact λ_ _=>.int _ _ _
 |bool=>exact λ_ _=>.bool _ _
 |str=>exact λ_ _=>.str _ _
 |nil=>exact λ_ _=>.nil _
 |cS=>exact λ_ _=>.cS _ _ _
 |cW=>exact λ_ _=>.cW _ _ _ _ _ (by first|assumption|omega)
 |de=>exact λ_ _=>.de _ _ _ _ _ (by first|assumption|omega)
 | aF k t o J l b off cap u D hl hb L O E Q I=>
  exact λp _=>.aF _ _ _ _ _ _ _ _ u D (NB hl) hb L O E (λi h j x C=>(I i h j x C [] (.inr (jM t o l[i] D j x C))).key (jM t o l[i] D j x C))
 | own k t o J l b cap cs u hl T U Y Z E Q I=>
  intro p hp;have hp:k=p++K:=by
   rcases hp with hp|hp
   ·exact hp
   ·simp[V.aF]at hp;omega
  subst hp;exact .own _ _ _ _ _ _ _ cs u (am4 hl) T U Y Z E (λi h j x C=>I i h j x C (j::i::aD t::p) (.inl rfl))
def RV.am5{k:aa Nat}{x:V}{v:Value}(h:RV w B ah k x v)(J:∀ b,ah b≠some [])(hk:((∀ p,¬ K <:+ p++k)/\bL dT k=false) \/ x.aF=true):RV w B (qH ah K) k x v:=by
 induction h with
 |int=>exact .int _ _ _
 |bool=>exact .bool _ _
 |str=>exact .str _ _
 |nil=>exact .nil _
 |cS=>exact .cS _ _ _
 |cW=>exact .cW _ _ _ _ _ (by first|assumption|omega)
 |de=>exact .de _ _ _ _ _ (by first|assumption|omega)
 | aF k t o L l b off cap u I hl hb O Q D T E=>
  exact .aF _ _ _ _ _ _ _ _ u I (NB hl) hb O Q D (λi h j x C=>E i h j x C (.inr (jM t o l[i] I j x C)))
 | own k t o L l b cap cs u hl U Y Z hm D T E=>
  have hk:(∀ p,¬ K <:+ p++k)/\bL dT k=false:=by
   rcases hk with hk|hk
   ·exact hk
   ·simp[V.aF]at hk;omega
  refine .own _ _ _ _ _ _ _ cs u (U8 hl (hk.1 []) hk.2) U Y Z hm D (λi h j x C=>E i h j x C (.inl ⟨λp=>?_,?_⟩))
  ·have:=hk.1 (p++[j,i,aD t]);simp_all
  ·have Ea:k≠[]:=by rintro rfl;exact J b hl
   rw[MZ Ea];simp_all
def Rl.am6{t:Nat}{x:A}(h:Rl w0 N ah ρ σ a w)(D:RA w w0.heap.size ah ρ x (a.tmps.getD t undef)):Rl w0 N ah ρ (σ.set t x) a w:=by
 refine⟨h.below,h.cX,h.root,λk=>?_,h.size,h.defers,h.fix,h.di⟩
 show RA w _ ah ρ (bV σ.t t x k) _;by_cases C:k=t
 ·subst C;rw[cg];exact D
 ·rw[cF _ _ _ C];exact h.tmp k
def Rl.am7{q:Nat}{x:aZ}(h:Rl w0 N ah ρ σ a w)(E:eM w w0.heap.size ah ρ q x):Rl w0 N ah ρ (σ.root q x) a w:=by
 refine⟨h.below,h.cX,λr y C=>?_,h.tmp,h.size,h.defers,h.fix,h.di⟩
 have C:bV σ.m q _ r=some y:=C;by_cases D:r=q
 ·subst D;rw[cg]at C;simp_all
 ·rw[cF _ _ _ D]at C;exact h.root r y C
def jl.am8(h:Rl w0 N ah ρ σ a w):jl w0 w w:=⟨rfl,rfl,rfl,eB _,λ_ _ _=>rfl⟩
def am9{f:Nat}{args:Array Operand}{jy:Array TypeId}{c:nR}{k:S -> aj X}(ho:o.op = .call { callee:=.value (.func f),args,argTypes:=jy })(he:enters P f)(hc:vg P f c)(h:Bw N σ o.dst c args.toList k=some r):∃ dV,k dV=some r/\l8 P w0 N o σ dV:=by
 unfold Bw at h;split at h
 ·rename_i t rest mV;split at h
  ·rename_i j i s q ht;split at h
   ·rename_i E oo qn l hm;split at h
    ·rename_i hs;subst hs;split at h
     ·rename_i hi;split at h
      ·rename_i y hy;generalize ana:((σ.bH [q,dT] [dT] [(dT,.sl y)]).set t (.lf (.own [dT])))=rS at h;cases hb:(Nat.ble N 20000&&Nat.ble 20000 q&&Nat.blt q 60000&&NA rS c args.toList q)with
       |false=>rw[hb]at h;cases h
       | true=>
        rw[hb,ak]at h;simp only[aM]at hb;obtain⟨⟨⟨hN,yX⟩,rG⟩,NC⟩:=hb;have hN:=cI hN;have yX:=cI yX;have rG:q<60000:=cI rG;obtain⟨τ,mus,cn,T,tV,pQ,Bv,Hv⟩:=U5 (w0:=w0) ho he hc h;clear h;unfold NA at NC;rw[tV]at NC;simp only[aM,gy]at NC;obtain⟨G5,hdT⟩:=NC;obtain⟨mu,nS,U9⟩:=List.any_eq_true.1 hdT;have U9:=ck U9;have anb:cu dT cn=false:=by rw[<- U9];exact Bv mu nS
        have anc:cu q cn=false:=by
         cases D:cu q cn with
         |false=>rfl
         |true=>have:=pQ q D;omega
        have Va:q≠dT:=by unfold dT;omega
        split at T
        ·rename_i y' Hg;split at T
         ·rename_i e Vb
          refine⟨_,T,λa w KK Q hR hK=>?_⟩
          obtain⟨ah,ρ,hR⟩:=hR;have eU:=hR.wH;have ane:w0.F dT=none:=hR.di dT (.inr (by decide));have gP:=hR.root q _ hm;generalize D:aZ.sl (.sl E (oo+2) qn l)=x at gP;cases gP with
          |aB=>cases D
          |mp=>cases D
          |gh=>cases D
          | sl v yq dz hr=>
           injection D with D;subst D;cases hr with
           |cS=>simp at hi
           |cW=>simp at hi
           |de=>simp at hi
           |aF _ _ _ _ _ _ _ _ _ ho=>omega
           | own _ _ _ _ _ b cap cs u hl hh hs Y sD hcc rA=>
            have hKv:uU σ.m [j,i,aD E,q] y:=.elem j i [q] E oo qn l y (.root q _ hm) hi hy;obtain⟨U,Na,anf⟩:=hKv.ok hR.root;have wO:=hR.tmp t;rw[ht]at wO;have pI:a.tmps.getD t undef=U:=by
             have Z:=wO.2;rw[Na]at Z;injection Z with Z;exact Z.symm
            have ang:U=u i j:=by
             have h3:cH w ah ρ [j,i,aD E,q]=some (u i j):=by
              rw[MR,A4 j i _ (show cH w ah ρ [q]=some (.slice (some ⟨b,0,none⟩) l.length cap) by simp[cH,dz]) hl];show w.cell? _=_;rw[cell_of_row w b _ cs _ _ hh];simp[*]
             rw[Na]at h3;injection h3
            have fW:mQ U=true:=by rw[<- pI];exact wO.1
            -- the state that the callee's caller sees
            have UJ:∀ k:aa Nat,cJ k [q,dT]=false -> bL q k=false/\bL dT k=false:=by
             intro k T;unfold cJ at T;unfold bL;split at T
             next z L=>rw[L];have:=aba T;simp only[fQ,List.not_mem_nil,not_or]at this;exact⟨by simpa using this.1,by simpa using this.2⟩
             next L=>rw[L];exact⟨rfl,rfl⟩
            have hKq:∀ k:aa Nat,[j,i,aD E,q] <:+ k -> bL q k=true:=by
             rintro k ⟨p,rfl⟩;simp[bL]
            have Hl:rP w w ah (qH ah [j,i,aD E,q]) ρ (bV ρ dT (.dI U)) [q,dT] [dT]:=by
             refine⟨eB _,λI HJ C=>⟨rfl,?_⟩,λn Y=>?_,λI k C=>(hR.cX I k C).2⟩
             ·cases J:ah I with
              |none=>exact NB J
              | some k=>
               obtain⟨g1,g2⟩:=UJ k (C k J);exact U8 J (λnM=>by rw[hKq k nM]at g1;cases g1) g2
             ·refine cF _ _ _ ?_;rintro rfl;simp[cu]at Y
            have sK:∀ I k,qH ah [j,i,aD E,q] I=some k -> (∃ O,ah I=some O)/\k≠[]:=by
             intro I k C;cases J:ah I with
             |none=>rw[NB J]at C;cases C
             | some O=>
              refine⟨⟨O,rfl⟩,?_⟩;unfold qH at C;rw[J]at C;simp only at C;cases h1:List.isSuffixOf [j,i,aD E,q] O with
              | true=>
               rw[h1,ak]at C;injection C with C;rw[<- C];simp
              | false=>
               rw[h1,aq]at C;cases Z:bL dT O with
               |true=>rw[Z,ak]at C;cases C
               | false=>
                rw[Z,aq]at C;injection C with C;rw[<- C];exact(hR.cX I O J).2.2
            have sP:Rl w0 N (qH ah [j,i,aD E,q]) (bV ρ dT (.dI U)) (σ.bH [q,dT] [dT] [(dT,.sl y)]) a w:=by
             refine hR.jo Hl (jl.am8 hR) (λI k C=>?_) (λn Y=>?_) (λn z L=>?_)
             ·obtain⟨⟨O,J⟩,Ea⟩:=sK I k C;have:=hR.cX I O J;exact⟨this.1,this.2.1,Ea⟩
             ·have:n=dT:=by simpa [cu]using Y
              rw[this];exact ane
             ·have Y:n=dT/\z = .sl y:=by
               rw[List.lookup_cons]at L;cases Eb:(n==dT)with
               |false=>rw[Eb]at L;cases L
               | true=>
                rw[Eb]at L;injection L with L;exact⟨by simpa using Eb,L.symm⟩
              obtain⟨rfl,rfl⟩:=Y;exact .sl U y (cg _ _ _) (anf.cut [] (.inl rfl))
            have oD:Rl w0 N (qH ah [j,i,aD E,q]) (bV ρ dT (.dI U)) rS a w:=by
             rw[<- ana];refine sP.am6 ?_;rw[pI];exact⟨fW,by simp only[cH,cg]⟩
            refine Hv a w KK Q _ _ oD λvv w' dg eH vm HI wM sL wV=>?_
            -- behind the call
            have tS:90000 <= iE o.dst:=by unfold iE;split<;>omega
            have anh:vm dT = .dI U:=by
             rw[wV dT (by unfold dT;omega),wM.eG dT anb,cg]
            have ani:vm q = .dI (.slice (some ⟨b,0,none⟩) l.length cap):=by
             rw[wV q (by omega),wM.eG q anc,cF _ _ _ Va,dz]
            have gP:=HI.root dT _ Hg;generalize D:aZ.sl y'=x at gP;cases gP with
            |aB=>cases D
            |mp=>cases D
            |gh=>cases D
            | sl v' y'' jN hU=>
             injection D with D;subst D;rw[anh]at jN;injection jN with jN;subst jN;have Vc:=HI.wH;have hrel:Rel dT dg (dg.ia dT [j,i,aD E,q]):=G2 Vc;have abt:bL dT [q]=false:=by simpa [bL]using λe=>Va e
             have D9:qH ah [j,i,aD E,q] b=some [q]:=U8 hl (λnM=>by have:=nM.length_le;simp at this) abt;have anj:cJ [q] ((kQ 0 mus).map (·.1))=false:=G5;obtain⟨g1,g2⟩:=wM.same b (wM.ah b _ D9).1 (λk C=>by rw[D9]at C;injection C with C;subst C;exact anj);have ank:dg b=some [q]:=g2.trans D9;have anl:dg.ia dT [j,i,aD E,q] b=some [q]:=hrel.gk b _ ank abt;have hR4:=HI.rel hrel (λI k C=>by
              unfold bG.ia at C;cases J:dg I with
              |none=>rw[J]at C;cases C
              | some O=>
               rw[J]at C;injection C with C;subst C;exact⟨⟨O,rfl⟩,aaB (by simp) (λe=>Vc I (by rw[J,e]))⟩)
             refine hK _ _ ⟨_,vm,hR4.am7 (.sl _ _ ani ?_)⟩;have hj:j<aD E:=by
              have:=(dQ.1 hy).1
              rwa [jZ]at this
             refine RV.MT (w':=w') (cs:=cs) (xs:=[y']) (u:=u) (us:=u) anl (g1.trans hh) hs Y sD hi (show j+1 <= aD E from hj) Vb (λi' HK j' x D hij=>⟨hcc i' HK j' x D,?_⟩) (λn x D=>?_)
             ·have Vd:=rA i' HK j' x D;have anm:¬ (i'=i/\j'=j):=λe=>hij ⟨e.1,by simp;omega⟩
              have abu:bL dT [j',i',aD E,q]=false:=by simpa [bL]using λe=>Va e
              have a1:=Vd.am5 (K:=[j,i,aD E,q]) eU (.inl ⟨λp nM=>?_,abu⟩)
              ·have a2:=a1.jo wM (.inl (by simpa [cJ]using G5));exact a2.rel hrel (.inl abu)
              ·have e1:[j,i,aD E,q]=[j',i',aD E,q]:=TW nM ⟨p,rfl⟩ rfl;injection e1 with e1 e2;injection e2 with e2 e3;exact anm ⟨e2.symm,e1.symm⟩
             ·cases n with
              | zero=>
               simp only[List.getElem?_cons_zero,iy]at D;subst D;refine⟨hcc i hi j y hy,?_⟩;have:=hU.ia (q:=dT) (nk:=[j,i,aD E,q]) Vc;rw[aaA,ang]at this;exact this
              |succ n=>simp at D
         ·cases T
        ·cases T
      ·cases h
     ·cases h
    ·cases h
   ·cases h
  ·cases h
 ·cases h
def ann{E:aj Tmp}{c:nR}{args:aa Operand}{k:S -> aj X}(I:∀ {X:Type} {σ:S} {k:S -> aj X} {r:X},mq N σ E c args k=some r -> ∃ C,k C=some r /\ ∀ (X:Type) (k:S -> aj X),mq N σ E c args k=k C)(h:Bw N σ E c args k=some r):
  ∃C,k C=some r /\ ∀(X:Type) (k:S -> aj X),Bw N σ E c args k=k C:=by
 unfold Bw at h;split at h
 ·rename_i t rest;split at h
  ·rename_i j i s q J;split at h
   ·rename_i Z oo qn l L;split at h
    ·rename_i O;split at h
     ·rename_i hi;split at h
      ·rename_i y Q;generalize hb:(Nat.ble N 20000&&Nat.ble 20000 q&&Nat.blt q 60000&&NA ((σ.bH [q,dT] [dT] [(dT,.sl y)]).set t (.lf (.own [dT]))) c (.tmp t :: rest) q)=b at h;cases b with
       |false=>cases h
       | true=>
        rw[ak]at h;obtain⟨C,D,T⟩:=I h;split at D
        ·rename_i y' U;split at D
         ·rename_i e Y;exact⟨_,D,λX k=>by
           simp[Bw,J,L,O,if_true,hi,az,Q];rw[hb,ak,T];simp[U,Y]⟩
         ·cases D
        ·cases D
      ·cases h
     ·cases h
    ·cases h
   ·cases h
  ·cases h
 ·cases h
end
def cA{α:Type}(f:(X:Type)->(α->aj X)->aj X)(y:α):Prop:=∀(X:Type) (k:α->aj X),f X k=k y
section
variable {P:Program} {N:Nat} {σ:S} {X:Type} {r:X} {d:Nat} {m:Nat->aj aZ} {o:Oper}
def sQ:∀ (q:aa Nat) (k:V->aj X),gn m q k=some r->∃ y,k y=some r/\uU m q y/\cA (λX k=>gn (X:=X) m q k) y
 |[],_,h=>by simp[gn]at h
 | [x],k,h=>by
  simp only[gn]at h;split at h
  next y D=>exact⟨y,h,.root x y D,λX k=>by simp only[gn,D]⟩
  ·cases h
 |[_,_],_,h=>by simp[gn]at h
 | j :: i :: s :: q,k,h=>by
  simp only[gn]at h;obtain⟨y,C,I,J⟩:=sQ q _ h;clear h;split at C
  ·split at C
   ·rename_i L;subst L;split at C
    ·rename_i hi;split at C
     ·rename_i z E;exact⟨z,C,.elem j i q _ _ _ _ z I hi E,λX k=>by
       simp only[gn];exact(J X _).trans (by simp only[if_true,az hi,E])⟩
     ·cases C
    ·cases C
   ·cases C
  ·cases C
def Ec{x:Lf}{k:V->aj X}(h:iS σ x k=some r):∃ y,k y=some r/\cA (λX k=>iS (X:=X) σ x k) y:=by
 cases x with
 |v z=>exact⟨z,h,λX k=>rfl⟩
 |own q=>obtain⟨y,C,_,D⟩:=sQ q k h;exact⟨y,C,D⟩
 |dead=>cases h
def abv{q:aa Nat}{s i j:Nat}{k:V -> aj X}(h:tN σ q s i j k=some r):∃ y,k y=some r/\cA (λX k=>tN (X:=X) σ q s i j k) y:=by
 obtain⟨y,C,_,D⟩:=sQ q _ h;split at C
 ·rename_i z E;exact⟨z,C,λX k=>by
   exact(D X _).trans (by simp[E])⟩
 ·cases C
def Ve{x:A}{k:V->aj X}(h:qx σ x k=some r):∃ y,k y=some r/\cA (λX k=>qx (X:=X) σ x k) y:=by
 unfold qx at h;split at h
 ·exact Ec h
 ·exact abv h
 ·cases h
def Vf{x:A}{k:V->aj X}(h:vK x k=some r):∃ y,k y=some r/\cA (λX k=>vK (X:=X) x k) y:=by
 obtain⟨y,rfl,h⟩:=MU h;exact⟨y,h,λX k=>rfl⟩
def ano{ty:TypeId}{op:BinOp}{x y:V}{k:V -> aj X}(h:nN P ty op x y k=some r):∃ z,k z=some r/\cA (λX k=>nN (X:=X) P ty op x y k) z:=by
 unfold nN at h;split at h
 ·rename_i L a O b;split at h
  ·split at h
   ·cases h
   next hb=>exact⟨_,h,λX k=>by simp[nN,bE hb]⟩
  ·split at h
   ·cases h
   next hb=>exact⟨_,h,λX k=>by simp[nN,bE hb]⟩
  ·rename_i E I;split at h
   ·rename_i J;subst J;cases op
    case shl=>exact absurd rfl E
    case shr=>exact absurd rfl I
    case quo=>
     by_cases hb:b=0
     ·simp only[hb]at h;cases h
     ·simp[hb]at h;exact⟨_,h,λX k=>by simp[nN,if_true,bE hb]⟩
    case rem=>
     by_cases hb:b=0
     ·simp only[hb]at h;cases h
     ·simp[hb]at h;exact⟨_,h,λX k=>by simp[nN,if_true,bE hb]⟩
    all_goals first
     |(refine⟨_,h,λX k=>?_⟩;simp[nN,if_true];done)
     |cases h
   ·cases h
 ·split at h
  ·rename_i D;split at h
   ·exact⟨_,h,λX k=>by simp[nN,D]⟩
   ·exact⟨_,h,λX k=>by simp[nN,D]⟩
   ·cases h
  ·cases h
 ·rename_i a b;split at h
  ·cases C:bD (a.size+b.size)with
   |false=>rw[C]at h;cases h
   |true=>rw[C]at h;exact⟨_,h,λX k=>by simp[nN,C,ak]⟩
  ·exact⟨_,h,λX k=>by simp only[nN]⟩
  ·exact⟨_,h,λX k=>by simp only[nN]⟩
  ·cases h
 ·cases h
def anp{op:BinOp}{t:TypeId}{x y:A}{k:A -> aj X}(h:mT P σ op t x y k=some r):∃ z,k z=some r/\cA (λX k=>mT (X:=X) P σ op t x y k) z:=by
 unfold mT at h;split at h
 ·rename_i E cs L C;split at h
  ·rename_i xs ys T U;generalize Y:(P.eqGuardType P.depth t || !isStr P t)=g at h;cases g with
   |true=>cases h
   | false=>
    rw[aq]at h;split at h
    next b hb=>exact⟨_,h,λX k=>by simp[mT,C,T,U,Y,aq,hb]⟩
    ·cases h
  ·cases h
 ·rename_i E l C;split at h
  ·rename_i e I;obtain⟨z,D,J⟩:=Ec h;clear h;split at D
   ·exact⟨_,D,λX k=>by
     simp[mT,C,I];exact J X _⟩
   ·exact⟨_,D,λX k=>by
     simp[mT,C,I];exact J X _⟩
   ·rename_i t' o' Z;cases hl:jn Z with
    |true=>rw[hl]at D;cases D
    | false=>
     rw[hl,aq]at D;exact⟨_,D,λX k=>by
      simp[mT,C,I];exact(J X _).trans (by simp[hl,aq])⟩
   ·cases D
  ·cases h
 ·rename_i O Q _ _ _ h1 h2';obtain⟨u0,k1,ND⟩:=Vf h;obtain⟨v0,k2,hd2⟩:=Vf k1;obtain⟨z,k3,HL⟩:=ano k2
  refine⟨_,k3,λX k=>?_⟩
  have e1:mT P σ op t O Q k=vK O λa=>vK Q λb=>nN P t op a b λz=>k (.lf (.v z)):=by
   unfold mT;split
   next E cs L C=>exact(h1 E cs L C rfl rfl).elim
   next E l C=>exact(h2' E l C rfl rfl).elim
   ·rfl
  exact e1.trans ((ND _ _).trans ((hd2 _ _).trans (HL _ _)))
def anq{op:UnOp}{x:V}{k:V->aj X}(h:DO op x k=some r):∃ z,k z=some r/\cA (λX k=>DO (X:=X) op x k) z:=by
 unfold DO at h;split at h
 ·exact⟨_,h,λX k=>rfl⟩
 ·exact⟨_,h,λX k=>rfl⟩
 ·cases h
def wW{t:TypeId}{cs:aa Lf}{k:A -> aj X}(h:lH P t cs k=some r):∃ y,k y=some r/\cA (λX k=>lH (X:=X) P t cs k) y:=by
 unfold lH at h;split at h
 ·rename_i n D;split at h
  ·rename_i hl;split at h
   next C=>exact⟨_,h,λX k=>by simp[lH,D,br hl,C]⟩
   ·rename_i C;split at h
    ·exact⟨_,h,λX k=>by simp only[lH,D,br hl,C]⟩
    ·cases h
   ·cases h
  ·cases h
 ·cases h
def HM{t:TypeId}{x:A}{k:A -> aj X}(h:jw P σ t x k=some r):∃ y,k y=some r/\cA (λX k=>jw (X:=X) P σ t x k) y:=by
 unfold jw at h;split at h
 ·cases h
 ·rename_i n D;split at h
  ·split at h
   next cs I=>obtain⟨y,E,C⟩:=wW h;exact⟨y,E,λX k=>by simp[jw,D,I];exact C X k⟩
   ·cases h
  ·obtain⟨y,E,C⟩:=wW h;exact⟨y,E,λX k=>by simp only[jw,D];exact C X k⟩
  ·rename_i j i s q;obtain⟨z,C,_,J⟩:=sQ _ _ h;clear h;split at C
   ·split at C
    ·rename_i L;split at C
     ·rename_i hi;obtain⟨y,O,Q⟩:=wW C;exact⟨y,O,λX k=>by
       simp[jw,D];exact(J X _).trans (by simp[br L,az hi];exact Q X k)⟩
     ·cases C
    ·cases C
   ·cases C
  ·cases h
def anr{s:TypeId}{x:A}{f:Nat}{k:A -> aj X}(h:uZ P s x f k=some r):∃ y,k y=some r/\cA (λX k=>uZ (X:=X) P s x f k) y:=by
 unfold uZ at h;split at h
 ·cases h
 ·rename_i E C;split at h
  ·rename_i n D;split at h
   ·exact⟨_,h,λX k=>by simp[uZ,C,D]⟩
   ·exact⟨_,h,λX k=>by simp[uZ,C,D]⟩
   ·exact⟨_,h,λX k=>by simp[uZ,C,D]⟩
   ·cases h
  ·cases h
def ans{t:TypeId}{x i:A}{k:A -> aj X}(h:pK P σ t x i k=some r):∃ y,k y=some r/\cA (λX k=>pK (X:=X) P σ t x i k) y:=by
 unfold pK at h;split at h
 ·cases h
 ·rename_i e I;split at h
  ·rename_i n U iv J;split at h
   ·rename_i Q g T l;split at h
    ·rename_i D;cases L:Nat.blt g 2 with
     |false=>rw[L]at h;cases h
     | true=>
      rw[L,ak]at h;split at h
      next hb=>exact⟨_,h,λX k=>by simp[pK,I,J,br D,L,ak,az hb]⟩
      ·cases h
    ·cases h
   ·rename_i q;obtain⟨z,C,_,O⟩:=sQ _ _ h;clear h;split at C
    ·split at C
     ·rename_i D;split at C
      ·rename_i hb;rename_i Q g T l _;cases E:Nat.blt g 2 with
       | true=>
        rw[E,ak]at C;exact⟨_,C,λX k=>by
         simp[pK,I,J];exact(O X _).trans (by simp[br D,az hb,E,ak])⟩
       | false=>
        rw[E,aq]at C;exact⟨_,C,λX k=>by
         simp[pK,I,J];exact(O X _).trans (by simp[br D,az hb,E,aq])⟩
      ·cases C
     ·cases C
    ·cases C
   ·cases h
  ·cases h
def ant{t:TypeId}{x:A}{k:A -> aj X}(h:rD P σ t x k=some r):∃ y,k y=some r/\cA (λX k=>rD (X:=X) P σ t x k) y:=by
 unfold rD at h;split at h
 ·obtain⟨z,C,E⟩:=Ec h;split at C
  ·split at C
   next D=>exact⟨_,C,λX k=>by simp;exact(E X _).trans (by simp[D])⟩
   ·cases C
  ·split at C
   next D=>exact⟨_,C,λX k=>by simp;exact(E X _).trans (by simp[D])⟩
   ·cases C
  ·split at C
   next D=>exact⟨_,C,λX k=>by simp;exact(E X _).trans (by simp[D])⟩
   ·cases C
  ·cases C
 ·split at h
  next D=>exact⟨_,h,λX k=>by simp[rD,D]⟩
  ·cases h
 ·cases h
def anu{x:A}{i:Nat}{k:A -> aj X}(h:wF x i k=some r):∃ y,k y=some r/\cA (λX k=>wF (X:=X) x i k) y:=by
 unfold wF at h;split at h
 ·split at h
  next y C=>exact⟨y,h,λX k=>by simp[wF,C]⟩
  ·cases h
 ·cases h
def anv{t:TypeId}{parts:aa (Nat×Operand)}{k:A -> aj X}(h:vc P σ t parts k=some r):∃ y,k y=some r/\cA (λX k=>vc (X:=X) P σ t parts k) y:=by
 unfold vc at h;split at h
 ·rename_i z pl C D;split at h
  next cs E=>exact⟨_,h,λX k=>by simp[vc,C,D,E]⟩
  ·cases h
 ·cases h
def anw{s:TypeId}{x:A}{f:Nat}{k:A -> aj X}(h:yZ P s x f k=some r):∃ y,k y=some r/\cA (λX k=>yZ (X:=X) P s x f k) y:=by
 unfold yZ at h;split at h
 ·rename_i L cs E;split at h
  ·rename_i n C D;split at h
   next I=>exact⟨_,h,λX k=>by simp[yZ,E,C,D,br I]⟩
   ·cases h
  ·rename_i n C D;split at h
   next y J=>exact⟨_,h,λX k=>by simp[yZ,E,C,D,J]⟩
   ·cases h
  ·cases h
 ·cases h
def abw{C:Bool}{x y:A}{k:A->aj X}(h:Bj C x y k=some r):∃ z,k z=some r/\cA (λX k=>Bj (X:=X) C x y k) z:=by
 unfold Bj at h;split at h
 ·exact⟨_,h,λX k=>rfl⟩
 ·cases h
def anx{t:TypeId}{x i:A}{k:A -> aj X}(h:Bk P t x i k=some r):∃ z,k z=some r/\cA (λX k=>Bk (X:=X) P t x i k) z:=by
 unfold Bk at h;split at h
 ·split at h
  ·rename_i C;split at h
   next hb=>exact⟨_,h,λX k=>by simp[Bk,C,az hb]⟩
   ·cases h
  ·cases h
 ·cases h
def anz{D E:TypeId}{z:V}{k:A -> aj X}(h:wL P D E z k=some r):∃ y,k y=some r/\cA (λX k=>wL (X:=X) P D E z k) y:=by
 unfold wL at h;split at h
 ·cases C:zb P D E with
  |false=>simp_all
  |true=>rw[C]at h;exact⟨_,h,λX k=>by simp[wL,C,ak]⟩
 ·cases C:zb P D E with
  |false=>simp_all
  |true=>rw[C]at h;exact⟨_,h,λX k=>by simp[wL,C,ak]⟩
 ·cases h
def anA{C D:TypeId}{x:A}{k:A -> aj X}(h:ox P σ C D x k=some r):∃ z,k z=some r/\cA (λX k=>ox (X:=X) P σ C D x k) z:=by
 unfold ox at h;split at h
 ·split at h
  next T U I E=>exact⟨_,h,λX k=>by simp[ox,I,E]⟩
  ·cases h
 ·rename_i y Y;obtain⟨z,E,J⟩:=Ec h;obtain⟨L,O,Q⟩:=anz E
  refine⟨_,O,λX k=>?_⟩
  have:ox P σ C D (.lf y) k=iS σ y λz=>wL P C D z k:=by
   unfold ox;simp_all
  show ox P σ C D (.lf y) k=k L;rw[this];exact(J X _).trans (Q X k)
 ·cases h
def cA.at_{α:Type}{f:(X:Type)->(α->aj X)->aj X}{y:α}(h:cA f y){X:Type}(k:α->aj X):f X k=k y:=h X k
def wX{x:aZ}{y:A}{k:S -> aj X}(h:iC N σ d x y k=some r):k (((σ.drop d).root d x).set d y)=some r/\cA (λX k=>iC (X:=X) N σ d x y k) (((σ.drop d).root d x).set d y):=by
 unfold iC at h;cases C:Nat.blt d N with
 |false=>simp_all
 |true=>rw[C]at h;exact⟨h,λX k=>by simp[iC,C,ak]⟩
def abx{e:TypeId}{k:S -> aj X}(h:sI P N σ d e k=some r):∃ x y,k (((σ.drop d).root d x).set d y)=some r/\y = .aG d 0/\(∀ (C:S),cA (λX k=>sI (X:=X) P N C d e k) (((C.drop d).root d x).set d y)):=by
 unfold sI at h;split at h
 ·rename_i z D;obtain⟨E,_⟩:=wX h
  refine⟨_,_,E,rfl,λC X k=>?_⟩
  obtain⟨I,_⟩:=pL h;have hb:Nat.blt d N=true:=iP I;simp[sI,D,iC,hb,ak]
 ·cases h
def Vg{t:TypeId}{l c:A}{k:S -> aj X}(h:Bc P N σ d t l c k=some r):∃ y,k (((σ.drop d).root d (.sl y)).set d (.lf (.own [d])))=some r/\(∀ (C:S),cA (λX k=>Bc (X:=X) P N C d t l c k) (((C.drop d).root d (.sl y)).set d (.lf (.own [d])))):=by
 unfold Bc at h;split at h
 ·rename_i e O Q n T c D;split at h
  ·cases h
  ·rename_i z E;split at h
   ·rename_i hb;obtain⟨I,_⟩:=wX h
    refine⟨_,I,λC X k=>?_⟩
    obtain⟨J,_⟩:=pL h;have L:Nat.blt d N=true:=iP J;simp[Bc,D,E,br hb,iC,L,ak]
   ·cases h
 ·cases h
def Vh{t:TypeId}{len:Nat}{parts:aa (Nat×Operand)}{k:S -> aj X}(h:Bh P N σ d t len parts k=some r):∃ y,k (((σ.drop d).root d (.sl y)).set d (.lf (.own [d])))=some r /\
  (∀(C:S),(∀p∈parts,aI C p.2=aI σ p.2) -> cA (λX k=>Bh (X:=X) P N C d t len parts k) (((C.drop d).root d (.sl y)).set d (.lf (.own [d])))):=by
 unfold Bh at h;split at h
 ·rename_i e D I;split at h
  ·rename_i z J;cases E:(Nat.beq (full D) 0&&Nat.beq z.cells.size (aD D)&&Nat.blt (len*aD D) 16777217)with
   |false=>simp_all
   | true=>
    rw[E,ak]at h;split at h
    ·rename_i cs L;split at h
     ·rename_i vs O;split at h
      ·rename_i l hl;obtain⟨Q,_⟩:=wX h
       refine⟨_,Q,λC T X k=>?_⟩
       obtain⟨U,_⟩:=pL h;have Y:Nat.blt d N=true:=iP U;have e:(parts.map λp=>(p.1,aI C p.2))=parts.map λp=>(p.1,aI σ p.2):=lX λp Z=>by rw[T p Z]
       simp[Bh,I,J,E,ak,e,L,O,hl,iC,Y]
      ·cases h
     ·cases h
    ·cases h
  ·cases h
 ·cases h
def aby{t:TypeId}{q:aa Nat}{C:aj Nat}{lo hi:aj A}{k:A -> aj X}(h:oy P σ t q C lo hi k=some r):∃ y,k y=some r/\cA (λX k=>oy (X:=X) P σ t q C lo hi k) y:=by
 unfold oy at h;split at h
 ·rename_i e D;split at h
  ·rename_i n E;obtain⟨y,I,_,J⟩:=sQ q _ h;obtain⟨Q,g,T,xs,l,m,rfl,U,Y,Z,b1,b2,b3,L,O⟩:=aaY I
   refine⟨_,L,λX k=>?_⟩
   simp[oy,D,E];exact(J X _).trans (O X k)
  ·cases h
 ·cases h
def anB{t:TypeId}{x:A}{lo hi:aj A}{k:A -> aj X}(h:rH P σ t x lo hi k=some r):∃ y,k y=some r/\cA (λX k=>rH (X:=X) P σ t x lo hi k) y:=by
 unfold rH at h;split at h
 ·exact aby h
 ·exact aby h
 ·rename_i D;obtain⟨y,C,E,_⟩:=aaX h
  refine⟨y,C,λX k=>?_⟩
  simp[rH];simp_all
def anC{t:TypeId}{x y:A}{k:S -> aj X}(h:qB P N σ d t x y k=some r):∃ I,k I=some r/\cA (λX k=>qB (X:=X) P N σ d t x y k) I:=by
 unfold qB at h;split at h
 ·rename_i e J L;cases E:(Nat.beq (full J) 0&&(zeroOf P e).any (λz=>Nat.beq z.cells.size (aD J)))with
  |false=>rw[E]at h;cases h
  | true=>
   rw[E,ak]at h;obtain⟨yv,C,O⟩:=Ve h;clear h;split at C
   ·cases C
   ·rename_i l2 Q;split at C
    ·cases D:bD l2.length with
     |false=>rw[D]at C;cases C
     | true=>
      rw[D,ak]at C;obtain⟨T,U⟩:=wX C;exact⟨_,T,λX k=>by
       simp[qB,L,E];exact(O.at_ _).trans (by simp[Q,D];exact U X k)⟩
    ·rename_i rr;split at C
     ·rename_i t' o q l Y;split at C
      ·rename_i Z;cases D:(Nat.blt d N&&(Nat.blt rr N || Nat.ble 60000 rr)&&bD (l.length+l2.length))with
       |false=>rw[D]at C;cases C
       | true=>
        rw[D,ak]at C;exact⟨_,C,λX k=>by
         simp[qB,L,E];exact(O.at_ _).trans (by simp[Q,Y,az Z,D,ak])⟩
      ·cases C
     ·cases C
    ·cases C
 ·cases h
def abz:∀ (q:aa Nat) (y:V) (k:(Nat->aj aZ)->aj X),pJ m q y k=some r->∃ m',k m'=some r/\cA (λX k=>pJ (X:=X) m q y k) m'
 |[],_,_,h=>by simp[pJ]at h
 | [x],y,k,h=>by
  simp only[pJ]at h;split at h
  next T D=>exact⟨_,h,λX k=>by simp only[pJ,D]⟩
  ·cases h
 |[_,_],_,_,h=>by simp[pJ]at h
 | j :: i :: s :: q,y,k,h=>by
  simp only[pJ]at h;obtain⟨z,C,_,E⟩:=sQ q _ h;clear h;split at C
  ·split at C
   ·rename_i I;split at C
    ·rename_i hi;split at C
     ·rename_i J;split at C
      ·rename_i e L;obtain⟨m',O,Q⟩:=abz q _ k C;exact⟨m',O,λX k=>by
        simp only[pJ];exact(E.at_ _).trans (by simp only[br I,az hi,br J,L];exact Q X k)⟩
      ·cases C
     ·cases C
    ·cases C
   ·cases C
  ·cases C
def abA{t:TypeId}{x y:A}{k:S -> aj X}(h:nO P σ t x y k=some r):∃ E,k E=some r/\cA (λX k=>nO (X:=X) P σ t x y k) E:=by
 unfold nO at h;split at h
 ·rename_i n xs I J;split at h
  ·rename_i hlen;split at h
   ·rename_i r' j;split at h
    ·rename_i cs L;split at h
     ·rename_i D;cases hl:xs.all Lf.live with
      |false=>rw[hl]at h;cases h
      |true=>rw[hl]at h;exact⟨_,h,λX k=>by simp[nO,I,J,br hlen,L,br D,hl,ak]⟩
     ·cases h
    ·cases h
   ·rename_i j i s q;split at h
    ·cases h
    ·rename_i O Q;obtain⟨y0,C,hg0,T⟩:=sQ _ _ h;clear h;split at C
     ·rename_i U Y qn l;split at C
      ·rename_i Z;split at C
       ·rename_i hi;split at C
        ·rename_i D;cases hold:(((enc U Y l[i]).drop j).take O.length).all V.plain with
         |false=>rw[hold]at C;cases C
         | true=>
          rw[hold,ak]at C;split at C
          ·rename_i e he;obtain⟨m',h3,h4⟩:=abz q _ _ C;exact⟨_,h3,λX k=>by
            simp[nO,I,J,br hlen,Q];exact(T.at_ _).trans (by simp[br Z,az hi,br D,hold,he];exact h4.at_ _)⟩
          ·cases C
        ·cases C
       ·cases C
      ·cases C
     ·cases C
   ·cases h
  ·cases h
 ·cases h
def HN:∀ (xs:aa Lf) (k:aa V -> aj X),qC σ xs k=some r -> ∃ C,k C=some r/\cA (λX k=>qC (X:=X) σ xs k) C
 |[],k,h=>⟨[],h,λX k=>rfl⟩
 | x :: xs,k,h=>by
  obtain⟨y,D,E⟩:=Ec h;obtain⟨ys,I,J⟩:=HN xs _ D;exact⟨_,I,λX k=>by
   exact(E.at_ _).trans (J.at_ _)⟩
def abC{x:A}{k:Pt -> aj X}(h:oz σ x k=some r):∃ p,k p=some r/\cA (λX k=>oz (X:=X) σ x k) p:=by
 unfold oz at h;split at h
 ·obtain⟨E,C,D⟩:=HN _ _ h;exact⟨_,C,λX k=>by simp[oz];exact D.at_ _⟩
 ·obtain⟨E,C,D⟩:=HN _ _ h;exact⟨_,C,λX k=>by simp;exact D.at_ _⟩
 ·obtain⟨y,C,D⟩:=abv h;exact⟨_,C,λX k=>by simp;exact D.at_ _⟩
 ·exact⟨_,h,λX k=>rfl⟩
 ·cases h
def Vi:∀ (xs:aa Operand) (k:aa Pt -> aj X),mU σ xs k=some r -> ∃ ps,k ps=some r/\cA (λX k=>mU (X:=X) σ xs k) ps
 |[],k,h=>⟨[],h,λX k=>rfl⟩
 | x :: xs,k,h=>by
  obtain⟨p,C,D⟩:=abC h;obtain⟨ps,E,I⟩:=Vi xs _ C;exact⟨_,E,λX k=>by
   exact(D.at_ _).trans (I.at_ _)⟩
def anD{x:A}{k:Pt -> aj X}(h:sN σ x k=some r):∃ p,k p=some r/\cA (λX k=>sN (X:=X) σ x k) p:=by
 unfold sN at h;split at h
 ·exact⟨_,h,λX k=>rfl⟩
 ·exact⟨_,h,λX k=>rfl⟩
 ·split at h
  ·rename_i cs E;obtain⟨I,C,D⟩:=HN _ _ h;split at C
   ·exact⟨_,C,λX k=>by simp[sN,E];exact D.at_ _⟩
   ·cases C
  ·cases h
 ·split at h
  ·rename_i cs E;obtain⟨I,C,D⟩:=HN _ _ h;split at C
   ·exact⟨_,C,λX k=>by simp[sN,E];exact D.at_ _⟩
   ·cases C
  ·cases h
 ·rename_i y L C O Q;obtain⟨p,J,D⟩:=abC h;exact⟨p,J,λX k=>by
   unfold sN;split
   ·simp_all
   ·simp_all
   ·simp_all
   ·simp_all
   ·exact D.at_ _⟩
def Vj:∀ (xs:aa Operand) (k:aa Pt -> aj X),qD σ xs k=some r -> ∃ ps,k ps=some r/\cA (λX k=>qD (X:=X) σ xs k) ps
 |[],k,h=>⟨[],h,λX k=>rfl⟩
 | x :: xs,k,h=>by
  obtain⟨p,C,D⟩:=anD h;obtain⟨ps,E,I⟩:=Vj xs _ C;exact⟨_,E,λX k=>by
   exact(D.at_ _).trans (I.at_ _)⟩
def anE{f:Nat}{c:jx}{args:aa Operand}{k:S -> aj X}(L:iZ P f c)(h:rJ N σ d c args k=some r):∃ E,k E=some r/\cA (λX k=>rJ (X:=X) N σ d c args k) E:=by
 unfold rJ at h;cases D:Nat.blt d N with
 |false=>simp_all
 | true=>
  rw[D]at h;obtain⟨ps,O,I⟩:=Vj _ _ h;obtain⟨Q,C,J,_⟩:=L X ps _ r O;cases Q with
  | one p=>
   simp only at C;split at C
   ·rename_i y T
    refine⟨_,C,λX k=>?_⟩
    simp[rJ,D];refine(I.at_ _).trans ((J X _).trans ?_);simp_all
   ·cases C
  | cQ U=>
   refine⟨_,C,λX k=>?_⟩
   simp only[rJ,D,ak];exact(I.at_ _).trans (J X _)
def pU(d:Nat)(C:gp)(σ:S):aj S:=match C with
 | .one p=>match sH (p.1,lK (1000000000100000+1000*d) p.2)with
  |some y=>some ((iU (1000000000100000+1000*d) σ p.2).set d y)
  |none=>none
 |.cQ ps=>some ((lM (1000000000100000+1000*d) σ ps).set d (.cQ (oA (1000000000100000+1000*d) ps)))
def HO{f:Nat}{c:jx}{args:aa Operand}{k:S -> aj X}(O:iZ P f c)(h:zf N σ d c args k=some r):∃ E J,pU d E σ=some J/\k J=some r /\
  (∀C D,(∀(X:Type) (k:aa Pt -> aj X),mU C args k=mU σ args k) -> pU d E C=some D -> cA (λX k=>zf (X:=X) N C d c args k) D):=by
 unfold zf at h;cases L:Nat.blt d N with
 |false=>simp_all
 | true=>
  rw[L,ak]at h;obtain⟨ps,Q,T⟩:=Vi _ _ h;obtain⟨E,I,U,_⟩:=O X ps _ r Q;have step:∀ C D,(∀ (X:Type) (k:aa Pt -> aj X),mU C args k=mU σ args k) -> pU d E C=some D -> cA (λX k=>zf (X:=X) N C d c args k) D:=by
   intro C D Y Z X k;simp only[zf,L,ak];rw[Y];refine(T.at_ _).trans ((U X _).trans ?_);unfold pU at Z
   grind
  cases E with
  | one p=>
   simp only at I;split at I
   next y hy=>exact⟨.one p,_,by simp[pU,hy],I,step⟩
   ·cases I
  |cQ wU=>exact⟨.cQ wU,_,rfl,I,step⟩
def anF{f:Nat}{c:jx}{args:aa Operand}{k:S -> aj X}(O:iZ P f c)(h:rJ N σ d c args k=some r):∃ E J,pU d E σ=some J/\k J=some r /\
  (∀C D,(∀(X:Type) (k:aa Pt -> aj X),qD C args k=qD σ args k) -> pU d E C=some D -> cA (λX k=>rJ (X:=X) N C d c args k) D):=by
 unfold rJ at h;cases L:Nat.blt d N with
 |false=>simp_all
 | true=>
  rw[L,ak]at h;obtain⟨ps,Q,T⟩:=Vj _ _ h;obtain⟨E,I,U,_⟩:=O X ps _ r Q;have step:∀ C D,(∀ (X:Type) (k:aa Pt -> aj X),qD C args k=qD σ args k) -> pU d E C=some D -> cA (λX k=>rJ (X:=X) N C d c args k) D:=by
   intro C D Y Z X k;simp only[rJ,L,ak];rw[Y];refine(T.at_ _).trans ((U X _).trans ?_);unfold pU at Z
   grind
  cases E with
  | one p=>
   simp only at I;split at I
   next y hy=>exact⟨.one p,_,by simp[pU,hy],I,step⟩
   ·cases I
  |cQ wU=>exact⟨.cQ wU,_,rfl,I,step⟩
/-! Keys that do not end in certain names. -/
def fH(p:Nat->Bool)(k:aa Nat):Bool:=match k.getLast? with
 |some r=>!p r
 |none=>true
def Lf.nr(p:Nat->Bool):Lf->Bool
 |.own k=>fH p k
 |_=>true
def A.nr(p:Nat->Bool):A->Bool
 |.lf x=>x.nr p
 |.agg cs=>cs.all (Lf.nr p)
 |.cQ xs=>xs.all λq=>q.2.all (Lf.nr p)
 |.ptr k=>fH p k
 |.aG r _=>!p r
 |.pk r _=>!p r
 |.view k _ _ _=>fH p k
 |.fn _ cap=>cap.all λq=>!p q.1
 |_=>true
def sR{p:Nat -> Bool}{k:aa Nat}{n:Nat}(h:fH p k=true)(C:p n=true):bL n k=false:=by
 unfold fH at h;unfold bL
 grind
def Lf.mz{p:Nat->Bool}{x:Lf}{n:Nat}(h:x.nr p=true)(C:p n=true):x.drop n=x:=by
 cases x with
 | own k=>
  have e:Lf.drop n (.own k)=(bif bL n k then .dead else .own k):=rfl;rw[e,sR h C];rfl
 |v x=>rfl
 |dead=>rfl
def mY.mz{p:Nat->Bool}{xs:aa Lf}{n:Nat}(h:xs.all (Lf.nr p)=true)(C:p n=true):xs.map (Lf.drop n)=xs:=by
 conv=>rhs;rw[<-List.map_id xs]
 exact lX λx D=>Lf.mz (cE.1 h x D) C
def A.mz{p:Nat -> Bool}{x:A}{n:Nat}(h:x.nr p=true)(C:p n=true):x.drop n=x:=by
 cases x with
 |lf x=>exact bF A.lf (Lf.mz h C)
 |agg cs=>exact bF A.agg (mY.mz h C)
 | cQ xs=>
  refine bF A.cQ ?_
  conv=>rhs;rw[<- List.map_id xs]
  refine lX λq D=>?_
  have:=mY.mz (cE.1 h q D) C;simp_all
 | ptr k=>
  have e:A.drop n (.ptr k)=(bif bL n k then .undef else .ptr k):=rfl;rw[e,sR h C];rfl
 | view k s i j=>
  have e:A.drop n (.view k s i j)=(bif bL n k then .undef else .view k s i j):=rfl;rw[e,sR h C];rfl
 | pk r j=>
  have e:A.drop n (.pk r j)=(bif Nat.beq r n then .undef else .pk r j):=rfl;have:Nat.beq r n=false:=by
   cases hb:Nat.beq r n with
   |false=>rfl
   | true=>
    obtain rfl:=ck hb;have h:(!p r)=true:=h;simp_all
  rw[e,this];rfl
 | aG r j=>
  have e:A.drop n (.aG r j)=(bif Nat.beq r n then .undef else .aG r j):=rfl;have:Nat.beq r n=false:=by
   cases hb:Nat.beq r n with
   |false=>rfl
   | true=>
    obtain rfl:=ck hb;have h:(!p r)=true:=h;simp_all
  rw[e,this];rfl
 | fn f cap=>
  have e:A.drop n (.fn f cap)=(bif cap.any (λp=>Nat.beq p.1 n)then .undef else .fn f cap):=rfl;have:cap.any (λp=>Nat.beq p.1 n)=false:=by
   rw[kK];intro q D hb;obtain hb:=ck hb;have:=cE.1 h q D;simp_all
  rw[e,this];rfl
 |_=>rfl
def S.ext'{σ C:S}(D:∀ k,σ.t k=C.t k)(E:∀ r,σ.m r=C.m r):σ=C:=by
 cases σ;cases C;simp
 grind
def S.set_set{e d:Nat}(h:e≠d)(v u:A):(σ.set d v).set e u=(σ.set e u).set d v:=by
 refine S.ext' (λk=>?_) λ_=>rfl
 show bV (bV σ.t d v) e u k=bV (bV σ.t e u) d v k;by_cases C:k=e
 ·subst C;rw[cg,cF _ _ _ h,cg]
 ·by_cases D:k=d
  ·subst D;rw[cF _ _ _ C,cg,cg]
  ·rw[cF _ _ _ C,cF _ _ _ D,cF _ _ _ D,cF _ _ _ C]
def S.drop_set(n:Nat){v:A}(C:v.drop n=v):(σ.set d v).drop n=(σ.drop n).set d v:=by
 refine S.ext' (λk=>?_) λ_=>rfl
 show (bV σ.t d v k).drop n=bV (λk=>(σ.t k).drop n) d v k;by_cases h:k=d
 ·subst h;rw[cg,cg,C]
 ·rw[cF _ _ _ h,cF _ _ _ h]
def Ed(v:A):∀ (xs:aa V) (c:Nat) (σ:S),(∀ n,c <= n -> v.drop n=v) -> iU c (σ.set d v) xs=(iU c σ xs).set d v
 |[],c,σ,h=>rfl
 | x :: xs,c,σ,h=>by
  simp[iU];cases D:x.aF with
  | true=>
   exact Ed v xs _ σ (λn C=>h n (by omega))
  | false=>
   rw[S.drop_set c (h c (eB _))];exact Ed v xs _ ((σ.drop c).root c _) (λn C=>h n (by omega))
def NF(v:A):∀ (ps:aa Pt) (c:Nat) (σ:S),(∀ n,c <= n -> v.drop n=v) -> lM c (σ.set d v) ps=(lM c σ ps).set d v
 |[],c,σ,h=>rfl
 | p :: ps,c,σ,h=>by
  simp[lM];rw[Ed v p.2 c σ h];exact NF v ps _ _ (λn C=>h n (by omega))
end
def By{X:Type}(N:Nat)(σ:S)(d:Nat)(x:A)(k:S->aj X):aj X:=
 match x.yT with
 |some xs=>bif xs.all Lf.live then iC N σ d (.aB (xs.map (Lf.drop d))) (.aG d 0) k else none
 |none=>none
def NG{X:Type}(x:A)(k:A->aj X):aj X:=
 match x with
 |.aG r j=>k (.aG r j)
 |.ptr q=>k (.ptr q)
 |.hJ cs=>k (.hJ cs)
 |_=>none
section
variable {P:Program} {w w':World} {w0:Wd} {B N:Nat} {ah aE:bG} {ρ ρ':Nat->Loc} {σ:S} {a:Act} {X:Type} {d:Nat} {r:X} {o:Oper}
def anG{e:TypeId}{x:A}{k:S -> aj X}(h:By N σ d x k=some r):∃ D,k D=some r /\ ∀ ah ρ a w,Rl w0 N ah ρ σ a w -> ∀ u,RA w w0.heap.size ah ρ x u ->
  ∃w' aE ρ' v,(Instr.box e u).run P w = .ok v w'/\Rl w0 N aE ρ' D (a.put (some d) v) w':=by
 unfold By at h;split at h
 ·rename_i xs O;cases E:xs.all Lf.live with
  |false=>grind
  | true=>
   rw[E,ak]at h;obtain⟨I,h⟩:=pL h
   refine⟨_,h,λah ρ a w hR u Q=>?_⟩
   obtain⟨hl,_⟩:=G1 O E Q;have T:(Instr.box e u).run P w = .ok (.pointer (some ⟨w.heap.size,0,none⟩)) (w.alloc (.cells u.cells e)):=by
    simp[Instr.box,newVar,newRow]
   refine⟨_,bV ah w.heap.size (some [d]),bV ρ d (.aB w.heap.size 0),_,T,(hR.DT (hR.di d (.inl I)) (λr C=>cF _ _ _ C) ?_).set ⟨w.heap.size,0,cg _ _ _,rfl⟩ I⟩
   have U:dU (w.alloc (.cells u.cells e)) w0.heap.size (bV ah w.heap.size (some [d])) ρ xs u.cells:=
    hl.gk (by simp) (λb hb=>⟨Below.heap_alloc w _ b hb,cF _ _ _ (by omega)⟩) (λb k hb=>(hR.cX b k hb).2.1)
   have J:=U.eG (ρ':=bV ρ d (.aB w.heap.size 0)) (d:=d) (λr C=>cF _ _ _ C)
   refine .aB w.heap.size 0 u.cells e _ (λj=>u.cells.getD j undef) (cg _ _ _) (cg _ _ _) (heap_alloc_new w _) (by rw[J.1];omega) λj y Y=>?_
   obtain⟨v,L,C⟩:=J.2 j y Y;have Z:u.cells.getD j undef=v:=by rw[iu,L];rfl
   rw[Z,fo];exact⟨L,C⟩
 ·cases h
def abD{x:A}{k:S -> aj X}(h:By N σ d x k=some r):∃ y u,k (((σ.drop d).root d y).set d u)=some r/\(∀ (C:S),cA (λX k=>By (X:=X) N C d x k) (((C.drop d).root d y).set d u)):=by
 unfold By at h;split at h
 ·rename_i xs E;cases D:xs.all Lf.live with
  |false=>simp_all
  | true=>
   rw[D]at h;obtain⟨I,_⟩:=wX h
   refine⟨_,_,I,λC X k=>?_⟩
   obtain⟨J,_⟩:=pL h;have hb:Nat.blt d N=true:=iP J;simp[By,E,D,iC,hb,ak]
 ·cases h
def abE{x:A}{k:A->aj X}(h:NG x k=some r):k x=some r/\cA (λX k=>NG (X:=X) x k) x/\∀ u,RA w B ah ρ x u->∃ ad,u = .pointer (some ad):=by
 unfold NG at h;split at h
 ·exact⟨h,λX k=>rfl,λu C=>by obtain⟨b,off,_,rfl⟩:=C;exact⟨_,rfl⟩⟩
 ·exact⟨h,λX k=>rfl,λu C=>by obtain⟨ad,rfl,_⟩:=C;exact⟨_,rfl⟩⟩
 ·exact⟨h,λX k=>rfl,λu C=>by obtain⟨b,off,rfl,_⟩:=C;exact⟨_,rfl⟩⟩
 ·cases h
end
def oE(t:TypeId):Bool:=[999999,999999,999999,46,999999,53,999999,999999,999999,999999,999999,999999,999999,999999,999999,999999,999999,999999,166,999999,999999,999999,999999,999999].any (Nat.beq t)
def zq{X:Type}(P:Program)(N:Nat)(σ:S)(d:Nat)(t:TypeId)(len:Nat)(parts:aa (Nat×Operand))(k:S->aj X):aj X:=
 match vb P t with
 | some (e,C)=>match zeroOf P e with
  | some z=>bif Nat.beq z.cells.size (aD C)&&Nat.blt (len*aD C) 16777217 then (match yY (λi=>some (i*aD C,aD C)) (List.replicate len (z.cells.toList.map iT)).flatten (parts.map λp=>(p.1,aI σ p.2))with
   |some cs=>bif Nat.beq len 0 then iC N σ d (.sl (.sl C (full C+2) true [])) (.lf (.own [d])) k else iC N σ d (.aB (cs.map (Lf.drop d))) (.pk d len) k
   |none=>none)else none
  |none=>none
 |none=>none
def wY{X:Type}(N:Nat)(σ:S)(d r D:Nat)(C:TC)(n:Nat)(k:S->aj X):aj X:=
 match σ.m D,σ.m r with
 | some (.aB cs),some (.sl (.sl E (o+2) q l))=>if h:E=C then (match ic r (λj=>(j % aD C) :: (l.length+j / aD C) :: aD C :: [r]) cs.length 0 cs σ with
  | some (I,J)=>(match Hf C o n I with
   |some l2=>bif Nat.blt d N&&bD (l.length+l2.length)then k (((J.drop r).root r (.sl (.sl C (o+2) false ((h ▸ l)++l2)))).set d (.lf (.own [r])))else none
   |none=>none)
  |none=>none)else none
 |_,_=>none
def zu{X:Type}(P:Program)(N:Nat)(σ:S)(d:Nat)(t:TypeId)(x y:A)(k:S->aj X):aj X:=
 match vb P t,y with
 | some (e,C),.pk D n=>bif (zeroOf P e).any (λz=>Nat.beq z.cells.size (aD C))&&(Nat.blt d N&&Nat.blt n qw)then (match x with
  |.lf (.v .nil)=>wY N ((σ.drop d).root d (.sl (.sl C (full C+2) false []))) d d D C n k
  |.lf (.own [r])=>bif Nat.blt r N ||Nat.ble 60000 r then wY N σ d r D C n k else none
  |_=>none)else none
 |_,_=>none
def rT{X:Type}(P:Program)(σ:S)(t:TypeId)(x y:A)(k:S->aj X):aj X:=
 match jv P t,y.yT,x with
 | some n,some xs,.ptr [j,i,s,r]=>if xs.length=n then (bif xs.all Lf.live then (match ic r (λm=>(j+m) :: i :: s :: [r]) xs.length 0 xs σ with
  | some (E,D)=>(match D.m r with
   | some (.sl (.sl C (o+2) I l))=>if s=aD C then (if h:i<l.length then (if j+n<=aD C then (match dec C o (splice (enc C o l[i]) j E)with
    |some e=>k (D.bH [r] [] [(r,.sl (.sl C (o+2) I (l.set i e)))])
    |none=>none)else none)else none)else none
   |_=>none)
  |none=>none)else none)else none
 |_,_,_=>none
def vn(x y:A):Bool:=match x,y.yT with
 |.ptr _,some xs=>(rB xs).isNone
 |_,_=>false
section
variable {P:Program} {w w':World} {w0:Wd} {B N:Nat} {ah aE:bG} {ρ ρ':Nat->Loc} {σ:S} {a:Act} {X:Type} {d:Nat} {r:X} {o:Oper}
def abF{place:Nat -> aj (Nat×Nat)}:∀ (parts:aa (Nat×A)) (cells out:aa Lf),yY place cells parts=some out -> out.length=cells.length
 |[],cells,out,h=>by injection h with h;rw[h]
 | (i,x) :: rest,cells,out,h=>by
  unfold yY at h;split at h
  ·rename_i off n xs C D;split at h
   ·rename_i E;cases hl:xs.all _ with
    | true=>
     rw[hl]at h;rw[abF rest _ _ h,sB _ _ _ (by omega)]
    |false=>simp_all
   ·cases h
  ·cases h
def anH{t:TypeId}{len:Nat}{parts:Array (Nat×Operand)}{k:S -> aj X}(h:zq P N σ d t len parts.toList k=some r):∃ dV,k dV=some r /\ ∀ ah ρ a w,Rl w0 N ah ρ σ a w ->
  ∃w' aE ρ' v,(Instr.buildSlice t len (parts.map λ(i,x)=>(i,a.eval x))).run P w = .ok v w'/\Rl w0 N aE ρ' dV (a.put (some d) v) w':=by
 unfold zq at h;split at h
 ·rename_i e D rE;obtain⟨iY,ht,i,hi,O,lI⟩:=yV rE;split at h
  ·rename_i z hz;cases Q:(Nat.beq z.cells.size (aD D)&&Nat.blt (len*aD D) 16777217)with
   |false=>rw[Q]at h;cases h
   | true=>
    rw[Q,ak]at h;rw[aM]at Q;have pN:=ck Q.1;have hsm:len*aD D<16777217:=by have:=cI Q.2;omega
    have pM:i.zero=some z:=by unfold zeroOf at hz;simpa [hi]using hz
    split at h
    ·rename_i cs kj;have key:∀ ah ρ (a:Act) w,Rl w0 N ah ρ σ a w -> ∃ C,(Instr.buildSlice t len (parts.map λ(i,x)=>(i,a.eval x))).run P w = .ok (.slice (some ⟨w.heap.size,0,none⟩) len len) (w.alloc (.cells C e))/\dU w w0.heap.size ah ρ cs C/\C.size=cs.length:=λah ρ a w hR=>by
      have Ul:dU w w0.heap.size ah ρ (List.replicate len (z.cells.toList.map iT)).flatten (madeCells z.cells (len*aD D)):=by
       have e1:(List.replicate len (z.cells.toList.map iT)).flatten=((List.replicate len z.cells.toList).flatten).map iT:=by
        rw[List.map_flatten,List.map_replicate]
       rw[e1,<- aaP z.cells (aD D) len pN (pE D)]
       refine⟨by simp,λj x E=>?_⟩
       rw[dw]at E;cases L:(madeCells z.cells (len*aD D)).toList[j]? with
       |none=>rw[L]at E;cases E
       | some v=>
        rw[L]at E;injection E with E;subst E;exact⟨v,by simpa using L,M5 v⟩
      obtain⟨C,Z,hl⟩:=Nb (w:=w) (B:=w0.heap.size) (ah:=ah) (ρ:=ρ) _ _ _ (parts.toList.map λp=>(p.1,a.eval p.2)) cs kj Ul (by simp) (λj p q I T=>by
       rw[dw]at I T;cases E:parts.toList[j]? with
       |none=>rw[E]at I;cases I
       | some x=>
        rw[E]at I T;injection I with I;injection T with T;subst I T;exact⟨rfl,hR.aI x.2⟩)
      have U:(Instr.buildSlice t len (parts.map λ(i,x)=>(i,a.eval x))).run P w = .ok (.slice (some ⟨w.heap.size,0,none⟩) len len) (w.alloc (.cells C e)):=by
       have Um:(parts.map λ(i,x)=>(i,a.eval x)).toList=parts.toList.map λp=>(p.1,a.eval p.2):=by simp
       by_cases h0:len*aD D=0
       ·have hm:madeCells z.cells (len*aD D) = #[]:=by rw[h0];simp[madeCells]
        rw[hm]at Z;have Un:len*i.size=0:=by rw[O];exact h0
        rw[<- O]at Z;have e0:∀f:Nat -> Value,Array.map f (Array.range 0) = #[]:=λf=>by simp
        simp only[Instr.buildSlice,fq,gT iY,sizeOf,typeInfo];simp[hi,Un];rw[e0,Z];simp[newRow]
       ·exact run_buildSlice (P:=P) w t e len _ C i z iY hi pM (by rw[O];omega) (by rw[O];exact h0) (by rw[O,Um];exact Z)
      exact⟨C,U,hl,hl.1⟩
     cases ow:Nat.beq len 0 with
     | true=>
      rw[ow,ak]at h;have hln:=ck ow;subst hln;obtain⟨Y,h⟩:=pL h
      refine⟨_,h,λah ρ a w hR=>?_⟩
      obtain⟨C,U,hl,hcz⟩:=key ah ρ a w hR;have tS:cs.length=0:=by
       have h1:=abF _ _ _ kj;rw[h1];simp
      refine⟨_,bV ah w.heap.size (some [d]),bV ρ d (.dI (.slice (some ⟨w.heap.size,0,none⟩) 0 0)),_,U,(hR.DT (hR.di d (.inl Y)) (λr J=>cF _ _ _ J) (.sl _ _ (cg _ _ _) ?_)).set ⟨rfl,by simp[cH,cg]⟩ Y⟩
      exact RV.own (w:=w.alloc (.cells C e)) (B:=w0.heap.size) (ah:=bV ah w.heap.size (some [d])) [d] D (full D) true [] w.heap.size 0 C (λ_ _=>undef)
       (cg _ _ _) (by rw[ht];exact heap_alloc_new w _) (by omega) (eB _) ⟨by unfold maxLen;omega,λ_=>rfl⟩ (λi' h'=>absurd h' (by simp)) (λi' h'=>absurd h' (by simp))
     |false=>
     rw[ow,aq]at h;obtain⟨Y,h⟩:=pL h
     refine⟨_,h,λah ρ a w hR=>?_⟩
     obtain⟨C,U,hl,_⟩:=key ah ρ a w hR
     refine⟨_,bV ah w.heap.size (some [d]),bV ρ d (.aB w.heap.size 0),_,U,(hR.DT (hR.di d (.inl Y)) (λr J=>cF _ _ _ J) ?_).set ⟨w.heap.size,cg _ _ _,(TQ (by have:=Nat.le_mul_of_pos_right len (pE D);unfold qw;omega)).symm⟩ Y⟩
     have h1:dU (w.alloc (.cells C e)) w0.heap.size (bV ah w.heap.size (some [d])) ρ cs C:=
      hl.gk (by simp) (λb hb=>⟨Below.heap_alloc w _ b hb,cF _ _ _ (by omega)⟩) (λb k hb=>(hR.cX b k hb).2.1)
     have h2:=h1.eG (ρ':=bV ρ d (.aB w.heap.size 0)) (d:=d) (λr J=>cF _ _ _ J)
     refine .aB w.heap.size 0 C e _ (λj=>C.getD j undef) (cg _ _ _) (cg _ _ _) (heap_alloc_new w _) (by rw[h2.1];omega) λj y hy=>?_
     obtain⟨v,L,J⟩:=h2.2 j y hy;have hg:C.getD j undef=v:=by rw[iu,L];rfl
     rw[hg,fo];exact⟨L,J⟩
    ·cases h
  ·cases h
 ·cases h
def abG{t:TypeId}{len:Nat}{parts:aa (Nat×Operand)}{k:S -> aj X}(h:zq P N σ d t len parts k=some r):∃ y u,k (((σ.drop d).root d y).set d u)=some r /\
  (∀(C:S),(∀p∈parts,aI C p.2=aI σ p.2) -> cA (λX k=>zq (X:=X) P N C d t len parts k) (((C.drop d).root d y).set d u)):=by
 unfold zq at h;split at h
 ·rename_i e Z T;split at h
  ·rename_i z U;cases D:(Nat.beq _ _&&Nat.blt _ 16777217)with
   |false=>rw[D]at h;cases h
   | true=>
    rw[D]at h;split at h
    ·rename_i cs Y;cases E:Nat.beq len 0 with
     | true=>
      rw[E,ak]at h;obtain⟨I,_⟩:=wX h
      refine⟨_,_,I,λC J X k=>?_⟩
      obtain⟨L,_⟩:=pL h;have O:Nat.blt d N=true:=iP L;have e:(parts.map λp=>(p.1,aI C p.2))=parts.map λp=>(p.1,aI σ p.2):=lX λp Q=>by rw[J p Q]
      simp only[zq,T,U,D,ak,e,Y,iC,O,E]
     | false=>
      rw[E,aq]at h;obtain⟨I,_⟩:=wX h
      refine⟨_,_,I,λC J X k=>?_⟩
      obtain⟨L,_⟩:=pL h;have O:Nat.blt d N=true:=iP L;have e:(parts.map λp=>(p.1,aI C p.2))=parts.map λp=>(p.1,aI σ p.2):=lX λp Q=>by rw[J p Q]
      simp only[zq,T,U,D,ak,e,Y,iC,O,E,aq]
    ·cases h
  ·cases h
 ·cases h
def abH{t e ty:TypeId}{Q:TC}{i:TypeInfo}{z:Value}{rr Z n:Nat}{k:S -> aj X}(iY:P.underlying t=some (.slice e))(ht:tid Q=e)(hi:P.info? e=some i)(hz:i.zero=some z)
  (gx:i.size=aD Q) (lI:i.bytes <= 65536) (pN:z.cells.size=aD Q) (h:wY N σ d rr Z Q n k=some r):∃dV,k dV=some r /\ ∀ah ρ a w,Rl w0 N ah ρ σ a w -> w0.F rr=none -> ∀u v b,ρ rr = .dI u -> ρ Z = .aB b 0 -> v = .slice (some ⟨b,0,none⟩) n n ->
  ∃w' aE ρ' z,(Builtin.append_ #[t,t] ty #[u,v]).run P w = .ok z w'/\Rl w0 N aE ρ' dV (a.put (some d) z) w':=by
 unfold wY at h;split at h
 ·rename_i cs E o q l Vk hr;split at h
  ·rename_i mg;subst mg;split at h
   ·rename_i vs τ Vl;split at h
    ·rename_i l2 mc;cases O:(Nat.blt d N&&bD (l.length+l2.length))with
     |false=>rw[O]at h;cases h
     | true=>
      rw[O,ak]at h;rw[aM]at O;have G9:l.length+l2.length<1073741824:=by simpa [bD]using O.2
      have hd:d<N:=by have:=cI O.1;omega
      refine⟨_,h,λah ρ a w hR hF u v b anI anJ J=>?_⟩
      subst J;have T:=hR.root Z _ Vk;generalize C:aZ.aB cs=x at T;cases T with
      |sl=>cases C
      |mp=>cases C
      |gh=>cases C
      | aB b' off cells e' eZ us dz qA hh hs hc=>
       injection C with C;subst C;rw[anJ]at dz;injection dz with e1 e2;subst e1 e2;have mR:dU w w0.heap.size ah ρ cs ((List.range cs.length).map us).toArray:=by
        refine⟨by simp,λj x I=>?_⟩
        have D:j<cs.length:=(dQ.1 I).1;exact⟨us j,by simp[D],(hc j x I).2⟩
       obtain⟨aE,gM,Ba,NH,_,rA,pI,_,_⟩:=M0 (w0:=w0) (N:=N) (λj=>by simp[bL]) _ _ _ _ _ _ Vl ah ρ a w hR _ mR;obtain⟨Nd,anK,jm⟩:=Uk E o n vs l2 mc;have sK:cs.length=n*aD E:=by rw[<- Ba,anK]
       have pO:∀ j,j<cs.length -> (us j).oneCell'=true:=by
        intro j D;have I:=bO (by rw[Ba];exact D);obtain⟨u',uY,L⟩:=NH j _ I;have:u'=us j:=by simpa [D]using uY.symm
        rw[<- this];exact L.one
       have Vm:b<w.heap.size:=(gd.1 hh).1;have G6:Reads w w.heap.size (aD E) (some ⟨b,0,none⟩) n ((List.range cs.length).map us):=by
        refine⟨by simp[sK],λhn=>⟨b,0,rfl,Vm,λj v J=>?_⟩⟩
        have D:j<cs.length:=by have:=(dQ.1 J).1;simpa using this
        have:v=us j:=by simpa [D]using J.symm
        subst this;rw[cell_of_row w b _ cells _ _ hh];simp_all
       have gz:tP w w0.heap.size aE rr l.length E o l2 ((List.range cs.length).map us):=by
        intro U HK j x I;have D:j<aD E:=by have:=(dQ.1 I).1;rwa [jZ]at this
        obtain⟨y,T,hw⟩:=jm U HK j x I;obtain⟨u',uY,L⟩:=NH _ _ T;refine⟨u',uY,?_⟩;have e1:(0+(U*aD E+j)) % aD E=j:=by rw[fo,Nat.add_comm,Nat.add_mul_mod_self_right,Nat.mod_eq_of_lt D]
        have e2:(0+(U*aD E+j)) / aD E=U:=by rw[fo,Nat.add_comm,Nat.add_mul_div_right _ _ (pE E),Nat.div_eq_of_lt D,fo]
        simp only[e1,e2]at L;exact L.wk hw
       have Bz:=gM.root rr _ (rA _ hr);generalize C:aZ.sl (.sl E (o+2) q l)=x at Bz;cases Bz with
       |aB=>cases C
       |mp=>cases C
       |gh=>cases C
       | sl uu y Y L=>
        injection C with C;subst C;rw[anI]at Y;injection Y with Y;subst Y;obtain⟨v',w',dg,ew,oD,fW⟩:=gM.ams (ty:=ty) (c:=n) hF iY ht hi hz gx lI pN L G6 (λv J=>by
         obtain⟨j,D⟩:=List.mem_iff_getElem?.1 J;have He:j<cs.length:=by have:=(dQ.1 D).1;simpa using this
         have:v=us j:=by simpa [He]using D.symm
         rw[this];exact pO j He) Nd.symm gz G9
        exact⟨w',dg,_,v',ew,oD.set ⟨fW,by simp[cH,cg]⟩ hd⟩
    ·cases h
   ·cases h
  ·cases h
 ·cases h
def abI{rr E n:Nat}{I:TC}{k:S -> aj X}(h:wY N σ d rr E I n k=some r):∃ C,k C=some r/\cA (λX k=>wY (X:=X) N σ d rr E I n k) C:=by
 unfold wY at h;split at h
 ·rename_i cs U o q l J L;split at h
  ·rename_i O;split at h
   ·rename_i Y C Q;split at h
    ·rename_i l2 T;cases D:(Nat.blt d N&&bD _)with
     |false=>rw[D]at h;cases h
     | true=>
      rw[D]at h;exact⟨_,h,λX k=>by simp[wY,J,L,az O,Q,T,D,ak]⟩
    ·cases h
   ·cases h
  ·cases h
 ·cases h
def anL{t ty:TypeId}{x y:A}{k:S -> aj X}(h:zu P N σ d t x y k=some r):∃ C,k C=some r /\ ∀ ah ρ a w,Rl w0 N ah ρ σ a w -> ∀ u v,RA w w0.heap.size ah ρ x u -> RA w w0.heap.size ah ρ y v ->
  ∃w' aE ρ' z,(Builtin.append_ #[t,t] ty #[u,v]).run P w = .ok z w'/\Rl w0 N aE ρ' C (a.put (some d) z) w':=by
 unfold zu at h;split at h
 ·rename_i e J ry n rE;obtain⟨Y,Z,i,hi,gx,lI⟩:=yV rE;cases E:((zeroOf P e).any (λz=>Nat.beq z.cells.size (aD J))&&(Nat.blt d N&&Nat.blt n qw))with
  |false=>simp_all
  | true=>
   rw[E,ak]at h;rw[aM]at E;obtain⟨z,hz,I⟩:=(Option.any_eq_true _ _).1 E.1;have I:=ck I;have pM:i.zero=some z:=by unfold zeroOf at hz;simpa [hi]using hz
   have L:=E.2;rw[aM]at L;have hd:d<N:=by have:=cI L.1;omega
   have qG:n<qw:=by have:=cI L.2;omega
   split at h
   ·obtain⟨C,O,Q⟩:=abH (w0:=w0) (ty:=ty) Y Z hi pM gx lI I h
    refine⟨C,O,λah ρ a w hR u v D T=>?_⟩
    have D:u = .slice none 0 0:=by cases D.2;rfl
    subst D;obtain⟨b,hb,rfl⟩:=T;have Vk:ry≠d:=by
     rintro rfl;unfold wY at h;split at h
     ·simp_all
     ·cases h
    have hR0:=hR.new (d:=d) (x:=.sl (.sl J (full J+2) false [])) (.dI (.slice none 0 0)) (.sl _ _ (cg _ _ _) (.cS _ _ _)) (hR.di d (.inl hd));exact Q _ _ a w hR0 (hR.di d (.inl hd)) _ _ b (cg _ _ _) ((cF _ _ _ Vk).trans hb) (TQ qG)
   ·rename_i rr;cases U:(Nat.blt rr N || Nat.ble 60000 rr)with
    |false=>simp_all
    | true=>
     rw[U,ak]at h;rw[ei]at U;have rA:rr<N \/ 60000 <= rr:=U.imp (λh=>by have:=cI h;omega) (λh=>cI h);obtain⟨C,O,Q⟩:=abH (w0:=w0) (ty:=ty) Y Z hi pM gx lI I h
     refine⟨C,O,λah ρ a w hR u v D T=>?_⟩
     obtain⟨b,hb,rfl⟩:=T;have dz:ρ rr = .dI u:=by
      have h4:=D.2;simp only[cH]at h4;cases hl:ρ rr with
      |aB b o=>simp_all
      |bX us=>simp_all
      |dI v=>simp_all
     exact Q ah ρ a w hR (hR.di rr rA) _ _ b dz hb (TQ qG)
   ·cases h
 ·cases h
def anM{t:TypeId}{x y:A}{k:S -> aj X}(h:zu P N σ d t x y k=some r):∃ C,k C=some r/\cA (λX k=>zu (X:=X) P N σ d t x y k) C:=by
 unfold zu at h;split at h
 ·rename_i e O Q n J;cases D:((zeroOf P e).any _&&(Nat.blt d N&&Nat.blt n qw))with
  |false=>rw[D]at h;cases h
  | true=>
   rw[D]at h;split at h
   ·obtain⟨C,E,I⟩:=abI h;exact⟨C,E,λX k=>by simp[zu,J,D];exact I X k⟩
   ·rename_i rr;cases L:(Nat.blt rr N || Nat.ble 60000 rr)with
    |false=>simp_all
    | true=>
     rw[L]at h;obtain⟨C,E,I⟩:=abI h;exact⟨C,E,λX k=>by simp[zu,J,D,L];exact I X k⟩
   ·cases h
 ·cases h
def anN{t:TypeId}{x y:A}{k:S -> aj X}(h:rT P σ t x y k=some r):∃ dV,k dV=some r /\ ∀ ah ρ a w,Rl w0 N ah ρ σ a w -> ∀ u v,RA w w0.heap.size ah ρ x u -> RA w w0.heap.size ah ρ y v ->
  ∃w' aE,(Instr.storeAt t u v).run P w = .ok () w'/\Rl w0 N aE ρ dV a w':=by
 unfold rT at h;split at h
 ·rename_i n xs j i s rr hn rC;split at h
  ·rename_i hlen;cases Vn:xs.all Lf.live with
   |false=>rw[Vn]at h;cases h
   | true=>
    rw[Vn,ak]at h;split at h
    ·rename_i vs τ Vl;split at h
     ·rename_i C o' qn l jA;split at h
      ·rename_i nM;split at h
       ·rename_i hi;split at h
        ·rename_i hj;split at h
         ·rename_i e he
          refine⟨_,h,λah ρ a w hR u v hu hv=>?_⟩
          obtain⟨ad,rfl,I⟩:=hu;obtain⟨hl,pO⟩:=G1 rC Vn hv;have mR:dU w w0.heap.size ah ρ xs v.cells.toList.toArray:=by simpa using hl
          obtain⟨aE,Y,Ba,NH,_,rA,pI,aB2,_⟩:=M0 (w0:=w0) (N:=N) (λm=>by simp[bL]) _ _ _ _ _ _ Vl ah ρ a w hR _ mR;simp only[addrAt]at I;split at I
          ·rename_i b n0 c0 dz;split at I
           ·rename_i qA;injection I with I;subst I;have Bz:=Y.root rr _ jA;generalize D:aZ.sl (.sl C (o'+2) qn l)=x at Bz;cases Bz with
            |aB=>cases D
            |mp=>cases D
            |gh=>cases D
            | sl uu y jN hU=>
             injection D with D;subst D;rw[dz]at jN;injection jN with jN;subst jN;cases hU with
             |aF _ _ _ _ _ _ _ _ _ ho=>omega
             |cW=>simp at hi
             |de=>simp at hi
             | own _ _ _ _ _ _ cap cs us NI hh hs wD hm hc hr=>
              subst nM;have Vo:v.cells.size=n:=by rw[hl.1,hlen]
              have A6:i*aD C+aD C <= c0*aD C:=by
               have:(i+1)*aD C <= c0*aD C:=iN _ (by omega);rw[gH]at this;exact this
              have l7:i*aD C+j+v.cells.toList.length <= cs.size:=by rw[lW,Vo,hs];omega
              have L:=MS w b (i*aD C+j) v.cells.toList;obtain⟨T,gz,nL⟩:=Gi b (tid C) v.cells.toList (i*aD C+j) w cs hh l7;have tM:∀ m,T[m]?=if m<i*aD C+j then cs[m]? else if m<i*aD C+j+n then v.cells[m-(i*aD C+j)]? else cs[m]?:=by
               intro m;have e2:T[m]?=(splice cs.toList (i*aD C+j) v.cells.toList)[m]?:=by
                rw[show T[m]?=T.toList[m]? by simp,nL];rfl
               rw[e2,wB _ _ _ (by simpa using l7),lW,Vo];simp
              have GY:T.size=cs.size:=by
               rw[<- lW,nL];have:=sB cs.toList (i*aD C+j) v.cells.toList (by simpa using l7);simp only[splice]at this;simp_all
              have Vm:b<w.heap.size:=(gd.1 hh).1;have Z:w.heap.size <= (w.setCells b (i*aD C+j) v.cells.toList).heap.size:=Nat.le_of_eq L.size.symm;have Vp:∀E,E<w.heap.size -> aE E≠some [rr] -> (w.setCells b (i*aD C+j) v.cells.toList).heap[E]?=w.heap[E]?:=λE _ eU=>L.block E (by rintro rfl;exact eU NI)
              have hth:w.there b (i*aD C+j) v.cells.size:=by
               intro m sG;refine⟨?_,frozen_of_row w b _ cs _ hh⟩;rw[cell_of_row w b _ cs _ _ hh];simp;omega
              have l9:vs.length=n:=by rw[Ba,hlen]
              refine⟨_,aE,T0 w b _ t v hth (by rw[Vo];exact hn) pO,Y.jo (ns:=[rr]) (cn:=[]) (eH:=ρ) (dg:=aE) ⟨Z,λE HJ O=>⟨L.block E ?_,rfl⟩,λ_ _=>rfl,λE k O=>(Y.cX E k O).2⟩
               ⟨L.os,L.tape,L.output,Z,λk O hL=>L.block k ?_⟩ (λE k O=>?_) (λr hr=>by cases hr) (λr0 x D=>?_)⟩
              ·rintro rfl;have:=O _ NI;simp[cJ,cu]at this
              ·rintro rfl;rcases(Y.cX k _ NI).1 with h1 | h1
               ·exact absurd O (Nat.not_lt.2 h1)
               ·exact h1 hL
              ·have:=Y.cX E k O;exact⟨this.1,kI this.2.1 Z,this.2.2⟩
              ·have mh:r0=rr/\x = .sl (.sl C (o'+2) qn (l.set i e)):=by
                simp only[List.lookup]at D;split at D
                next HJ=>injection D with D;exact⟨by simpa using HJ,D.symm⟩
                ·cases D
               obtain⟨rfl,rfl⟩:=mh;refine .sl _ _ dz ?_
               refine RV.MT (u:=us) (us:=λ_ m=>v.cells.getD (m-j) undef) (cs:=cs) (xs:=vs) NI gz (GY.trans hs) wD hm hi (by rw[l9];exact hj) he (λJ h' U x Q GX=>?_) (λm x Q=>?_)
               ·have sC:U<aD C:=by have:=(dQ.1 Q).1;rwa [jZ]at this
                refine⟨?_,(hr J h' U x Q).under (n:=r0) (.inl (by simp)) Z Vp (λ_ _=>rfl)⟩
                rw[tM];have A7:¬ (¬ J*aD C+U<i*aD C+j/\J*aD C+U<i*aD C+j+n):=by
                 rintro⟨h1,h2⟩;rcases Nat.lt_trichotomy J i with dZ|heq|DM
                 ·have:(J+1)*aD C <= i*aD C:=iN _ dZ;rw[gH]at this;omega
                 ·subst heq;exact GX ⟨rfl,by omega,by omega⟩
                 ·have:(i+1)*aD C <= J*aD C:=iN _ DM;rw[gH]at this;omega
                split
                ·exact hc J h' U x Q
                ·rw[bE];exact hc J h' U x Q
               ·obtain⟨v0,HP,A8⟩:=NH m x Q;have sG:m<n:=by rw[<- l9];exact(dQ.1 Q).1
                have M8:v.cells[m]?=some v0:=by simpa using HP
                have DN:v.cells.getD (j+m-j) undef=v0:=by rw[show j+m-j=m by omega,iu,M8];rfl
                show T[_]?=some (v.cells.getD (j+m-j) undef)/\RV _ _ _ _ _ (v.cells.getD (j+m-j) undef);rw[DN,tM,bE,br];rw[fo]at A8
                refine⟨?_,A8.under (n:=r0) (.inl (by simp)) Z Vp (λ_ _=>rfl)⟩
                rw[show i*aD C+(j+m)-(i*aD C+j)=m by omega];exact M8
           ·cases I
          ·cases I
         ·cases h
        ·cases h
       ·cases h
      ·cases h
     ·cases h
    ·cases h
  ·cases h
 ·cases h
def anO{t:TypeId}{x y:A}{k:S -> aj X}(h:rT P σ t x y k=some r):∃ C,k C=some r/\cA (λX k=>rT (X:=X) P σ t x y k) C:=by
 unfold rT at h;split at h
 ·rename_i n xs j i s rr E I;split at h
  ·rename_i hlen;cases D:xs.all Lf.live with
   |false=>simp_all
   | true=>
    rw[D,ak]at h;split at h
    ·rename_i U C J;split at h
     ·rename_i Y Z qn l L;split at h
      ·rename_i O;split at h
       ·rename_i hi;split at h
        ·rename_i Q;split at h
         next e T=>exact⟨_,h,λX k=>by simp[rT,E,I,br hlen,D,ak,J,L,br O,az hi,br Q,T]⟩
         ·cases h
        ·cases h
       ·cases h
      ·cases h
     ·cases h
    ·cases h
  ·cases h
 ·cases h
end
def NJ(P:Program)(f:Nat)(F:aa Int->aj Int):Prop:=
 ∀ (w:World) (l:aa (T .u8)) (h:Int) (v:Value),F l=some h->RV w w.heap.size (λ_=>none) [] (.sl .u8 0 false l) v->Hd w (λ_=>none)->Calls P f #[v] w λe w'=>
  ∃b off cells t,e = .returned (.pointer (some ⟨b,off,none⟩))/\Below w.heap.size w w'/\w.heap.size<=b/\w'.heap[b]?=some (.cells cells t (0,0))/\cells[off]?=some v/\cells[off+1]?=some (.int .i64 0)/\cells[off+2]?=some (.int .i64 h)
def BA{X:Type}(N:Nat)(σ:S)(d:Nat)(F:aa Int->aj Int)(x:A)(k:S->aj X):aj X:=
 match x with
 | .lf (.v (.sl .u8 0 q l))=>bif Nat.blt d N then (match F l with
  |some h=>k (((σ.drop (1000000000100000+1000*d)).root (1000000000100000+1000*d) (.aB [.v (.sl .u8 0 q l),.v (.int .i64 0),.v (.int .i64 h)])).set d (.aG (1000000000100000+1000*d) 0))
  |none=>none)else none
 |_=>none
structure BB where
 a:Nat
 j:Nat
 t:TC
 run:List Pt->Option (Nat×Nat)
def tW(bX:Array Value)(a j:Nat):aj Value:=match bX[a]? with
 |some (.agg us)=>us[j]?
 |some u=>bif Nat.beq j 0 then some u else none
 |none=>none
def NK(P:Program)(f:Nat)(c:BB):Prop:=
 ∀ (args:aa Pt) (p:Nat×Nat),c.run args=some p->∀ (w:World) (bX:Array Value),vf w args bX->Hd w (λ_=>none)->Calls P f bX w λe w'=>
  ∃A n cap,tW bX c.a c.j=some (.slice A n cap)/\p.1<=p.2/\p.2<=n/\e = .returned (sliced A p.1 p.2 cap (aD c.t))/\Below w.heap.size w w'
def abJ(σ:S)(args:aa Operand)(a j:Nat):aj Lf:=match args[a]? with
 | some x=>(match aI σ x with
  |.agg cs=>cs[j]?
  |.lf l=>bif Nat.beq j 0 then some l else none
  |_=>none)
 |none=>none
def BE{X:Type}(N:Nat)(σ:S)(d:Nat)(c:BB)(args:aa Operand)(k:S->aj X):aj X:=
 bif Nat.blt d N then mU σ args λps=>(match c.run ps with
  | some p=>(match abJ σ args c.a c.j with
   |some (.v (.sl t g _ l))=>if t=c.t then (bif Nat.blt g 2&&Nat.ble p.1 p.2&&Nat.ble p.2 l.length then k (σ.set d (.lf (.v (.sl t g false ((l.take p.2).drop p.1)))))else none)else none
   |_=>none)
  |none=>none)else none
structure tX where
 run:(X:Type)->Nat->S->List A->(S->A->Option X)->Option X
def qI(P:Program)(f:Nat)(c:tX):Prop:=
 ∀ [Inhabited Wd] (X:Type) (N:Nat) (σ:S) (xs:aa A) (k:S->A->aj X) (r:X),c.run X N σ xs k=some r->∃ C y,k C y=some r/\(∀ (D:Type) (E:S->A->aj D),c.run D N σ xs E=E C y)/\
  ∀ (w0:Wd) (ah:bG) (ρ:Nat->Loc) (a:Act) (w:World) (bX:Array Value),Rl w0 N ah ρ σ a w->bX.size=xs.length->(∀ i,RA w w0.heap.size ah ρ ((xs[i]?).getD .undef) (bX.getD i undef))->
   Calls P f bX w λe w'=>∃v aE ρ',e = .returned v/\Rl w0 N aE ρ' C a w'/\RA w' w0.heap.size aE ρ' y v
inductive qJ where
 |p (c:jx)
 |m (c:nR)
 |n (F:List Int->Option Int)
 |v (c:BB)
 |i (c:tX)
 |d (c:nR)
 |q (c:jx)
 |c (c:nR)
def Vq(P:Program)(f:Nat):qJ->Prop
 |.p c=>iZ P f c
 |.m c=>vg P f c
 |.n F=>NJ P f F
 |.v c=>NK P f c
 |.i c=>qI P f c
 |.d c=>vg P f c
 |.q c=>iZ P f c
 |.c c=>vg P f c
section
variable {P:Program} {w w':World} {w0:Wd} {B N:Nat} {ah dg aE:bG} {ρ eH ρ':Nat->Loc} {σ:S} {a:Act} {X:Type} {d:Nat} {r:X} {ns cn:aa Nat} {o:Oper}
def Vr:∀ (xs:aa Lf) (k:aa V -> aj X),pS σ ns xs k=some r -> ∃ C,k C=some r/\cA (λX k=>pS (X:=X) σ ns xs k) C
 |[],k,h=>⟨[],h,λX k=>rfl⟩
 | x :: xs,k,h=>by
  unfold pS at h;cases D:Nq ns x with
  |false=>grind
  | true=>
   rw[D]at h;obtain⟨y,E,I⟩:=Ec h;obtain⟨ys,J,L⟩:=Vr xs _ E;exact⟨_,J,λX k=>by
    simp[pS,D];exact(I.at_ _).trans (L.at_ _)⟩
def abK{x:A}{k:Pt -> aj X}(h:oB σ ns x k=some r):∃ p,k p=some r/\cA (λX k=>oB (X:=X) σ ns x k) p:=by
 unfold oB at h;split at h
 next y=>obtain⟨C,D,E⟩:=Vr _ _ h;exact⟨_,D,λX k=>E X (λC=>k _)⟩
 next ys=>obtain⟨C,D,E⟩:=Vr _ _ h;exact⟨_,D,λX k=>E X _⟩
 ·exact⟨_,h,λX k=>rfl⟩
 ·rename_i f J j;cases I:cu J ns with
  |true=>simp_all
  | false=>
   rw[I]at h;split at h
   ·rename_i cs L;split at h
    next c C O=>exact⟨_,h,λX k=>by simp[oB,I,aq,L,O]⟩
    ·cases h
   ·cases h
 ·cases h
def BF:∀ (ps:aa PK) (xs:aa Operand) (C:aa Mu) (k:kP ps -> aj X),iD σ ns ps xs C k=some r -> ∃ x,k x=some r/\cA (λX k=>iD (X:=X) σ ns ps xs C k) x
 |[],[],[],k,h=>⟨(),h,λX k=>rfl⟩
 | .v b t :: ps,x :: xs,C,k,h=>by
  unfold iD at h;obtain⟨p,D,L⟩:=abK h;cases hb:p.1==b with
  |false=>rw[hb]at D;cases D
  | true=>
   rw[hb,ak]at D;split at D
   ·rename_i y E;obtain⟨ys,I,J⟩:=BF ps xs C _ D;exact⟨_,I,λX k=>by
     show oB σ ns _ _=_;refine(L.at_ _).trans ?_;rw[hb,E];exact J.at_ _⟩
   ·cases D
 | .p t g off :: ps,x :: xs,.aB O cs Q :: C,k,h=>by
  unfold iD at h;split at h
  ·rename_i y E;obtain⟨ys,I,J⟩:=BF ps xs C _ h;exact⟨_,I,λX k=>by
    simp[iD,E];exact J.at_ _⟩
  ·cases h
 | .s t g :: ps,x :: xs,.sl q T :: C,k,h=>by
  unfold iD at h;split at h
  ·rename_i y E;obtain⟨ys,I,J⟩:=BF ps xs C _ h;exact⟨_,I,λX k=>by
    simp[iD,E];exact J.at_ _⟩
  ·cases h
 |[],[],_::_,k,h=>by cases h
 |[],_::_,_,k,h=>by cases h
 |.v _ _::_,[],_,k,h=>by cases h
 |.p _ _ _::_,[],_,k,h=>by cases h
 |.s _ _::_,[],_,k,h=>by cases h
 |.p _ _ _::_,_::_,[],k,h=>by cases h
 |.s _ _::_,_::_,[],k,h=>by cases h
 |.p _ _ _::_,_::_,.sl _ _::_,k,h=>by cases h
 |.s _ _::_,_::_,.aB _ _ _::_,k,h=>by cases h
def abL{D:aj Tmp}{E:gp}{k:S -> aj X}(h:mX N σ D E k=some r):∃ I,k I=some r/\cA (λX k=>mX (X:=X) N σ D E k) I:=by
 unfold mX at h;cases D with
 |none=>exact⟨σ,h,λX k=>rfl⟩
 | some d=>
  have h:(bif Nat.blt d N then _ else none)=some r:=h;cases C:Nat.blt d N with
  |false=>rw[C]at h;cases h
  | true=>
   rw[C,ak]at h;cases E with
   | one p=>
    simp only at h;split at h
    next y J=>exact⟨_,h,λX k=>by simp[mX,C,ak,J]⟩
    ·cases h
   |cQ ps=>exact⟨_,h,λX k=>by simp[mX,C,ak]⟩
def Vs{J:aj Tmp}{c:nR}{args:aa Operand}{k:S -> aj X}(h:mq N σ J c args k=some r):∃ D,k D=some r/\cA (λX k=>mq (X:=X) N σ J c args k) D:=by
 unfold mq at h;split at h
 ·rename_i E L;cases I:(once (kQ 0 E)&&Nat.ble E.length 40)with
  |false=>rw[I]at h;cases h
  | true=>
   rw[I,ak]at h;obtain⟨x,C,O⟩:=BF _ _ _ _ h;split at C
   ·rename_i y Q;unfold zo at C;generalize T:Bp N E (jb (eO c.ps) y.2) _=ok at C;cases ok with
    |false=>cases C
    | true=>
     rw[ak]at C;obtain⟨D,U,Y⟩:=abL C;exact⟨D,U,λX k=>by
      simp[mq,L,I];refine(O X _).trans ?_;simp[Q,zo,T];exact Y.at_ _⟩
   ·cases C
 ·cases h
def anP{F:aa Int -> aj Int}{x:A}{k:S -> aj X}(h:BA N σ d F x k=some r):∃ C,k C=some r/\cA (λX k=>BA (X:=X) N σ d F x k) C:=by
 unfold BA at h;split at h
 ·cases D:Nat.blt d N with
  |false=>simp_all
  | true=>
   rw[D]at h;split at h
   next z E=>exact⟨_,h,λX k=>by simp[BA,D,ak,E]⟩
   ·cases h
 ·cases h
def anQ{f:Nat}{x:Operand}{args:Array Operand}{O:Array TypeId}{F:aa Int -> aj Int}{k:S -> aj X}(ho:o.op = .call { callee:=.value (.func f),args,argTypes:=O })(hx:args.toList=[x])(hd:o.dst=some d)(he:enters P f)(hc:NJ P f F)(h:BA N σ d F (aI σ x) k=some r):
  ∃T,k T=some r/\l8 P w0 N o σ T:=by
 unfold BA at h;split at h
 ·rename_i q l hq;cases E:Nat.blt d N with
  |false=>rw[E]at h;cases h
  | true=>
   rw[E,ak]at h;have D2:d<N:=cI E;split at h
   ·rename_i U hhz
    refine⟨_,h,λa w K Q hR hK=>?_⟩
    obtain⟨ah,ρ,hR⟩:=hR;have I:=hR.aI x;rw[hq]at I;have HP:RV w w.heap.size (λ_=>none) [] (.sl .u8 0 false l) (a.eval x):=by
     have Y:RV w w.heap.size (λ_=>none) [] (.sl .u8 0 q l) (a.eval x):=I.2.gL;cases q with
     |false=>exact Y
     |true=>exact Y.wk (.q _ _ _)
    unfold Oper.wp;rw[Nk w o a f args O ho he,Oper.upon_enter];have wP:(args.map a.eval) = #[a.eval x]:=by apply Array.ext';rw[Array.toList_map,hx];rfl
    rw[wP]
    refine(hc w l _ _ hhz HP (w0.on hR.below (λ_ _ h=>by cases h))).mono λe w' rL=>?_
    obtain⟨b,off,cells,t,rfl,J,hb,Z,tS,HQ,nL⟩:=rL;have hB:=hR.below.size;have me:b<w'.heap.size:=(gd.1 Z).1;have sP:Rl w0 N (bV ah b (some [1000000000100000+1000*d])) ρ σ a w':=by
     refine hR.grow J (λc L=>cF _ _ _ (by omega)) (λc k L D=>?_)
     by_cases e:c=b
     ·subst e;rw[cg]at D;injection D with D
      grind
     ·rw[cF _ _ _ e]at D;have:=(hR.cX c k D).2.1;omega
    have oD:=sP.new (d:=1000000000100000+1000*d) (x:=.aB [.v (.sl .u8 0 q l),.v (.int .i64 0),.v (.int .i64 U)]) (.aB b off) (by
     refine .aB b off cells t _ (λj=>(#[a.eval x,.int .i64 0,.int .i64 U]:Array Value).getD j undef) (cg _ _ _) (cg _ _ _) Z (by
      have:=(gd.1 nL).1;simp;omega) (λj y C=>?_)
     have Hl:dy w' w0.heap.size (bV ah b (some [1000000000100000+1000*d])) (bV ρ (1000000000100000+1000*d) (.aB b off)) (.v (.sl .u8 0 q l)) (a.eval x):=by
      refine⟨rfl,I.2.gk J.size (λc L=>⟨J.block c L,cF _ _ _ (by omega)⟩)⟩
     match j,C with
     |0,C=>simp at C;subst C;exact⟨tS,Hl⟩
     |1,C=>simp at C;subst C;exact⟨HQ,rfl,.int _ _ _⟩
     |2,C=>simp at C;subst C;exact⟨nL,rfl,.int _ _ _⟩
     |j+3,C=>simp at C) (hR.di _ (.inr (by omega)))
    rw[hd];exact hK _ _ ⟨_,_,oD.set ⟨b,off,cg _ _ _,rfl⟩ D2⟩
   ·cases h
 ·cases h
def anR{f:Nat}{args:Array Operand}{L:Array TypeId}{c:BB}{k:S -> aj X}(Z:o.op = .call { callee:=.value (.func f),args,argTypes:=L })(hd:o.dst=some d)(he:enters P f)(hc:NK P f c)(h:BE N σ d c args.toList k=some r):∃ O,k O=some r/\l8 P w0 N o σ O:=by
 unfold BE at h;cases T:Nat.blt d N with
 |false=>grind
 | true=>
  rw[T,ak]at h;have D2:d<N:=by have:=cI T;omega
  obtain⟨ps,E,mV⟩:=Ut (w0:=w0) (N:=N) _ _ h;split at E
  ·rename_i p hp;split at E
   ·rename_i t g q l hl;split at E
    ·rename_i mg;cases hb:(Nat.blt g 2&&Nat.ble p.1 p.2&&Nat.ble p.2 l.length)with
     |false=>grind
     | true=>
      rw[hb,ak]at E;rw[aM,aM]at hb;have U:g<2:=by have:=cI hb.1.1;omega
      have ke:=cI hb.1.2;have h2l:=cI hb.2
      refine⟨_,E,λa w K Q hR hK=>?_⟩
      obtain⟨ah,ρ,hR⟩:=hR;unfold Oper.wp;rw[Nk w o a f args L Z he,Oper.upon_enter];have wP:(args.map a.eval)=(args.toList.map a.eval).toArray:=by apply Array.ext';rw[Array.toList_map]
      rw[wP]
      refine(hc ps p hp w _ (mV ah ρ a w hR) (w0.on hR.below (λ_ _ h=>by cases h))).mono λe w' rL=>?_
      obtain⟨A,n,cap,C,hle,hn,rfl,J⟩:=rL;have mS:RV w w0.heap.size ah [] (.sl t g q l) (.slice A n cap):=by
       unfold abJ at hl;split at hl
       ·rename_i x hx;have hev:((args.toList.map a.eval).toArray)[c.a]?=some (a.eval x):=by
         rw[List.getElem?_toArray,dw,hx];rfl
        unfold tW at C;rw[hev]at C;have D:=hR.aI x;split at hl
        next cs kj=>rw[kj]at D;obtain⟨us,mR,Vt⟩:=D;rw[mR]at C;obtain⟨u,I,hr⟩:=Vt.2 _ _ hl;simp only at C;rw[C]at I;injection I with I;subst I;exact hr.2
        ·rename_i lf wO;rw[wO]at D;cases hj:Nat.beq c.j 0 with
         |false=>grind
         | true=>
          rw[hj]at hl C;injection hl with hl;subst hl;have D:dy w w0.heap.size ah ρ (.v (.sl t g q l)) (a.eval x):=D;have Y:∀ us,a.eval x ≠ .agg us:=by
           intro us e;rw[e]at D;cases D.2
          generalize a.eval x=z at C D Y;cases z<;>first|exact absurd rfl (Y _)|(simp only[ak,iy]at C;cases C;exact D.2)|(simp only[ak,iy]at C;cases C)
        ·cases hl
       ·cases hl
      obtain⟨Vu,DZ,Up⟩:=mS.part (a:=p.1) (h:=p.2) U ke h2l;subst mg;rw[hd];have gM:=hR.grow J (aE:=ah) (λ_ _=>rfl) (λb k hb hk=>absurd (hR.cX b k hk).2.1 (Nat.not_lt.2 hb));refine hK _ _ ⟨ah,ρ,gM.set ⟨by simp[V.aF,U],?_⟩ D2⟩;exact Vu.gk J.size λb hb=>⟨J.block b hb,rfl⟩
    ·cases E
   ·cases E
  ·cases E
def anS{c:BB}{args:aa Operand}{k:S -> aj X}(h:BE N σ d c args k=some r):∃ D,k D=some r/\cA (λX k=>BE (X:=X) N σ d c args k) D:=by
 unfold BE at h;cases E:Nat.blt d N with
 |false=>simp_all
 | true=>
  rw[E,ak]at h;obtain⟨ps,C,I⟩:=Vi _ _ h;split at C
  ·rename_i p J;split at C
   ·rename_i t g q l hl;split at C
    ·rename_i L;cases hb:(Nat.blt g 2&&Nat.ble p.1 p.2&&Nat.ble p.2 l.length)with
     |false=>simp_all
     | true=>
      rw[hb]at C
      refine⟨_,C,λX k=>?_⟩
      simp[BE,E];exact(I.at_ _).trans (by simp[J,hl,br L,hb,ak])
    ·cases C
   ·cases C
  ·cases C
/-! Calls of functions that are run in the state of their caller. -/
def Ee{X:Type}(N:Nat)(σ:S)(C:aj Tmp)(c:tX)(xs:aa A)(k:S->aj X):aj X:=c.run X N σ xs λD y=>iB N D C y k
def anT(p:Nat×Nat):A:=.aG p.1 p.2
def HR(σ:S):aa Operand->aj (aa (Nat×Nat))
 |[]=>some []
 | x :: xs=>match aI σ x,HR σ xs with
  |.aG r j,some ps=>some ((r,j)::ps)
  |_,_=>none
def anU(w:World)(o:Oper)(a:Act)(f:Nat)(cl:Operand)(C:Array Value)(args:Array Operand)(E:Array TypeId)(I:o.op = .call { callee:=.value cl,args,argTypes:=E })(J:a.eval cl = .func (.func f) #[] C)(L:enters P f):
  (execOp a.eval o).run P w = .ok (.enter f (args.map a.eval++C)) w:=by
 obtain⟨fn,O,Q,D⟩:=L;have T:¬ fn.name = "runtime.NumGoroutine":=by simpa using Q
 have U:¬ fn.body=none:=by intro e;rw[e]at D;cases D
 simp[execOp,I,resolve,J,Deferred.ofValue,invoke,callFunc,Sem.run,O,T,U]
def NL:A->aj (Nat×aa A)
 |.fn f cap=>some (f,cap.map anT)
 |.kO f cs=>some (f,[.hJ cs])
 |_=>none
def anV{x:A}{f:Nat}{ex:aa A}{u:Value}(h:NL x=some (f,ex))(L:RA w B ah ρ x u):∃ D:Array Value,u = .func (.func f) #[] D/\D.size=ex.length /\ ∀ (j:Nat) y,ex[j]?=some y -> RA w B ah ρ y (D.getD j undef):=by
 unfold NL at h;split at h
 ·rename_i U cap;injection h with h;injection h with E I;subst E I;obtain⟨D,O,Q,T⟩:=L
  refine⟨D,O,by simp[Q],λj y C=>?_⟩
  rw[dw]at C;cases J:cap[j]? with
  |none=>simp_all
  | some p=>
   rw[J]at C;injection C with C;subst C;obtain⟨b,off,E,I⟩:=T _ p J;rw[iu,I];exact⟨b,off,E,rfl⟩
 ·injection h with h;injection h with E I;subst E I;obtain⟨pv,e,J⟩:=L
  refine⟨#[pv],e,rfl,λj y C=>?_⟩
  rcases j with _|j
  ·injection C with C;subst C;exact J
  ·cases C
 ·cases h
def abM{f:Nat}{cl:Operand}{ex:aa A}{args:Array Operand}{T:Array TypeId}{c:tX}{k:S -> aj X}(ho:o.op = .call { callee:=.value cl,args,argTypes:=T })(sK:NL (aI σ cl)=some (f,ex))(he:enters P f)(hc:qI P f c)
  (h:Ee N σ o.dst c (args.toList.map (aI σ)++ex) k=some r):∃U,k U=some r/\l8 P w0 N o σ U:=by
 unfold Ee at h
 haveI:Inhabited Wd:=⟨w0⟩
 obtain⟨Y,y,C,_,Hv⟩:=hc _ _ _ _ _ _ h;have step:∀ a w K Q,R w0 N σ a w -> (∀ v w' aE ρ',Rl w0 N aE ρ' Y a w' -> RA w' w0.heap.size aE ρ' y v -> K (a.put o.dst v) w') -> o.wp P a w K Q:=by
  intro a w K Q hR D;obtain⟨ah,ρ,hR⟩:=hR;obtain⟨I,hv,hs,l9⟩:=anV sK (hR.aI cl);unfold Oper.wp;rw[anU w o a f cl I args T ho hv he,Oper.upon_enter]
  refine(Hv w0 ah ρ a w _ hR (by simp[hs]) λi=>?_).mono λe w' rL=>?_
  ·by_cases hi:i<args.size
   ·have e1:(args.toList.map (aI σ)++ex)[i]?=some (aI σ args[i]):=by
     rw[List.getElem?_append_left (by simpa using hi),dw,oc,Array.getElem?_eq_getElem hi];rfl
    have J:(args.map a.eval++I).getD i undef=a.eval args[i]:=by
     rw[iu,Array.getElem?_append_left (by simpa using hi)];simp[hi]
    rw[e1,J];exact hR.aI _
   ·have e0:(args.toList.map (aI σ)++ex)[i]?=ex[i-args.size]?:=by
     rw[List.getElem?_append_right (by simp;omega)];simp
    rw[e0];cases hp:ex[i-args.size]? with
    |none=>trivial
    | some p=>
     have J:(args.map a.eval++I).getD i undef=I.getD (i-args.size) undef:=by
      rw[iu,Array.getElem?_append_right (by simp;omega),iu];simp
     rw[J];exact l9 _ p hp
  ·obtain⟨v,aE,ρ',rfl,E,L⟩:=rL;exact D v w' aE ρ' E L
 unfold iB at C;split at C
 ·rename_i O
  refine⟨Y,C,λa w K Q hR D=>step a w K Q hR λv w' aE ρ' E _=>?_⟩
  rw[O];exact D _ _ ⟨aE,ρ',E⟩
 ·rename_i d O;cases Z:Nat.blt d N with
  |false=>grind
  | true=>
   rw[Z]at C
   refine⟨_,C,λa w K Q hR D=>step a w K Q hR λv w' aE ρ' E L=>?_⟩
   rw[O];exact D _ _ ⟨aE,ρ',E.set L (by have:=cI Z;omega)⟩
def abN:∀ (xs:aa Operand) (ps:aa (Nat×Nat)),HR σ xs=some ps -> ps.length=xs.length /\ ∀ ah ρ a w,Rl w0 N ah ρ σ a w -> ∀ (j:Nat) p,ps[j]?=some p -> ∃ b off,ρ p.1 = .aB b off/\(xs.map a.eval)[j]?=some (.pointer (some ⟨b,off+p.2,none⟩))
 | [],ps,h=>by
  simp only[HR,iy]at h;simp_all
 | x :: xs,ps,h=>by
  unfold HR at h;split at h
  ·rename_i rr j I J L;injection h with h;subst h;obtain⟨O,Q⟩:=abN xs I L
   refine⟨by simp[O],λah ρ a w hR C p D=>?_⟩
   cases C with
   | zero=>
    simp at D;subst D;have E:=hR.aI x;rw[J]at E;obtain⟨b,off,T,U⟩:=E;simp_all
   |succ C =>grind
  ·cases h
end
def A.zx(q s n:Nat):A->A
 |.lf (.own [C])=>bif Nat.beq C q then .view [q] s 0 n else .lf (.own [C])
 |x=>x
def S.zx(σ:S)(p:Nat×Nat×Nat):S:=⟨λk=>(σ.t k).zx p.1 p.2.1 p.2.2,σ.m⟩
def Vv:aa (Nat×Nat×Nat)->S->S
 |[],σ=>σ
 |p::l,σ=>Vv l (σ.zx p)
def Vw(c0 g:Nat):Mu->aa (Nat×Nat×Nat)
 |.sl q (.sl t _ _ l)=>bif Nat.ble 1000000 g&&Nat.blt q c0 then [(q,aD t,l.length)]else []
 |_=>[]
def HS(c0:Nat):aa PK->aa Mu->aa (Nat×Nat×Nat)
 |.v _ _::ps,C=>HS c0 ps C
 |.p _ _ _::ps,_::C=>HS c0 ps C
 |.s _ g::ps,D::C=>Vw c0 g D++HS c0 ps C
 |_,_=>[]
def BG{X:Type}(N:Nat)(σ:S)(C:aj Tmp)(c:nR)(args:aa Operand)(k:S->aj X):aj X:=
 match jz σ c.ps args with
 |some D=>mq N σ C c args λE=>k (Vv (HS (iE C) c.ps D) E)
 |none=>none
section
variable {P:Program} {w w':World} {w0:Wd} {B N:Nat} {ah dg aE:bG} {ρ eH ρ':Nat->Loc} {σ:S} {a:Act} {X:Type} {d:Nat} {r:X} {o:Oper}
def Rl.zx{p:Nat×Nat×Nat}{ad:aj Addr}{c:Nat}(h:Rl w0 N ah ρ σ a w)(E:ρ p.1 = .dI (.slice ad p.2.2 c)):Rl w0 N ah ρ (σ.zx p) a w:=by
 refine⟨h.below,h.cX,h.root,λk=>?_,h.size,h.defers,h.fix,h.di⟩
 have C:=h.tmp k;show RA _ _ _ _ ((σ.t k).zx p.1 p.2.1 p.2.2) _;generalize σ.t k=x at C;unfold A.zx;split
 ·rename_i I;cases hb:Nat.beq I p.1 with
  |false=>exact C
  | true=>
   obtain rfl:=ck hb;have D:=C.2;simp only[cH,E]at D;injection D with D;refine⟨ad,p.2.2,c,by simp[cH,E],iO _,eB _,?_⟩;rw[<- D];cases ad<;>simp[sliced,Addr.add]
 ·exact C
def abO:∀ (l:aa (Nat×Nat×Nat)) (σ:S),Rl w0 N ah ρ σ a w->(∀ p∈l,∃ A c,ρ p.1 = .dI (.slice A p.2.2 c))->Rl w0 N ah ρ (Vv l σ) a w
 |[],σ,h,_=>h
 | p :: l,σ,h,hl=>by
  obtain⟨A,c,C⟩:=hl p (.head _);exact abO l _ (h.zx C) λp C=>hl p (.tail _ C)
def anW{c0 g:Nat}{D:Mu}{p:Nat×Nat×Nat}(h:p∈Vw c0 g D):∃ q t o C l,D = .sl q (.sl t o C l)/\p=(q,aD t,l.length)/\q<c0:=by
 unfold Vw at h;split at h
 ·rename_i q t o C l;cases hb:(Nat.ble 1000000 g&&Nat.blt q c0)with
  |false=>simp_all
  | true=>
   rw[hb]at h;rw[aM]at hb;exact⟨q,t,o,C,l,rfl,oe.1 h,cI hb.2⟩
 ·cases h
def NM{c0:Nat}{p:Nat×Nat×Nat}:∀ (ps:aa PK) (C:aa Mu),p∈HS c0 ps C -> ∃ q t o D l,Mu.sl q (.sl t o D l)∈C/\p=(q,aD t,l.length)/\q<c0
 |.v _ _::ps,C,h=>NM ps C h
 |.p _ _ _::ps,J::C,h=>let ⟨q,t,o,D,l,I,E⟩:=NM ps C h;⟨q,t,o,D,l,.tail _ I,E⟩
 | .s _ g :: ps,J :: C,h=>by
  rcases List.mem_append.1 h with h|h
  ·obtain⟨q,t,o,D,l,rfl,E⟩:=anW h;exact⟨q,t,o,D,l,.head _,E⟩
  ·obtain⟨q,t,o,D,l,I,E⟩:=NM ps C h;exact⟨q,t,o,D,l,.tail _ I,E⟩
def RV.anX{q:aa Nat}{t:TC}{g:Nat}{C:Bool}{l:aa (T t)}{v:Value}(h:RV w B ah q (.sl t g C l) v):∃ A c,v = .slice A l.length c:=by
 cases h<;>exact⟨_,_,rfl⟩
def anY{f:Nat}{args:Array Operand}{O:Array TypeId}{c:nR}{k:S->aj X}(T:o.op = .call { callee:=.value (.func f),args,argTypes:=O })(U:enters P f)(Y:vg P f c)(h:BG N σ o.dst c args.toList k=some r):∃ E,k E=some r/\l8 P w0 N o σ E:=by
 unfold BG at h;split at h
 ·rename_i mus I;obtain⟨rS,NN,cn,Z,D,_,h4,h5⟩:=U5 (w0:=w0) T U Y h;rw[I]at D;injection D with D;subst D
  refine⟨_,Z,λa w K Q hR hK=>?_⟩
  obtain⟨ah,ρ,hR⟩:=hR
  refine h5 a w K Q ah ρ hR λv w' dg eH vm gM hv _ dz=>hK _ _ ⟨dg,vm,abO _ _ gM λp hp=>?_⟩
  obtain⟨q,t,oo,qn,l,J,rfl,hq⟩:=NM _ _ hp;have nS:=(Ns _ _ _ I _ J).1;have L:=hR.root q _ nS;generalize C:aZ.sl _=z at L;cases L with
  |aB=>cases C
  |mp=>cases C
  |gh=>cases C
  | sl u y Uw hr=>
   injection C with C;subst C;obtain⟨A,c,rfl⟩:=hr.anX;exact⟨A,c,(dz q hq).trans ((hv.eG q (h4 _ J)).trans Uw)⟩
 ·cases h
def anZ{D:aj Tmp}{c:nR}{args:aa Operand}{k:S -> aj X}(h:BG N σ D c args k=some r):∃ C,k C=some r /\ ∀ (X:Type) (k:S -> aj X),BG N σ D c args k=k C:=by
 unfold BG at h;split at h
 next L E=>obtain⟨C,I,J⟩:=Vs h;exact⟨_,I,λX k=>by simp[BG,E];exact J X _⟩
 ·cases h
end
def bG.un(ah:bG)(q:Nat):bG:=λb=>match ah b with
 |some k=>bif bL q k then none else some k
 |none=>none
def zy{X:Type}(P:Program)(σ:S)(q s i j:Nat)(t:TypeId)(x:A)(k:S->aj X):aj X:=
 match σ.m q with
 |some (.sl (.sl C (o+2) D l))=>bif Nat.beq s (aD C)&&Nat.beq (full C) 0 then nO P (σ.drop q) t (x.drop q) (.lf (.v (.sl C 0 false ((l.take j).drop i)))) k else none
 |_=>none
section
variable {P:Program} {w w':World} {w0:Wd} {B N:Nat} {ah aE:bG} {ρ ρ':Nat->Loc} {σ:S} {a:Act} {X:Type} {d q:Nat} {r:X} {o:Oper} {y:V}
def an0(C:∀ b,ah b≠some []):Rel q ah (ah.un q):=
 ⟨C,λb h=>by simp[bG.un,h],λb k h D=>by simp[bG.un,h,D]⟩
def RV.ice{C:TC}{g:Nat}{O:Bool}{l:aa (T C)}{A:aj Addr}{n c:Nat}(E:RV w B ah [q] (.sl C (g+2) O l) (.slice A n c))(Y:full C=0):RV w B (ah.un q) [] (.sl C 0 false l) (.slice A n c)/\n=l.length:=by
 cases E with
 |cS=>exact⟨.cS _ _ _,rfl⟩
 |cW=>grind
 |de=>grind
 |aF _ _ _ _ _ _ _ _ _ Z=>omega
 | own=>
  rename_i b cs u hl J hc E hs Q hm;have L:∀ (i:Nat) (h:i<l.length) (j:Nat) (x:V),(enc C 0 l[i])[j]?=some x -> (enc C g l[i])[j]?=some x/\x.plain=true:=by
   intro i h j x D;obtain⟨y,I,rfl⟩:=wz C g l[i] j x D;have U:=MP C g l[i] y (ga I);cases y with
   | sl t' o' q' l'=>
    have:=cI (show Nat.ble _ _=true from U);omega
   | nil=>
    have:=TO C g l[i] _ (ga I);cases this
   |_=>exact⟨I,rfl⟩
  refine⟨.aF _ _ _ _ _ b 0 c u (by omega) (by simp[bG.un,hl,bL]) (gd.1 J).1 (by omega) Q (λi h j x D=>?_) (λi h j x D=>?_),rfl⟩
  ·rw[fo,cell_of_row w b _ cs _ _ J];simp_all
  ·exact(E i h j x (L i h j x D).1).tL (L i h j x D).2
def an1{s i j:Nat}{t:TypeId}{x:A}{k:S -> aj X}(h:zy P σ q s i j t x k=some r):∃ E,k E=some r /\ ∀ ah ρ a w,Rl w0 N ah ρ σ a w -> ∀ u v,RA w w0.heap.size ah ρ x u -> RA w w0.heap.size ah ρ (.view [q] s i j) v ->
  ∃w' aE,(Instr.storeAt t u v).run P w = .ok () w'/\Rl w0 N aE ρ E a w':=by
 unfold zy at h;split at h
 ·rename_i I g U l Y;cases hb:(Nat.beq s (aD I)&&Nat.beq (full I) 0)with
  |false=>rw[hb]at h;cases h
  | true=>
   rw[hb,ak]at h;rw[aM]at hb;obtain rfl:=ck hb.1;have Z:=ck hb.2;obtain⟨E,h1,hs⟩:=aay (w0:=w0) (N:=N) h
   refine⟨E,h1,λah ρ a w hR u v hu hv=>?_⟩
   have J:Rel q ah (ah.un q):=an0 hR.wH;have sP:=hR.rel J (λb k C=>by
    unfold bG.un at C;cases hl:ah b with
    |none=>rw[hl]at C;cases C
    | some L=>
     rw[hl]at C;simp only at C;cases O:bL q L with
     |true=>rw[O]at C;cases C
     | false=>
      rw[O]at C;injection C with C;subst C;exact⟨⟨_,rfl⟩,(hR.cX b L hl).2.2⟩)
   obtain⟨A,n,c,Q,h3,h4,rfl⟩:=hv;have T:=hR.root q _ Y;generalize D:aZ.sl (.sl I (g+2) U l)=z at T;cases T with
   |aB=>cases D
   |mp=>cases D
   |gh=>cases D
   | sl vq y dz hr=>
    injection D with D;subst D;have hvq:vq = .slice A n c:=by
     simp only[cH,dz]at Q;injection Q
    subst hvq;obtain⟨h5,h6⟩:=hr.ice Z;have h7:=(h5.part (by omega) h3 (by omega)).1;obtain⟨w',ew,oD⟩:=hs _ _ _ _ sP u _ (hu.rel J) (show RA _ _ _ _ (.lf (.v _)) _ from ⟨rfl,h7⟩);exact⟨w',_,ew,oD⟩
 ·cases h
def an2{s i j:Nat}{t:TypeId}{x:A}{k:S -> aj X}(h:zy P σ q s i j t x k=some r):∃ C,k C=some r/\cA (λX k=>zy (X:=X) P σ q s i j t x k) C:=by
 unfold zy at h;split at h
 ·rename_i D g L l E;cases hb:(Nat.beq s (aD D)&&Nat.beq (full D) 0)with
  |false=>simp_all
  | true=>
   rw[hb]at h;obtain⟨C,I,J⟩:=abA h;exact⟨C,I,λX k=>by simp[zy,E,hb];exact J.at_ _⟩
 ·cases h
def zz{X:Type}(P:Program)(σ:S)(t:TypeId)(x lo hi C:A)(k:aj X):aj X:=
 match x,lo,hi,C with
 | .lf (.own q),.lf (.v (.int _ a)),.lf (.v (.int _ b)),.lf (.v (.int _ c))=>(match qy P t with
  | some e=>(match jv P e with
   | some _=>gn σ.m q λy=>(match y with
    |.sl _ _ _ l=>if 0<=a/\a<=b/\b<=c/\c<=(l.length:Int)then k else none
    |_=>none)
   |none=>none)
  |none=>none)
 |_,_,_,_=>none
def an3{t:TypeId}{x lo hi Q:A}{k:aj X}(h:zz P σ t x lo hi Q k=some r):k=some r /\
  ∀ah ρ a w,Rl w0 N ah ρ σ a w -> ∀u I J L,RA w w0.heap.size ah ρ x u -> RA w w0.heap.size ah ρ lo I -> RA w w0.heap.size ah ρ hi J -> RA w w0.heap.size ah ρ Q L -> ∃v,(Instr.sliceAt t u (some I) (some J) (some L)).run P w = .ok v w:=by
 unfold zz at h;split at h
 ·rename_i q kl a kh b km c;split at h
  ·rename_i e O;split at h
   ·rename_i n T;obtain⟨y0,Uq,C⟩:=sF q _ h;split at C
    ·rename_i tc g qn xs;split at C
     ·rename_i hb
      refine⟨C,λah ρ ac w hR u I J L U hl hh hm=>?_⟩
      rw[hl.2.gO,hh.2.gO,hm.2.gO];have Y:P.underlying t=some (.slice e):=by
       unfold qy at O;split at O
       ·grind
       ·cases O
      have Z:P.elem t=e:=by simp[Program.elem,Y]
      have abP:P.underlying t=some (.slice (P.elem t)):=by rw[Z];exact Y
      have hss:(sizeOf (P.elem t)).run P w = .ok n w:=by
       unfold jv at T;cases hi:P.info? e with
       |none=>grind
       | some i=>
        have:i.size=n:=by simpa [hi]using T
        simp[sizeOf,typeInfo,Z,hi,this]
      obtain⟨v0,HP,mh⟩:=Uq.ok hR.root;have fW:∃ D n c,u = .slice D n c:=by
       have:=U.1;cases u<;>first|cases this;done|exact⟨_,_,_,rfl⟩
      obtain⟨D,n',c',rfl⟩:=fW;have E:=U.2;rw[HP]at E;injection E with E;subst E;have hf:RV w 0 (λ_=>none) [] (.sl tc 0 qn xs) (.slice D n' c'):=mh.gL;obtain⟨_,DZ,Up⟩:=RV.part (w:=w) hf (a:=0) (h:=xs.length) (by omega) (by omega) (by omega);refine⟨sliced D a.toNat b.toNat c.toNat n,?_⟩;rw[run_sliceAt_slice w t _ _ _ _ abP,run_slice_lhm w t D n' c' abP kl kh km a b c hb.1 hb.2.1 hb.2.2.1 (by omega),hss];rfl
     ·cases C
    ·cases C
   ·cases h
  ·cases h
 ·cases h
end
section
variable {P:Program} (w:World)
end
section
variable {P:Program} {w w':World} {w0:Wd} {B N:Nat} {ah aE:bG} {ρ ρ':Nat->Loc} {σ:S} {a:Act} {X:Type} {d:Nat} {r:X}
end
def mA(l:aa (Int×Bool))(k:Int):Bool:=match l with
 |[]=>false
 |p::ps=>bif k==p.1 then p.2 else mA ps k
def mZ(l:aa (Int×Bool))(k:Int)(v:Bool):aa (Int×Bool):=match l with
 |[]=>[(k,v)]
 |p::ps=>bif k==p.1 then (k,v)::ps else p::mZ ps k v
def Ef(P:Program)(t:TypeId):Bool:=match P.underlying t with
 | some (.map k e)=>(match P.underlying k with
  |some (.int .i64)=>true
  |_=>false)&&(match zeroOf P e with
  |some (.bool false)=>true
  |_=>false)
 |_=>false
def NO{X:Type}(N:Nat)(σ:S)(d:Nat)(k:S->aj X):aj X:=iC N σ d (.mp []) (.pk d qw) k
def HT{X:Type}(P:Program)(σ:S)(t:TypeId)(x i:A)(k:A->aj X):aj X:=
 match x,i with
 | .pk r n,.lf (.v (.int .i64 key))=>bif Nat.beq n qw&&Ef P t then (match σ.m r with
  |some (.mp l)=>k (.lf (.v (.bool (mA l key))))
  |_=>none)else none
 |_,_=>none
def HU{X:Type}(P:Program)(σ:S)(t:TypeId)(x i v:A)(k:S->aj X):aj X:=
 match x,i,v with
 | .pk r n,.lf (.v (.int .i64 key)),.lf (.v (.bool b))=>bif Nat.beq n qw&&Ef P t then (match σ.m r with
  |some (.mp l)=>k ⟨σ.t,bV σ.m r (some (.mp (mZ l key b)))⟩
  |_=>none)else none
 |_,_,_=>none
section
variable {P:Program} {w w':World} {w0:Wd} {B N:Nat} {ah aE:bG} {ρ ρ':Nat->Loc} {σ:S} {a:Act} {X:Type} {d:Nat} {r:X} {o:Oper}
def abQ{t:TypeId}(h:Ef P t=true):∃ k e i,P.underlying t=some (.map k e)/\P.underlying k=some (.int .i64)/\P.info? e=some i/\i.zero=some (.bool false):=by
 unfold Ef at h;split at h
 ·rename_i k e D;rw[aM]at h;obtain⟨E,I⟩:=h;have J:P.underlying k=some (.int .i64):=by
   grind
  have C:zeroOf P e=some (.bool false):=by
   grind
  unfold zeroOf at C;cases hi:P.info? e with
  |none=>simp_all
  |some i =>grind
 ·cases h
def Rl.newObj{D:Obj}{x:aZ}{ρ':Nat -> Loc}(h:Rl w0 N ah ρ σ a w)(E:w0.F d=none)(I:∀ r,r≠d -> ρ' r=ρ r)
  (J:eM (w.alloc D) w0.heap.size (bV ah w.heap.size (some [d])) ρ' d x):Rl w0 N (bV ah w.heap.size (some [d])) ρ' ((σ.drop d).root d x) a (w.alloc D):=by
 refine h.yU E (jl.aaF w0 w _ h.below.size) ⟨by simp,λb hb _=>Below.heap_alloc w _ b hb,λb hb=>cF _ _ _ (by omega),λb hb=>(h.cX b [] hb).2.2 rfl⟩ (λb k hb C=>?_) I J
 by_cases e:b=w.heap.size
 ·subst e;rw[cg]at C;injection C with C;subst C;simp_all
 ·rw[cF _ _ _ e]at C;have:=(h.cX b k C).2.1;omega
def an4{t:TypeId}{k:S -> aj X}(h:NO N σ d k=some r):∃ C,k C=some r /\ ∀ ah ρ a w,Rl w0 N ah ρ σ a w -> ∃ w' aE ρ' v,(Instr.makeMap t none).run P w = .ok v w'/\Rl w0 N aE ρ' C (a.put (some d) v) w':=by
 obtain⟨D,h⟩:=pL h
 refine⟨_,h,λah ρ a w hR=>?_⟩
 have E:(Instr.makeMap t none).run P w = .ok _ _:=rfl
 refine⟨_,bV ah _ _,bV ρ d _,_,E,(hR.newObj (hR.di d (.inl D)) (λr I=>cF _ _ _ I) ?_).set ⟨w.heap.size,cg _ _ _,(TR _).symm⟩ D⟩
 exact .mp _ 0 #[] [] (cg _ _ _) (cg _ _ _) (heap_alloc_new w _) rfl
def an5{k:S->aj X}(h:NO N σ d k=some r):∃ C,k C=some r/\cA (λX k=>NO (X:=X) N σ d k) C:=by
 obtain⟨D,E⟩:=wX h;exact⟨_,D,E⟩
def BH(l:aa (Int×Bool)):aa (Value×Value):=l.map λp=>(.int .i64 p.1,.bool p.2)
def Vx:∀ (C:aa MapEntry) (l:aa (Int×Bool)) (k:Int) (n:Nat),C.map (λe=>(e.key,e.val))=BH l ->
  (Instr.findNow (.int .i64) (.int .i64 k) C n=some none/\mA l k=false /\ ∀v,mZ l k v=l++[(k,v)]) \/
  (∃i b,Instr.findNow (.int .i64) (.int .i64 k) C n=some (some (n+i,.bool b))/\mA l k=b /\ ∃h:i<C.length,C[i].key = .int .i64 k /\ ∀v,BH (mZ l k v)=(C.modify i λe=>{ e with key:=.int .i64 k,val:=.bool v }).map (λe=>(e.key,e.val)))
 |[],[],k,n,_=>.inl ⟨rfl,rfl,λv=>rfl⟩
 |[],_::_,k,n,h=>by cases h
 |_::_,[],k,n,h=>by cases h
 | e :: C,p :: l,k,n,h=>by
  have h:(e.key,e.val) :: C.map (λe=>(e.key,e.val))=(.int .i64 p.1,.bool p.2) :: BH l:=h;injection h with Q J;injection Q with L T;have D:Instr.sameNow (.int .i64) (.int .i64 k) e.key=some (k==p.1):=by
   rw[L];simp[Instr.sameNow]
  cases hb:(k==p.1)with
  | true=>
   have U:k=p.1:=by simpa using hb
   refine .inr ⟨0,p.2,?_,by simp only[mA,hb,ak],by simp,by simp[L,U],λv=>?_⟩
   ·simp only[Instr.findNow,D,hb,T];rfl
   ·simp only[mZ,hb];simp;show _::BH l=_;rw[J]
  | false=>
   rcases Vx C l k (n+1) J with ⟨O,E,I⟩|⟨i,b,O,E,hi,I,a4⟩
   ·refine .inl ⟨?_,by simp[mA,hb,aq,E],λv=>by simp only[mZ,hb,I];rfl⟩
    simp[Instr.findNow,D,hb];exact O
   ·refine .inr ⟨i+1,b,?_,by simp only[mA,hb,aq,E],by simpa using hi,by simpa using I,λv=>?_⟩
    ·simp[Instr.findNow,D,hb]
     grind
    ·simp only[mZ,hb];simp;show _ :: BH _=_
     grind
def NP{kt:TypeId}{k:Int}{C:aa MapEntry}{z:aj (Nat×Value)}(D:P.underlying kt=some (.int .i64))(h:Instr.findNow (.int .i64) (.int .i64 k) C 0=some z):(Instr.findKey kt (.int .i64 k) C).run P w = .ok z w:=by
 unfold Instr.findKey;simp only[fq,gT D,kL,h];rfl
def abR{t:TypeId}{x i:A}{k:A -> aj X}(h:HT P σ t x i k=some r):∃ v,k v=some r/\cA (λX k=>HT (X:=X) P σ t x i k) v /\ ∀ ah ρ a w,Rl w0 N ah ρ σ a w -> ∀ u z,RA w w0.heap.size ah ρ x u -> RA w w0.heap.size ah ρ i z ->
  ∃y,(Instr.lookup t u z false).run P w = .ok y w/\RA w w0.heap.size ah ρ v y:=by
 unfold HT at h;split at h
 ·rename_i rr n key;cases hb:(Nat.beq n qw&&Ef P t)with
  |false=>grind
  | true=>
   rw[hb,ak]at h;split at h
   ·rename_i l J
    refine⟨_,h,λX k=>by simp only[HT,hb,ak,J],λah ρ a w hR u z T D=>?_⟩
    rw[aM]at hb;obtain⟨kt,U,ti,Y,E,hi,Z⟩:=abQ hb.2;have hn:=ck hb.1;subst hn;obtain⟨b,dz,rfl⟩:=T;have D:z = .int .i64 key:=by
     have h2:=D.2;cases h2;rfl
    subst D;have L:=hR.root rr _ J;generalize C:aZ.mp l=y at L;cases L with
    |aB=>cases C
    |sl=>cases C
    |gh=>cases C
    | mp b' c es l' O hl hh NQ=>
     injection C with C;subst C;rw[dz]at O;injection O with e1 _;subst e1;refine⟨.bool (mA l key),?_,rfl,.bool _ _⟩;rw[TR];unfold Instr.lookup;simp only[fq,gT Y,kL,MapKept.run_getObj_map hh,Sem.run_pure];rw[MapKept.run_checkKey (k:=.int .i64 key) E rfl];simp only[kL];rcases Vx es.toList l key 0 NQ with ⟨I,Q,_⟩|⟨i,v,I,Q,_⟩
     ·rw[NP E I];have DU:(zeroValue U).run P w = .ok (.bool false) w:=by simp[zeroValue,typeInfo,hi,Z]
      simp_all
     ·rw[NP E I];simp only[ Q,fq];rfl
   ·cases h
 ·cases h
def abS{t:TypeId}{x i v:A}{k:S -> aj X}(h:HU P σ t x i v k=some r):∃ L,k L=some r/\cA (λX k=>HU (X:=X) P σ t x i v k) L /\ ∀ ah ρ a w,Rl w0 N ah ρ σ a w -> ∀ u z y,RA w w0.heap.size ah ρ x u -> RA w w0.heap.size ah ρ i z -> RA w w0.heap.size ah ρ v y ->
  ∃w',(Instr.mapUpdate t u z y).run P w = .ok () w'/\Rl w0 N ah ρ L a w':=by
 unfold HU at h;split at h
 ·rename_i rr n key O;cases hb:(Nat.beq n qw&&Ef P t)with
  |false=>grind
  | true=>
   rw[hb,ak]at h;split at h
   ·rename_i l hm
    refine⟨_,h,λX k=>by simp only[HU,hb,ak,hm],λah ρ a w hR u z y hu Q C=>?_⟩
    rw[aM]at hb;obtain⟨kt,et,ti,ht,T,hi,hz0⟩:=abQ hb.2;have hn:=ck hb.1;subst hn;obtain⟨b,dz,rfl⟩:=hu;have Q:z = .int .i64 key:=by
     have U:=Q.2;cases U;rfl
    subst Q;have C:y = .bool O:=by
     have U:=C.2;cases U;rfl
    subst C;have gP:=hR.root rr _ hm;generalize D:aZ.mp l=y at gP;cases gP with
    |aB=>cases D
    |sl=>cases D
    |gh=>cases D
    | mp b' c es l' jN hl J NQ=>
     injection D with D;subst D;rw[dz]at jN;injection jN with e1 _;subst e1;have Vm:b<w.heap.size:=(gd.1 J).1;have Ny:∀ (E:Array MapEntry) (I:Nat),E.toList.map (λe=>(e.key,e.val))=BH (mZ l key O) -> Rl w0 N ah ρ ⟨σ.t,bV σ.m rr (some (.mp (mZ l key O)))⟩ a { w with heap:=w.heap.setIfInBounds b (.map E I) }:=by
      intro E I an6;have Y:uV w { w with heap:=w.heap.setIfInBounds b (.map E I) } b:=by
       refine⟨by simp,rfl,rfl,rfl,λk hk=>?_⟩
       show _[k]?=_;rw[Array.getElem?_setIfInBounds_ne (Ne.symm hk)]
      have hC:ru w { w with heap:=w.heap.setIfInBounds b (.map E I) } ah ρ:=by
       intro k ad v ha hv fW;obtain⟨j',i',s',q,rfl,hq,_,_,hh'⟩:=wA k ad ha;have eU:ad.block≠b:=by
        grind
       exact(kJ (Y.block _ eU)).trans hv
      refine hR.wrote Y hl hC λr' y C=>?_
      by_cases Z:r'=rr
      ·subst Z;rw[cg]at C;injection C with C;subst C;refine .mp b I E _ dz hl ?_ an6;simp_all
      ·rw[cF _ _ _ Z]at C;exact(hR.root r' y C).wrote Y hl hC (TV Z)
     rw[TR];unfold Instr.mapUpdate;simp only[fq,gT ht,kL,MapKept.run_getObj_map J,Sem.run_pure];rw[MapKept.run_checkKey (k:=.int .i64 key) T rfl];simp only[kL];rcases Vx es.toList l key 0 NQ with ⟨a1,a2,a3⟩|⟨i,v,a1,a2,HK,a3,a4⟩
     ·rw[NP T a1];simp;rw[MapKept.run_setObj_map _ J];refine⟨_,rfl,Ny _ _ ?_⟩;rw[a3];simp only[Array.toList_push,lZ,NQ,BH];rfl
     ·rw[NP T a1];simp only[kL,fo];have Vd:(es[i]?.map (·.key)).getD (.int .i64 key) = .int .i64 key:=by
       grind
      rw[Vd];have lJ:(Instr.keyThatStays (.int .i64 key) (.int .i64 key)).run P w = .ok (.int .i64 key) w:=by
       unfold Instr.keyThatStays;simp[Instr.sameBits]
      simp only[fq];rw[lJ];simp only[kL];rw[MapKept.run_setObj_map _ J];refine⟨_,rfl,Ny _ _ ?_⟩;rw[a4];simp
   ·cases h
 ·cases h
end
def HV(t:TypeId)(d:Nat)(x:Operand):Bool:=[(55,26,22)].any λ(p:Nat×Nat×Nat)=>Nat.beq p.1 t&&Nat.beq p.2.1 d&&(match x with
 |.tmp n=>Nat.beq n p.2.2 ||Nat.beq p.2.2 1000000
 |_=>false)
def BI(C:aj Tmp)(t:TypeId)(x:Operand):Bool:=match C with
 |some d=>HV t d x
 |none=>false
def BJ{X:Type}(P:Program)(N:Nat)(σ:S)(d:Nat)(t:TypeId)(x y:A)(k:S->aj X):aj X:=
 match vb P t with
 | some (e,C)=>bif Nat.beq (full C) 0&&(zeroOf P e).any (λz=>Nat.beq z.cells.size (aD C))then qx σ y λD=>(match D.M4 C with
  |none=>none
  | some l2=>match x with
   | .lf (.own [r])=>(match σ.m r with
    |some (.sl (.sl E (o+2) true l))=>if h:E=C then (bif !jn l2&&bD (l.length+l2.length)then iC N σ d (.sl (.sl C (o+2) false ((h ▸ l)++l2))) (.lf (.own [d])) k else none)else none
    |_=>none)
   |_=>none)else none
 |none=>none
section
variable {P:Program} {w w':World} {w0:Wd} {B N:Nat} {ah aE:bG} {ρ ρ':Nat->Loc} {σ:S} {a:Act} {X:Type} {d:Nat} {r:X}
def Rl.an7{t e ty:TypeId}{C:TC}{i:TypeInfo}{z:Value}{rr o g:Nat}{qn:Bool}{l l2:aa (T C)}{u v:Value}{q':aa Nat}{Bx:Nat}{Ue:bG}(h:Rl w0 N ah ρ σ a w)(hF:w0.F d=none)(Y:P.underlying t=some (.slice e))(ht:tid C=e)(hi:P.info? e=some i)(Z:i.zero=some z)
  (Q:i.size=aD C) (lI:i.bytes <= 65536) (pN:z.cells.size=aD C) (hf:full C=0) (hd:RV w w0.heap.size ah [rr] (.sl C (o+2) true l) u) (hs:RV w Bx Ue q' (.sl C g qn l2) v) (eU:l2≠[]) (hlen:l.length+l2.length<1073741824):
  ∃E w' aE,(Builtin.append_ #[t,t] ty #[u,v]).run P w = .ok E w'/\Rl w0 N aE (bV ρ d (.dI E)) ((σ.drop d).root d (.sl (.sl C (o+2) false (l++l2)))) a w'/\mQ E=true:=by
 subst ht;obtain⟨xs,I,aB3,G5,jm⟩:=hd.aaI hf (B':=0) (λb _=>iO b);obtain⟨A,c,news,rfl,U,pO,G7⟩:=hs.reads hf;have gz:(l.length+l2.length)*i.bytes <= 140737488355328:=by
  have h1:(l.length+l2.length)*i.bytes <= 1073741824*65536:=Nat.mul_le_mul (by omega) lI;omega
 have tO:0<l2.length:=List.length_pos_iff.2 eU;obtain⟨E,w',ew,abU,hgr,me⟩:=SS (P:=P) w 0 t ty (tid C) i z (aD C) i.bytes Y hi Z Q rfl pN (pE C) u l.length xs I _ A l2.length c news U pO (by unfold maxLen;omega) gz (iO _);have G8:(l++l2).length=l.length+l2.length:=o8;have hex:∃ b,u = .slice (some ⟨b,0,none⟩) l.length l.length:=by
  cases hd with
  |aF _ _ _ _ _ _ _ _ _ ho=>omega
  |de _ _ _ _ _ ho=>omega
  |own _ _ _ _ _ b cap cs us hl hh hs hn hm hc hr=>exact⟨b,by rw[hm.2 rfl]⟩
 obtain⟨b,rfl⟩:=hex;obtain⟨J,L,rfl,_,kj⟩:=U.2 tO;have an8:∀ j x,news[j]?=some x -> w.cell? ((⟨J,L,none⟩:Addr).add j)=some x:=by
  intro j x hx;have My:(⟨J,L,none⟩:Addr).add j=⟨J,L+j,none⟩:=by unfold Addr.add;split<;>simp_all
  grind
 have abV:=run_append_grow (P:=P) w t ty (tid C) i z Y hi Z ⟨b,0,none⟩ l.length l.length xs (by rw[Q];exact I.1) (I.cells (g:=b) rfl) ⟨J,L,none⟩ l2.length c news (by rw[Q];exact U.1) an8 (by omega) (by omega) (growslice_fits (by omega) gz);rw[ew]at abV;injection abV with e1 e2;have hold:∀ k,k<w.heap.size -> w'.heap[k]?=w.heap[k]?:=by
  intro k D;rw[e2];exact heap_alloc_old _ _ D
 have hvb:E.ownBlock=some w.heap.size:=by rw[e1];rfl
 have dZ:w.heap.size<w'.heap.size:=by rw[e2];simp
 rw[<- G8]at abU;have Be:=jm.append G7 I.1;have fW:mQ E=true:=by rw[e1];rfl
 have O:Below 0 w w':=(Below.refl 0 w).grown hgr (iO _) (λ_ _=>iO _);have sL:jl w0 w w':=⟨O.os,O.tape,O.output,O.size,λk D hL=>hold k (kI D h.below.size)⟩
 refine⟨E,w',bV ah w.heap.size (some [d]),ew,h.yU hF sL ⟨hgr.size,λb hb _=>hold b hb,λb hb=>cF _ _ _ (by omega),λb hb=>(h.cX b [] hb).2.2 rfl⟩ (λb k hb D=>?_) (λr hr=>cF _ _ _ hr) (.sl E _ (cg _ _ _) (Ud abU Be (λb hb=>?_))),fW⟩
 ·by_cases e:b=w.heap.size
  ·subst e;rw[cg]at D;injection D with D
   grind
  ·rw[cF _ _ _ e]at D;have:=(h.cX b k D).2.1;omega
 ·rw[hvb]at hb;injection hb with hb;subst hb;exact cg _ _ _
def an9{t ty:TypeId}{x y:A}{k:S -> aj X}(h:BJ P N σ d t x y k=some r):∃ O,k O=some r /\ ∀ ah ρ a w,Rl w0 N ah ρ σ a w -> ∀ u v,RA w w0.heap.size ah ρ x u -> RA w w0.heap.size ah ρ y v ->
  ∃w' aE ρ' z,(Builtin.append_ #[t,t] ty #[u,v]).run P w = .ok z w'/\Rl w0 N aE ρ' O (a.put (some d) z) w':=by
 unfold BJ at h;split at h
 ·rename_i e Q Z;obtain⟨iY,ht,i,hi,gx,lI⟩:=yV Z;cases E:(Nat.beq (full Q) 0&&(zeroOf P e).any (λz=>Nat.beq z.cells.size (aD Q)))with
  |false=>grind
  | true=>
   rw[E,ak]at h;rw[aM]at E;have hf:=ck E.1;obtain⟨z,T,J⟩:=(Option.any_eq_true _ _).1 E.2;have J:=ck J;have pM:i.zero=some z:=by unfold zeroOf at T;simpa [hi]using T
   obtain⟨yv,M7,C⟩:=aaJ (w0:=w0) (N:=N) h;clear h;split at C
   ·cases C
   ·rename_i l2 mc;split at C
    ·rename_i rr;split at C
     ·rename_i t' o l hm;split at C
      ·rename_i mg;subst mg;cases I:(!jn l2&&bD (l.length+l2.length))with
       |false=>grind
       | true=>
        rw[I,ak]at C;rw[aM]at I;have eU:l2≠[]:=by rintro rfl;cases I.1
        have G9:l.length+l2.length<1073741824:=by simpa [bD]using I.2
        obtain⟨U,h3⟩:=pL C
        refine⟨_,h3,λah ρ a w hR u v hu hv=>?_⟩
        obtain⟨q',_,_,L⟩:=M7 ah ρ a w hR v hv;obtain⟨g,qn,L⟩:=Ug mc L;have Y:=hR.root rr _ hm;generalize D:aZ.sl (.sl t' (o+2) true l)=x at Y;cases Y with
        |aB=>cases D
        |mp=>cases D
        |gh=>cases D
        | sl uu y dz hr=>
         injection D with D;subst D;have G3:uu=u:=by
          have h4:=hu.2;simp only[cH,dz]at h4;simp_all
         subst G3;obtain⟨v',w',aE,ew,gM,fW⟩:=hR.an7 (ty:=ty) (d:=d) (hR.di d (.inl U)) iY ht hi pM gx lI J hf hr L eU G9;exact⟨w',aE,_,v',ew,gM.set ⟨fW,by simp[cH,cg]⟩ U⟩
      ·cases C
     ·cases C
    ·cases C
 ·cases h
def aoa{t:TypeId}{x y:A}{k:S -> aj X}(h:BJ P N σ d t x y k=some r):∃ I,k I=some r/\cA (λX k=>BJ (X:=X) P N σ d t x y k) I:=by
 unfold BJ at h;split at h
 ·rename_i e J L;cases D:(Nat.beq (full J) 0&&(zeroOf P e).any (λz=>Nat.beq z.cells.size (aD J)))with
  |false=>rw[D]at h;cases h
  | true=>
   rw[D,ak]at h;obtain⟨yv,C,O⟩:=Ve h;clear h;split at C
   ·cases C
   ·rename_i l2 Q;split at C
    ·rename_i rr;split at C
     ·rename_i t' o l T;split at C
      ·rename_i U;subst U;cases E:(!jn l2&&bD (l.length+l2.length))with
       |false=>rw[E]at C;cases C
       | true=>
        rw[E,ak]at C;obtain⟨Y,Z⟩:=wX C;exact⟨_,Y,λX k=>by
         simp[BJ,L,D];exact(O.at_ _).trans (by simp[Q,T,E];exact Z X k)⟩
      ·cases C
     ·cases C
    ·cases C
 ·cases h
def BM{X:Type}(P:Program)(N:Nat)(σ:S)(d:Nat)(t:TypeId)(x y:A)(k:S->aj X):aj X:=
 match x with
 |.view q s i j=>Bf P N σ d t (.view q s i j) y k
 |x=>BJ P N σ d t x y k
def aob{t ty:TypeId}{x y:A}{k:S->aj X}(h:BM P N σ d t x y k=some r):∃ C,k C=some r/\∀ ah ρ a w,Rl w0 N ah ρ σ a w->∀ u v,RA w w0.heap.size ah ρ x u->RA w w0.heap.size ah ρ y v->
  ∃w' aE ρ' z,(Builtin.append_ #[t,t] ty #[u,v]).run P w = .ok z w'/\Rl w0 N aE ρ' C (a.put (some d) z) w':=by
 unfold BM at h;split at h
 ·exact aml h
 ·exact an9 h
def aoc{t:TypeId}{x y:A}{k:S -> aj X}(h:BM P N σ d t x y k=some r):∃ C,k C=some r/\cA (λX k=>BM (X:=X) P N σ d t x y k) C:=by
 unfold BM at h;split at h
 ·obtain⟨C,D,E⟩:=amm h;exact⟨C,D,λX k=>by simp;exact E X k⟩
 ·obtain⟨C,D,E⟩:=aoa h;exact⟨C,D,λX k=>by simp[BM];exact E.at_ k⟩
end
end Go.Proofs.YtglnbhiaknohlaaGreat
