/-
  Running the program over pure contents, and that it follows (part 3). Nothing here is a claim.
-/
import Derived.Lib.AppendStr
import Derived.MapKept
import Derived.Test.YtjldnlbiefpekaaDoorV2
set_option linter.unusedSimpArgs false
namespace Go.Proofs.YtjldnlbiefpekaaDoor
open Go.RowKit
set_option linter.unusedVariables false
def dT:Nat:=89999
def j3(lab:aG)(k:List Nat):aG:=fun b=>match lab b with
 | some q=>bif k.isSuffixOf q then some (q.take (q.length-k.length)++[dT])else bif aD dT q then none else some q
 | none=>none
def BE(σ:S)(c:gE)(args:List Operand)(q:Nat):Bool:=match eY σ c.ps args with
 | some ak=>!aM q ((fT 0 ak).map (·.1))&&ak.any fun mu=>Nat.beq mu.root dT
 | none=>false
def s4{X:Type}(N:Nat)(σ:S)(dst:Option Tmp)(c:gE)(args:List Operand)(k:S->Option X):Option X:=
 match args with
 | .tmp t :: _=>(match σ.t t with
  | .lf (.own [j,i,s,q])=>(match σ.m q with
   | some (.sl (.sl tc (o+2) qn l))=>if s=aj tc then (if hi:i<l.length then (match (enc tc o l[i])[j]? with
    | some y=>bif Nat.ble N 20000&&Nat.ble 20000 q&&Nat.blt q 60000&&BE ((σ.aF [q,dT] [dT] [(dT,.sl y)]).set t (.lf (.own [dT]))) c args q then gF N ((σ.aF [q,dT] [dT] [(dT,.sl y)]).set t (.lf (.own [dT]))) dst c args fun τ=>(match τ.m dT with
      | some (.sl y')=>(match dec tc o (cL (enc tc o l[i]) j [y'])with
       | some e=>k ((τ.drop dT).root q (.sl (.sl tc (o+2) qn (l.set i e))))
       | none=>none)
      | _=>none)else none
    | none=>none)else none)else none
   | _=>none)
  | _=>none)
 | _=>none
section
variable {P:Program} {w w':World} {w0:Wd} {B N:Nat} {lab bE af:aG} {ρ ct ρ':Nat->Loc} {σ:S} {a:Act} {X:Type} {d:Nat} {r:X} {o:Oper} {K:List Nat}
theorem BF{b:Nat}(h:lab b=none):j3 lab K b=none:=by simp[j3,h]
theorem Tr{b:Nat}{p:List Nat}(h:lab b=some (p++K)):j3 lab K b=some (p++[dT]):=by
 have h1:K.isSuffixOf (p++K)=true:=List.isSuffixOf_iff_suffix.2 ⟨p,rfl⟩
 simp[j3,h,h1]
theorem FH{b:Nat}{k:List Nat}(h:lab b=some k)(h1:¬ K <:+ k)(h2:aD dT k=false):j3 lab K b=some k:=by
 have h1:K.isSuffixOf k=false:=by
  cases hk:K.isSuffixOf k with
  | false=>rfl
  | true=>exact absurd (List.isSuffixOf_iff_suffix.1 hk) h1
 simp[j3,h,h1,h2]
theorem RV.cut{k:List Nat}{x:V}{v:Value}(h:RV w B lab k x v):∀ p,k=p++K\/x.av=true->RV w B (j3 lab K) (p++[dT]) x v:=by
 induction h with
 | int=>exact fun _ _=>.int _ _ _
 | bool=>exact fun _ _=>.bool _ _
 | str=>exact fun _ _=>.str _ _
 | nil=>exact fun _ _=>.nil _
 | aY=>exact fun _ _=>.aY _ _ _
 | bn=>exact fun _ _=>.bn _ _ _ _ _ (by first | assumption | omega)
 | bF=>exact fun _ _=>.bF _ _ _ _ _ (by first | assumption | omega)
 | av k t o qn l b off cap u ho hl U h1 hcap hc hr ih=>
  exact fun p _=>.av _ _ _ _ _ _ _ _ u ho (BF hl) U h1 hcap hc (fun i h j x hx=>(ih i h j x hx [] (.inr (fP t o l[i] ho j x hx))).key (fP t o l[i] ho j x hx))
 | own k t o qn l b cap cs u hl hh hs hn hm hc hr ih=>
  intro p hp
  have hp:k=p++K:=by
   rcases hp with hp | hp
   ·exact hp
   ·simp[V.av]at hp;omega
  subst hp
  exact .own _ _ _ _ _ _ _ cs u (Tr hl) hh hs hn hm hc (fun i h j x hx=>ih i h j x hx (j :: i :: aj t :: p) (.inl rfl))
theorem RV.Ts{k:List Nat}{x:V}{v:Value}(h:RV w B lab k x v)(az:∀ b,lab b≠some [])(hk:((∀ p,¬ K <:+ p++k)/\aD dT k=false)\/x.av=true):RV w B (j3 lab K) k x v:=by
 induction h with
 | int=>exact .int _ _ _
 | bool=>exact .bool _ _
 | str=>exact .str _ _
 | nil=>exact .nil _
 | aY=>exact .aY _ _ _
 | bn=>exact .bn _ _ _ _ _ (by first | assumption | omega)
 | bF=>exact .bF _ _ _ _ _ (by first | assumption | omega)
 | av k t o qn l b off cap u ho hl U h1 hcap hc hr ih=>
  exact .av _ _ _ _ _ _ _ _ u ho (BF hl) U h1 hcap hc (fun i h j x hx=>ih i h j x hx (.inr (fP t o l[i] ho j x hx)))
 | own k t o qn l b cap cs u hl hh hs hn hm hc hr ih=>
  have hk:(∀ p,¬ K <:+ p++k)/\aD dT k=false:=by
   rcases hk with hk | hk
   ·exact hk
   ·simp[V.av]at hk;omega
  refine .own _ _ _ _ _ _ _ cs u (FH hl (hk.1 []) hk.2) hh hs hn hm hc (fun i h j x hx=>ih i h j x hx (.inl ⟨fun p=>?_,?_⟩))
  ·have:=hk.1 (p++[j,i,aj t])
   rwa [List.append_assoc]at this
  ·have yU:k≠[]:=by rintro rfl;exact az b hl
   rw[A8 yU]
   exact hk.2
theorem Rl.Tt{t:Nat}{x:A}(h:Rl w0 N lab ρ σ a w)(hx:RA w w0.heap.size lab ρ x (a.tmps.getD t undef)):Rl w0 N lab ρ (σ.set t x) a w:=by
 refine⟨h.below,h.bf,h.root,fun k=>?_,h.size,h.defers,h.fix,h.cB⟩
 show RA w w0.heap.size lab ρ (aH σ.t t x k) (a.tmps.getD k undef)
 by_cases hk:k=t
 ·subst hk
  rw[aJ]
  exact hx
 ·rw[aQ _ _ _ hk]
  exact h.tmp k
theorem Rl.Tu{q:Nat}{x:au}(h:Rl w0 N lab ρ σ a w)(hx:bP w w0.heap.size lab ρ q x):Rl w0 N lab ρ (σ.root q x) a w:=by
 refine⟨h.below,h.bf,fun r y hy=>?_,h.tmp,h.size,h.defers,h.fix,h.cB⟩
 have hy:aH σ.m q (some x) r=some y:=hy
 by_cases hr:r=q
 ·subst hr
  rw[aJ]at hy
  injection hy with hy
  subst hy
  exact hx
 ·rw[aQ _ _ _ hr]at hy
  exact h.root r y hy
theorem eD.Tv(h:Rl w0 N lab ρ σ a w):eD w0 w w:=⟨rfl,rfl,rfl,Nat.le_refl _,fun _ _ _=>rfl⟩
theorem Tw{f:Nat}{args:Array Operand}{bD:Array TypeId}{c:gE}{k:S->Option X}(ho:o.op = .call { callee:=.value (.func f),args,argTypes:=bD })(he:enters P f)(hc:nw P f c)(h:s4 N σ o.dst c args.toList k=some r):∃ aa,k aa=some r/\gz P w0 N o σ aa:=by
 unfold s4 at h
 split at h
 ·rename_i t rest cX
  split at h
  ·rename_i j i s q ht
   split at h
   ·rename_i tc oo qn l hm
    split at h
    ·rename_i hs
     subst hs
     split at h
     ·rename_i hi
      split at h
      ·rename_i y hy
       generalize Tx:((σ.aF [q,dT] [dT] [(dT,.sl y)]).set t (.lf (.own [dT])))=je at h
       cases U:(Nat.ble N 20000&&Nat.ble 20000 q&&Nat.blt q 60000&&BE je c args.toList q)with
       | false=>rw[U]at h;cases h
       | true=>
        rw[U,cond_true]at h
        simp only[Bool.and_eq_true]at U
        obtain⟨⟨⟨hN,mq⟩,nH⟩,BG⟩:=U
        have hN:=Nat.le_of_ble_eq_true hN
        have mq:=Nat.le_of_ble_eq_true mq
        have nH:q<60000:=Nat.le_of_ble_eq_true nH
        obtain⟨τ,ak,cn,hk,ij,lR,rK,yF⟩:=FE (w0:=w0) ho he hc h
        clear h
        unfold BE at BG
        rw[ij]at BG
        simp only[Bool.and_eq_true,Bool.not_eq_true']at BG
        obtain⟨vi,Ty⟩:=BG
        obtain⟨mu,dm,FI⟩:=List.any_eq_true.1 Ty
        have FI:=Nat.eq_of_beq_eq_true FI
        have Tz:aM dT cn=false:=by rw[<-FI];exact rK mu dm
        have TA:aM q cn=false:=by
         cases hx:aM q cn with
         | false=>rfl
         | true=>have:=lR q hx;omega
        have FJ:q≠dT:=by unfold dT;omega
        split at hk
        ·rename_i y' cA
         split at hk
         ·rename_i e FK
          refine⟨_,hk,fun a w KK Q hR hK=>?_⟩
          obtain⟨lab,ρ,hR⟩:=hR
          have az:=hR.qT
          have TB:w0.F dT=none:=hR.cB dT (.inr (by decide))
          have bB:=hR.root q _ hm
          generalize hx:au.sl (.sl tc (oo+2) qn l)=x at bB
          cases bB with
          | blk=>cases hx
          | mp=>cases hx
          | gh=>cases hx
          | sl v yq aq hr=>
           injection hx with hx
           subst hx
           cases hr with
           | aY=>simp at hi
           | bn=>simp at hi
           | bF=>simp at hi
           | av _ _ _ _ _ _ _ _ _ ho=>omega
           | own _ _ _ _ _ b cap cs u hl hh hs hn sB FL gW=>
            have TD:nc σ.m [j,i,aj tc,q] y:=.elem j i [q] tc oo qn l y (.root q _ hm) hi hy
            obtain⟨u0,jV,TE⟩:=TD.ok hR.root
            have mg:=hR.tmp t
            rw[ht]at mg
            have bA:a.tmps.getD t undef=u0:=by
             have h2:=mg.2
             rw[jV]at h2
             injection h2 with h2
             exact h2.symm
            have TF:u0=u i j:=by
             have h3:aP w lab ρ [j,i,aj tc,q]=some (u i j):=by
              rw[A3,sw j i (aj tc) (q:=[q]) (show aP w lab ρ [q]=some (.slice (some ⟨b,0,none⟩) l.length cap) by simp only[aP,aq]) hl]
              show w.cell? _=_
              rw[cell_of_row w b _ cs _ _ hh]
              exact FL i hi j y hy
             rw[jV]at h3
             injection h3
            have dJ:gT u0=true:=by rw[<-bA];exact mg.1
            -- the state that the callee's caller sees
            have yC:∀ k:List Nat,aT k [q,dT]=false->aD q k=false/\aD dT k=false:=by
             intro k hk
             unfold aT at hk
             unfold aD
             split at hk
             ·rename_i z hz
              rw[hz]
              have:=Kz hk
              simp only[List.mem_cons,List.not_mem_nil,or_false,not_or]at this
              exact⟨by simpa using this.1,by simpa using this.2⟩
             ·rename_i hz
              rw[hz]
              exact⟨rfl,rfl⟩
            have TG:∀ k:List Nat,[j,i,aj tc,q] <:+ k->aD q k=true:=by
             rintro k ⟨p,rfl⟩
             simp[aD]
            have nu:kS w w lab (j3 lab [j,i,aj tc,q]) ρ (aH ρ dT (.bS u0)) [q,dT] [dT]:=by
             refine⟨Nat.le_refl _,fun b' gV b8=>⟨rfl,?_⟩,fun n hn=>?_,fun b' k b8=>(hR.bf b' k b8).2⟩
             ·cases bI:lab b' with
              | none=>exact BF bI
              | some k=>
               obtain⟨g1,g2⟩:=yC k (b8 k bI)
               exact FH bI (fun iI=>by rw[TG k iI]at g1;cases g1) g2
             ·refine aQ _ _ _ ?_
              rintro rfl
              simp[aM]at hn
            have bV:∀ b' k,j3 lab [j,i,aj tc,q] b'=some k->(∃ k',lab b'=some k')/\k≠[]:=by
             intro b' k b8
             cases bI:lab b' with
             | none=>rw[BF bI]at b8;cases b8
             | some k'=>
              refine⟨⟨k',rfl⟩,?_⟩
              unfold j3 at b8
              rw[bI]at b8
              simp only at b8
              cases h1:List.isSuffixOf [j,i,aj tc,q] k' with
              | true=>
               rw[h1,cond_true]at b8
               injection b8 with b8
               rw[<-b8]
               simp
              | false=>
               rw[h1,cond_false]at b8
               cases h2:aD dT k' with
               | true=>rw[h2,cond_true]at b8;cases b8
               | false=>
                rw[h2,cond_false]at b8
                injection b8 with b8
                rw[<-b8]
                exact(hR.bf b' k' bI).2.2
            have ke:Rl w0 N (j3 lab [j,i,aj tc,q]) (aH ρ dT (.bS u0)) (σ.aF [q,dT] [dT] [(dT,.sl y)]) a w:=by
             refine hR.eO nu (eD.Tv hR) (fun b' k b8=>?_) (fun n hn=>?_) (fun n z hz=>?_)
             ·obtain⟨⟨k',bI⟩,yU⟩:=bV b' k b8
              have:=hR.bf b' k' bI
              exact⟨this.1,this.2.1,yU⟩
             ·have:n=dT:=by simpa [aM]using hn
              rw[this]
              exact TB
             ·have hn:n=dT/\z = .sl y:=by
               rw[List.lookup_cons]at hz
               cases s5:(n==dT)with
               | false=>rw[s5]at hz;cases hz
               | true=>
                rw[s5]at hz
                injection hz with hz
                exact⟨by simpa using s5,hz.symm⟩
              obtain⟨rfl,rfl⟩:=hn
              exact .sl u0 y (aJ _ _ _) (TE.cut [] (.inl rfl))
            have fS:Rl w0 N (j3 lab [j,i,aj tc,q]) (aH ρ dT (.bS u0)) je a w:=by
             rw[<-Tx]
             refine ke.Tt ?_
             rw[bA]
             exact⟨dJ,by simp only[aP,aJ]⟩
            refine yF a w KK Q _ _ fS fun vv w' bE ct lS yT oO c8 o5=>?_
            -- behind the call
            have sS:90000<=dL o.dst:=by unfold dL;split <;>omega
            have TH:lS dT = .bS u0:=by
             rw[o5 dT (by unfold dT;omega),oO.bY dT Tz,aJ]
            have TI:lS q = .bS (.slice (some ⟨b,0,none⟩) l.length cap):=by
             rw[o5 q (by omega),oO.bY q TA,aQ _ _ _ FJ,aq]
            have bB:=yT.root dT _ cA
            generalize hx:au.sl y'=x at bB
            cases bB with
            | blk=>cases hx
            | mp=>cases hx
            | gh=>cases hx
            | sl v' S1 dK bq=>
             injection hx with hx
             subst hx
             rw[TH]at dK
             injection dK with dK
             subst dK
             have FM:=yT.qT
             have gl:Rel dT bE (bE.dQ dT [j,i,aj tc,q]):=yg FM
             have KV:aD dT [q]=false:=by simpa [aD]using fun e=>FJ e
             have vt:j3 lab [j,i,aj tc,q] b=some [q]:=FH hl (fun iI=>by have:=iI.length_le;simp at this) KV
             have TJ:aT [q] ((fT 0 ak).map (·.1))=false:=vi
             obtain⟨g1,g2⟩:=oO.same b (oO.lab b _ vt).1 (fun k b8=>by rw[vt]at b8;injection b8 with b8;subst b8;exact TJ)
             have TK:bE b=some [q]:=g2.trans vt
             have TL:bE.dQ dT [j,i,aj tc,q] b=some [q]:=gl.cZ b _ TK KV
             have TM:=yT.rel gl (fun b' k b8=>by
              unfold aG.dQ at b8
              cases bI:bE b' with
              | none=>rw[bI]at b8;cases b8
              | some k'=>
               rw[bI]at b8
               injection b8 with b8
               subst b8
               exact⟨⟨k',rfl⟩,J0 (by simp) (fun e=>FM b' (by rw[bI,e]))⟩)
             refine hK _ _ ⟨_,lS,TM.Tu (.sl _ _ TI ?_)⟩
             have hj:j<aj tc:=by
              have:=(List.getElem?_eq_some_iff.1 hy).1
              rwa [iF]at this
             refine RV.A4 (w':=w') (cs:=cs) (xs:=[y']) (u:=u) (us:=u) TL (g1.trans hh) hs hn sB hi (show j+1<=aj tc from hj) FK (fun i' o6 j' x hx yV=>⟨FL i' o6 j' x hx,?_⟩) (fun n x hx=>?_)
             ·have oC:=gW i' o6 j' x hx
              have TN:¬ (i'=i/\j'=j):=fun e=>yV ⟨e.1,by simp;omega⟩
              have KW:aD dT [j',i',aj tc,q]=false:=by simpa [aD]using fun e=>FJ e
              have a1:=oC.Ts (K:=[j,i,aj tc,q]) az (.inl ⟨fun p iI=>?_,KW⟩)
              ·have a2:=a1.eO oO (.inl (by simpa [aT]using vi))
               exact a2.rel gl (.inl KW)
              ·have e1:[j,i,aj tc,q]=[j',i',aj tc,q]:=EB iI ⟨p,rfl⟩ rfl
               injection e1 with e1 e2
               injection e2 with e2 e3
               exact TN ⟨e2.symm,e1.symm⟩
             ·cases n with
              | zero=>
               simp only[List.getElem?_cons_zero,Option.some.injEq]at hx
               subst hx
               refine⟨FL i hi j y hy,?_⟩
               have:=bq.dQ (q:=dT) (nk:=[j,i,aj tc,q]) FM
               rw[JZ,TF]at this
               exact this
              | succ n=>simp at hx
         ·cases hk
        ·cases hk
      ·cases h
     ·cases h
    ·cases h
   ·cases h
  ·cases h
 ·cases h
theorem TO{dst:Option Tmp}{c:gE}{args:List Operand}{k:S->Option X}(KX:∀ {X:Type} {σ:S} {k:S->Option X} {r:X},gF N σ dst c args k=some r->∃ τ,k τ=some r/\∀ (X:Type) (k:S->Option X),gF N σ dst c args k=k τ)(h:s4 N σ dst c args k=some r):
  ∃ τ,k τ=some r/\∀ (X:Type) (k:S->Option X),s4 N σ dst c args k=k τ:=by
 unfold s4 at h
 split at h
 ·rename_i t rest
  split at h
  ·rename_i j i s q ht
   split at h
   ·rename_i tc oo qn l hm
    split at h
    ·rename_i hs
     split at h
     ·rename_i hi
      split at h
      ·rename_i y hy
       generalize U:(Nat.ble N 20000&&Nat.ble 20000 q&&Nat.blt q 60000&&BE ((σ.aF [q,dT] [dT] [(dT,.sl y)]).set t (.lf (.own [dT]))) c (.tmp t :: rest) q)=b at h
       cases b with
       | false=>cases h
       | true=>
        rw[cond_true]at h
        obtain⟨τ,h1,h2⟩:=KX h
        split at h1
        ·rename_i y' cA
         split at h1
         ·rename_i e FK
          exact⟨_,h1,fun X k=>by
           simp only[s4,ht,hm,hs,if_true,hi,dif_pos,hy]
           subst hs
           rw[U,cond_true,h2]
           simp only[cA,FK]⟩
         ·cases h1
        ·cases h1
      ·cases h
     ·cases h
    ·cases h
   ·cases h
  ·cases h
 ·cases h
end
end Go.Proofs.YtjldnlbiefpekaaDoor
namespace Go.Proofs.YtjldnlbiefpekaaDoor
open Go.RowKit
set_option linter.unusedVariables false
def aS{α:Type}(f:(X:Type)->(α->Option X)->Option X)(y:α):Prop:=∀ (X:Type) (k:α->Option X),f X k=k y
section
variable {P:Program} {N:Nat} {σ:S} {X:Type} {r:X} {d:Nat} {m:Nat->Option au}
theorem lT:∀ (q:List Nat) (k:V->Option X),c7 m q k=some r->∃ y,k y=some r/\nc m q y/\aS (fun X k=>c7 (X:=X) m q k) y
 | [],_,h=>by simp[c7]at h
 | [x],k,h=>by
  simp only[c7]at h
  split at h
  ·rename_i y hy;exact⟨y,h,.root x y hy,fun X k=>by simp only[c7,hy]⟩
  ·cases h
 | [_,_],_,h=>by simp[c7]at h
 | j :: i :: s :: q,k,h=>by
  simp only[c7]at h
  obtain⟨y,h2,hg,hd⟩:=lT q _ h
  clear h
  split at h2
  ·split at h2
   ·rename_i hs
    subst hs
    split at h2
    ·rename_i hi
     split at h2
     ·rename_i z hz
      exact⟨z,h2,.elem j i q _ _ _ _ z hg hi hz,fun X k=>by
       simp only[c7]
       exact(hd X _).trans (by simp only[if_true,dif_pos hi,hz])⟩
     ·cases h2
    ·cases h2
   ·cases h2
  ·cases h2
theorem rL{x:Lf}{k:V->Option X}(h:dP σ x k=some r):∃ y,k y=some r/\aS (fun X k=>dP (X:=X) σ x k) y:=by
 cases x with
 | v z=>exact⟨z,h,fun X k=>rfl⟩
 | own q=>obtain⟨y,h1,_,h2⟩:=lT q k h;exact⟨y,h1,h2⟩
 | dead=>cases h
theorem KY{q:List Nat}{s i j:Nat}{k:V->Option X}(h:lJ σ q s i j k=some r):∃ y,k y=some r/\aS (fun X k=>lJ (X:=X) σ q s i j k) y:=by
 obtain⟨y,h1,_,h2⟩:=lT q _ h
 split at h1
 ·rename_i z hz
  exact⟨z,h1,fun X k=>by
   simp only[lJ]
   exact(h2 X _).trans (by simp only[hz])⟩
 ·cases h1
theorem FN{x:A}{k:V->Option X}(h:jT σ x k=some r):∃ y,k y=some r/\aS (fun X k=>jT (X:=X) σ x k) y:=by
 unfold jT at h
 split at h
 ·exact rL h
 ·exact KY h
 ·cases h
theorem vu{x:A}{k:V->Option X}(h:vK x k=some r):∃ y,k y=some r/\aS (fun X k=>vK (X:=X) x k) y:=by
 obtain⟨y,rfl,h⟩:=A6 h
 exact⟨y,h,fun X k=>rfl⟩
theorem KZ{ty:TypeId}{op:BinOp}{x y:V}{k:V->Option X}(h:gX P ty op x y k=some r):∃ z,k z=some r/\aS (fun X k=>gX (X:=X) P ty op x y k) z:=by
 unfold gX at h
 split at h
 ·rename_i kx a ky b
  split at h
  ·split at h
   ·cases h
   ·rename_i U;exact⟨_,h,fun X k=>by simp only[gX,if_neg U]⟩
  ·split at h
   ·cases h
   ·rename_i U;exact⟨_,h,fun X k=>by simp only[gX,if_neg U]⟩
  ·rename_i h1 h2
   split at h
   ·rename_i hk
    subst hk
    cases op
    case shl=>exact absurd rfl h1
    case shr=>exact absurd rfl h2
    case quo=>
     by_cases U:b=0
     ·simp only[U,if_true]at h;cases h
     ·simp only[U,if_false]at h;exact⟨_,h,fun X k=>by simp only[gX,if_true,if_neg U]⟩
    case rem=>
     by_cases U:b=0
     ·simp only[U,if_true]at h;cases h
     ·simp only[U,if_false]at h;exact⟨_,h,fun X k=>by simp only[gX,if_true,if_neg U]⟩
    all_goals first
     | (refine⟨_,h,fun X k=>?_⟩;simp only[gX,if_true];done)
     | cases h
   ·cases h
 ·split at h
  ·rename_i yb
   split at h
   ·exact⟨_,h,fun X k=>by simp only[gX,yb]⟩
   ·exact⟨_,h,fun X k=>by simp only[gX,yb]⟩
   ·cases h
  ·cases h
 ·rename_i a b
  split at h
  ·cases hL:bz (a.size+b.size)with
   | false=>rw[hL]at h;cases h
   | true=>rw[hL]at h;exact⟨_,h,fun X k=>by simp only[gX,hL,cond_true]⟩
  ·exact⟨_,h,fun X k=>by simp only[gX]⟩
  ·exact⟨_,h,fun X k=>by simp only[gX]⟩
  ·cases h
 ·cases h
theorem TP{op:BinOp}{t:TypeId}{x y:A}{k:A->Option X}(h:gb P σ op t x y k=some r):∃ z,k z=some r/\aS (fun X k=>gb (X:=X) P σ op t x y k) z:=by
 unfold gb at h
 split at h
 ·rename_i ng cs ds cO
  split at h
  ·rename_i xs ys dB iM
   generalize hg:(P.eqGuardType P.depth t || !isStr P t)=g at h
   cases g with
   | true=>cases h
   | false=>
    rw[cond_false]at h
    split at h
    ·rename_i b U
     exact⟨_,h,fun X k=>by simp only[gb,cO,dB,iM,hg,cond_false,U]⟩
    ·cases h
  ·cases h
 ·rename_i ng l cO
  split at h
  ·rename_i e he
   obtain⟨z,h2,hd⟩:=rL h
   clear h
   split at h2
   ·exact⟨_,h2,fun X k=>by
     simp only[gb,cO,he]
     exact hd X _⟩
   ·exact⟨_,h2,fun X k=>by
     simp only[gb,cO,he]
     exact hd X _⟩
   ·rename_i t' o' l'
    cases hl:sL l' with
    | true=>rw[hl]at h2;cases h2
    | false=>
     rw[hl,cond_false]at h2
     exact⟨_,h2,fun X k=>by
      simp only[gb,cO,he]
      exact(hd X _).trans (by simp only[hl,cond_false])⟩
   ·cases h2
  ·cases h
 ·rename_i x' y' _ _ _ h1 yE
  obtain⟨u0,k1,sM⟩:=vu h
  obtain⟨v0,k2,eZ⟩:=vu k1
  obtain⟨z,k3,s6⟩:=KZ k2
  refine⟨_,k3,fun X k=>?_⟩
  have e1:gb P σ op t x' y' k=vK x' fun a=>vK y' fun b=>gX P t op a b fun z=>k (.lf (.v z)):=by
   unfold gb
   split
   ·rename_i ng cs ds cO;exact(h1 ng cs ds cO rfl rfl).elim
   ·rename_i ng l cO;exact(yE ng l cO rfl rfl).elim
   ·rfl
  exact e1.trans ((sM _ _).trans ((eZ _ _).trans (s6 _ _)))
theorem K0{op:UnOp}{x:V}{k:V->Option X}(h:vc op x k=some r):∃ z,k z=some r/\aS (fun X k=>vc (X:=X) op x k) z:=by
 unfold vc at h
 split at h
 ·exact⟨_,h,fun X k=>rfl⟩
 ·exact⟨_,h,fun X k=>rfl⟩
 ·cases h
theorem o7{t:TypeId}{cs:List Lf}{k:A->Option X}(h:fF P t cs k=some r):∃ y,k y=some r/\aS (fun X k=>fF (X:=X) P t cs k) y:=by
 unfold fF at h
 split at h
 ·rename_i n hn
  split at h
  ·rename_i hl
   split at h
   ·rename_i hr;exact⟨_,h,fun X k=>by simp only[fF,hn,if_pos hl,hr]⟩
   ·rename_i hr
    split at h
    ·exact⟨_,h,fun X k=>by simp only[fF,hn,if_pos hl,hr]⟩
    ·cases h
   ·cases h
  ·cases h
 ·cases h
theorem yW{t:TypeId}{x:A}{k:A->Option X}(h:eF P σ t x k=some r):∃ y,k y=some r/\aS (fun X k=>eF (X:=X) P σ t x k) y:=by
 unfold eF at h
 split at h
 ·cases h
 ·rename_i n hn
  split at h
  ·split at h
   ·rename_i cs bU
    obtain⟨y,h1,h2⟩:=o7 h
    exact⟨y,h1,fun X k=>by simp only[eF,hn,bU];exact h2 X k⟩
   ·cases h
  ·obtain⟨y,h1,h2⟩:=o7 h
   exact⟨y,h1,fun X k=>by simp only[eF,hn];exact h2 X k⟩
  ·rename_i j i s q
   obtain⟨z,h2,_,hd⟩:=lT _ _ h
   clear h
   split at h2
   ·split at h2
    ·rename_i hs
     split at h2
     ·rename_i hi
      obtain⟨y,h3,h4⟩:=o7 h2
      exact⟨y,h3,fun X k=>by
       simp only[eF,hn]
       exact(hd X _).trans (by simp only[if_pos hs,dif_pos hi];exact h4 X k)⟩
     ·cases h2
    ·cases h2
   ·cases h2
  ·cases h
theorem TQ{s:TypeId}{x:A}{f:Nat}{k:A->Option X}(h:l7 P s x f k=some r):∃ y,k y=some r/\aS (fun X k=>l7 (X:=X) P s x f k) y:=by
 unfold l7 at h
 split at h
 ·cases h
 ·rename_i fd jw
  split at h
  ·rename_i n hn
   split at h
   ·exact⟨_,h,fun X k=>by simp only[l7,jw,hn]⟩
   ·exact⟨_,h,fun X k=>by simp only[l7,jw,hn]⟩
   ·exact⟨_,h,fun X k=>by simp only[l7,jw,hn]⟩
   ·cases h
  ·cases h
theorem TR{t:TypeId}{x i:A}{k:A->Option X}(h:jv P σ t x i k=some r):∃ y,k y=some r/\aS (fun X k=>jv (X:=X) P σ t x i k) y:=by
 unfold jv at h
 split at h
 ·cases h
 ·rename_i e he
  split at h
  ·rename_i n kk iv hn
   split at h
   ·rename_i t' g qn l
    split at h
    ·rename_i gQ
     cases hg:Nat.blt g 2 with
     | false=>rw[hg]at h;cases h
     | true=>
      rw[hg,cond_true]at h
      split at h
      ·rename_i U
       exact⟨_,h,fun X k=>by simp only[jv,he,hn,if_pos gQ,hg,cond_true,dif_pos U]⟩
      ·cases h
    ·cases h
   ·rename_i q
    obtain⟨z,h2,_,hd⟩:=lT _ _ h
    clear h
    split at h2
    ·split at h2
     ·rename_i gQ
      split at h2
      ·rename_i U
       rename_i t' g qn l _
       cases ni:Nat.blt g 2 with
       | true=>
        rw[ni,cond_true]at h2
        exact⟨_,h2,fun X k=>by
         simp only[jv,he,hn]
         exact(hd X _).trans (by simp only[if_pos gQ,dif_pos U,ni,cond_true])⟩
       | false=>
        rw[ni,cond_false]at h2
        exact⟨_,h2,fun X k=>by
         simp only[jv,he,hn]
         exact(hd X _).trans (by simp only[if_pos gQ,dif_pos U,ni,cond_false])⟩
      ·cases h2
     ·cases h2
    ·cases h2
   ·cases h
  ·cases h
theorem TS{t:TypeId}{x:A}{k:A->Option X}(h:gY P σ t x k=some r):∃ y,k y=some r/\aS (fun X k=>gY (X:=X) P σ t x k) y:=by
 unfold gY at h
 split at h
 ·obtain⟨z,h2,hd⟩:=rL h
  clear h
  split at h2
  ·split at h2
   ·rename_i he
    exact⟨_,h2,fun X k=>by simp only[gY];exact(hd X _).trans (by simp only[he])⟩
   ·cases h2
  ·split at h2
   ·rename_i he
    exact⟨_,h2,fun X k=>by simp only[gY];exact(hd X _).trans (by simp only[he])⟩
   ·cases h2
  ·split at h2
   ·rename_i he
    exact⟨_,h2,fun X k=>by simp only[gY];exact(hd X _).trans (by simp only[he])⟩
   ·cases h2
  ·cases h2
 ·split at h
  ·rename_i he
   exact⟨_,h,fun X k=>by simp only[gY,he]⟩
  ·cases h
 ·cases h
theorem TT{x:A}{i:Nat}{k:A->Option X}(h:sD x i k=some r):∃ y,k y=some r/\aS (fun X k=>sD (X:=X) x i k) y:=by
 unfold sD at h
 split at h
 ·split at h
  ·rename_i y hy;exact⟨y,h,fun X k=>by simp only[sD,hy]⟩
  ·cases h
 ·cases h
theorem TU{t:TypeId}{parts:List (Nat×Operand)}{k:A->Option X}(h:nq P σ t parts k=some r):∃ y,k y=some r/\aS (fun X k=>nq (X:=X) P σ t parts k) y:=by
 unfold nq at h
 split at h
 ·rename_i z pl hz eT
  split at h
  ·rename_i cs bU;exact⟨_,h,fun X k=>by simp only[nq,hz,eT,bU]⟩
  ·cases h
 ·cases h
theorem TV{s:TypeId}{x:A}{f:Nat}{k:A->Option X}(h:oK P s x f k=some r):∃ y,k y=some r/\aS (fun X k=>oK (X:=X) P s x f k) y:=by
 unfold oK at h
 split at h
 ·rename_i fd cs jw
  split at h
  ·rename_i n hn hr
   split at h
   ·rename_i hle;exact⟨_,h,fun X k=>by simp only[oK,jw,hn,hr,if_pos hle]⟩
   ·cases h
  ·rename_i n hn hr
   split at h
   ·rename_i y hy;exact⟨_,h,fun X k=>by simp only[oK,jw,hn,hr,hy]⟩
   ·cases h
  ·cases h
 ·cases h
theorem K1{mx:Bool}{x y:A}{k:A->Option X}(h:sK mx x y k=some r):∃ z,k z=some r/\aS (fun X k=>sK (X:=X) mx x y k) z:=by
 unfold sK at h
 split at h
 ·exact⟨_,h,fun X k=>rfl⟩
 ·cases h
theorem TW{t:TypeId}{x i:A}{k:A->Option X}(h:qW P t x i k=some r):∃ z,k z=some r/\aS (fun X k=>qW (X:=X) P t x i k) z:=by
 unfold qW at h
 split at h
 ·split at h
  ·rename_i hu
   split at h
   ·rename_i U;exact⟨_,h,fun X k=>by simp only[qW,hu,dif_pos U]⟩
   ·cases h
  ·cases h
 ·cases h
theorem TX{src dst:TypeId}{z:V}{k:A->Option X}(h:oM P src dst z k=some r):∃ y,k y=some r/\aS (fun X k=>oM (X:=X) P src dst z k) y:=by
 unfold oM at h
 split at h
 ·cases ht:qY P src dst with
  | false=>rw[ht]at h;cases h
  | true=>rw[ht,cond_true]at h;exact⟨_,h,fun X k=>by simp only[oM,ht,cond_true]⟩
 ·cases ht:qY P src dst with
  | false=>rw[ht]at h;cases h
  | true=>rw[ht,cond_true]at h;exact⟨_,h,fun X k=>by simp only[oM,ht,cond_true]⟩
 ·cases h
theorem TY{src dst:TypeId}{x:A}{k:A->Option X}(h:jc P σ src dst x k=some r):∃ z,k z=some r/\aS (fun X k=>jc (X:=X) P σ src dst x k) z:=by
 unfold jc at h
 split at h
 ·split at h
  ·rename_i d1 kd h1 h2;exact⟨_,h,fun X k=>by simp only[jc,h1,h2]⟩
  ·cases h
 ·rename_i y hy
  obtain⟨z,h2,hd⟩:=rL h
  obtain⟨y',h3,eZ⟩:=TX h2
  refine⟨_,h3,fun X k=>?_⟩
  have:jc P σ src dst (.lf y) k=dP σ y fun z=>oM P src dst z k:=by
   unfold jc
   split
   ·rename_i n e;injection e with e;exact(hy _ _ e).elim
   ·rename_i e;injection e with e;subst e;rfl
   ·rename_i h' ;exact absurd rfl (h' _)
  show jc P σ src dst (.lf y) k=k y'
  rw[this]
  exact(hd X _).trans (eZ X k)
 ·cases h
end
end Go.Proofs.YtjldnlbiefpekaaDoor
namespace Go.Proofs.YtjldnlbiefpekaaDoor
open Go.RowKit
set_option linter.unusedVariables false
section
variable {P:Program} {N:Nat} {σ:S} {X:Type} {r:X} {d:Nat} {m:Nat->Option au} {o:Oper}
theorem aS.at_{α:Type}{f:(X:Type)->(α->Option X)->Option X}{y:α}(h:aS f y){X:Type}(k:α->Option X):f X k=k y:=h X k
theorem nI{x:au}{y:A}{k:S->Option X}(h:dR N σ d x y k=some r):k (((σ.drop d).root d x).set d y)=some r/\aS (fun X k=>dR (X:=X) N σ d x y k) (((σ.drop d).root d x).set d y):=by
 unfold dR at h
 cases hN:Nat.blt d N with
 | false=>rw[hN]at h;cases h
 | true=>rw[hN]at h;exact⟨h,fun X k=>by simp only[dR,hN,cond_true]⟩
theorem K2{e:TypeId}{k:S->Option X}(h:lO P N σ d e k=some r):∃ x y,k (((σ.drop d).root d x).set d y)=some r/\y = .aE d 0/\(∀ (aa:S),aS (fun X k=>lO (X:=X) P N aa d e k) (((aa.drop d).root d x).set d y)):=by
 unfold lO at h
 split at h
 ·rename_i z hz
  obtain⟨h1,_⟩:=nI h
  refine⟨_,_,h1,rfl,fun aa X k=>?_⟩
  obtain⟨hN,_⟩:=ja h
  have U:Nat.blt d N=true:=Nat.ble_eq_true_of_le hN
  simp only[lO,hz,dR,U,cond_true]
 ·cases h
theorem FO{t:TypeId}{l c:A}{k:S->Option X}(h:sG P N σ d t l c k=some r):∃ y,k (((σ.drop d).root d (.sl y)).set d (.lf (.own [d])))=some r/\(∀ (aa:S),aS (fun X k=>sG (X:=X) P N aa d t l c k) (((aa.drop d).root d (.sl y)).set d (.lf (.own [d])))):=by
 unfold sG at h
 split at h
 ·rename_i e tc kl n kc c dS
  split at h
  ·cases h
  ·rename_i z hz
   split at h
   ·rename_i U
    obtain⟨h1,_⟩:=nI h
    refine⟨_,h1,fun aa X k=>?_⟩
    obtain⟨hN,_⟩:=ja h
    have ew:Nat.blt d N=true:=Nat.ble_eq_true_of_le hN
    simp only[sG,dS,hz,if_pos U,dR,ew,cond_true]
   ·cases h
 ·cases h
theorem FP{t:TypeId}{len:Nat}{parts:List (Nat×Operand)}{k:S->Option X}(h:sJ P N σ d t len parts k=some r):∃ y,k (((σ.drop d).root d (.sl y)).set d (.lf (.own [d])))=some r/\
  (∀ (aa:S),(∀ p∈parts,ah aa p.2=ah σ p.2)->aS (fun X k=>sJ (X:=X) P N aa d t len parts k) (((aa.drop d).root d (.sl y)).set d (.lf (.own [d])))):=by
 unfold sJ at h
 split at h
 ·rename_i e tc dS
  split at h
  ·rename_i z hz
   cases hc:(Nat.beq (full tc) 0&&Nat.beq z.cells.size (aj tc)&&Nat.blt (len*aj tc) 16777217)with
   | false=>rw[hc]at h;cases h
   | true=>
    rw[hc,cond_true]at h
    split at h
    ·rename_i cs bU
     split at h
     ·rename_i vs cN
      split at h
      ·rename_i l hl
       obtain⟨h1,_⟩:=nI h
       refine⟨_,h1,fun aa yX X k=>?_⟩
       obtain⟨hN,_⟩:=ja h
       have ew:Nat.blt d N=true:=Nat.ble_eq_true_of_le hN
       have e:(parts.map fun p=>(p.1,ah aa p.2))=parts.map fun p=>(p.1,ah σ p.2):=List.map_congr_left fun p hp=>by rw[yX p hp]
       simp only[sJ,dS,hz,hc,cond_true,e,bU,cN,hl,dR,ew]
      ·cases h
     ·cases h
    ·cases h
  ·cases h
 ·cases h
theorem TZ{t:TypeId}{x:A}{lo hi:Option A}{k:A->Option X}(h:jY P σ t x lo hi k=some r):∃ y,k y=some r/\aS (fun X k=>jY (X:=X) P σ t x lo hi k) y:=by
 unfold jY at h
 split at h
 ·rename_i q
  unfold q8 at h
  split at h
  ·rename_i e he
   split at h
   ·rename_i n hn
    obtain⟨y,h1,_,hd⟩:=lT q _ h
    obtain⟨tc,g,qn,xs,l,m,rfl,gQ,e1,e2,b1,b2,b3,h3,hf⟩:=Kn h1
    refine⟨_,h3,fun X k=>?_⟩
    simp only[jY,q8,he,hn]
    exact(hd X _).trans (hf X k)
   ·cases h
  ·cases h
 ·rename_i hx
  obtain⟨y,h1,hd,_⟩:=Km h
  refine⟨y,h1,fun X k=>?_⟩
  simp only[jY]
  exact hd X k
theorem T0{t:TypeId}{x y:A}{k:S->Option X}(h:jW P N σ d t x y k=some r):∃ τ,k τ=some r/\aS (fun X k=>jW (X:=X) P N σ d t x y k) τ:=by
 unfold jW at h
 split at h
 ·rename_i e tc dS
  cases hc:(Nat.beq (full tc) 0&&(zeroOf P e).any (fun z=>Nat.beq z.cells.size (aj tc)))with
  | false=>rw[hc]at h;cases h
  | true=>
   rw[hc,cond_true]at h
   obtain⟨yv,h2,hd⟩:=FN h
   clear h
   split at h2
   ·cases h2
   ·rename_i l2 ez
    split at h2
    ·cases hL:bz l2.length with
     | false=>rw[hL]at h2;cases h2
     | true=>
      rw[hL,cond_true]at h2
      obtain⟨h3,h4⟩:=nI h2
      exact⟨_,h3,fun X k=>by
       simp only[jW,dS,hc,cond_true]
       exact(hd.at_ _).trans (by simp only[ez,hL,cond_true];exact h4 X k)⟩
    ·rename_i rr
     split at h2
     ·rename_i t' o q l hm
      split at h2
      ·rename_i di
       cases hL:(Nat.blt d N&&(Nat.blt rr N || Nat.ble 60000 rr)&&bz (l.length+l2.length))with
       | false=>rw[hL]at h2;cases h2
       | true=>
        rw[hL,cond_true]at h2
        exact⟨_,h2,fun X k=>by
         simp only[jW,dS,hc,cond_true]
         exact(hd.at_ _).trans (by simp only[ez,hm,dif_pos di,hL,cond_true])⟩
      ·cases h2
     ·cases h2
    ·cases h2
 ·cases h
theorem K3:∀ (q:List Nat) (y:V) (k:(Nat->Option au)->Option X),ju m q y k=some r->∃ m',k m'=some r/\aS (fun X k=>ju (X:=X) m q y k) m'
 | [],_,_,h=>by simp[ju]at h
 | [x],y,k,h=>by
  simp only[ju]at h
  split at h
  ·rename_i y0 hy;exact⟨_,h,fun X k=>by simp only[ju,hy]⟩
  ·cases h
 | [_,_],_,_,h=>by simp[ju]at h
 | j :: i :: s :: q,y,k,h=>by
  simp only[ju]at h
  obtain⟨z,h2,_,hd⟩:=lT q _ h
  clear h
  split at h2
  ·split at h2
   ·rename_i hs
    split at h2
    ·rename_i hi
     split at h2
     ·rename_i hj
      split at h2
      ·rename_i e he
       obtain⟨m',h3,h4⟩:=K3 q _ k h2
       exact⟨m',h3,fun X k=>by
        simp only[ju]
        exact(hd.at_ _).trans (by simp only[if_pos hs,dif_pos hi,if_pos hj,he];exact h4 X k)⟩
      ·cases h2
     ·cases h2
    ·cases h2
   ·cases h2
  ·cases h2
theorem K4{t:TypeId}{x y:A}{k:S->Option X}(h:iK P σ t x y k=some r):∃ τ,k τ=some r/\aS (fun X k=>iK (X:=X) P σ t x y k) τ:=by
 unfold iK at h
 split at h
 ·rename_i n xs hn dB
  split at h
  ·rename_i hlen
   split at h
   ·rename_i r' j
    split at h
    ·rename_i cs bU
     split at h
     ·rename_i hj
      cases hl:xs.all Lf.live with
      | false=>rw[hl]at h;cases h
      | true=>rw[hl]at h;exact⟨_,h,fun X k=>by simp only[iK,hn,dB,if_pos hlen,bU,if_pos hj,hl,cond_true]⟩
     ·cases h
    ·cases h
   ·rename_i j i s q
    split at h
    ·cases h
    ·rename_i vs cN
     obtain⟨y0,h2,hg0,hd⟩:=lT _ _ h
     clear h
     split at h2
     ·rename_i t' o' qn l
      split at h2
      ·rename_i hs
       split at h2
       ·rename_i hi
        split at h2
        ·rename_i hj
         cases hold:(((enc t' o' l[i]).drop j).take vs.length).all V.plain with
         | false=>rw[hold]at h2;cases h2
         | true=>
          rw[hold,cond_true]at h2
          split at h2
          ·rename_i e he
           obtain⟨m',h3,h4⟩:=K3 q _ _ h2
           exact⟨_,h3,fun X k=>by
            simp only[iK,hn,dB,if_pos hlen,cN]
            exact(hd.at_ _).trans (by simp only[if_pos hs,dif_pos hi,if_pos hj,hold,cond_true,he];exact h4.at_ _)⟩
          ·cases h2
        ·cases h2
       ·cases h2
      ·cases h2
     ·cases h2
   ·cases h
  ·cases h
 ·cases h
theorem yY:∀ (xs:List Lf) (k:List V->Option X),iO σ xs k=some r->∃ vs,k vs=some r/\aS (fun X k=>iO (X:=X) σ xs k) vs
 | [],k,h=>⟨[],h,fun X k=>rfl⟩
 | x :: xs,k,h=>by
  unfold iO at h
  obtain⟨y,h2,hd⟩:=rL h
  obtain⟨ys,h3,eZ⟩:=yY xs _ h2
  exact⟨_,h3,fun X k=>by
   simp only[iO]
   exact(hd.at_ _).trans (eZ.at_ _)⟩
theorem K5{x:A}{k:Pt->Option X}(h:gZ σ x k=some r):∃ p,k p=some r/\aS (fun X k=>gZ (X:=X) σ x k) p:=by
 unfold gZ at h
 split at h
 ·obtain⟨vs,h2,hd⟩:=yY _ _ h;exact⟨_,h2,fun X k=>by simp only[gZ];exact hd.at_ _⟩
 ·obtain⟨vs,h2,hd⟩:=yY _ _ h;exact⟨_,h2,fun X k=>by simp only[gZ];exact hd.at_ _⟩
 ·obtain⟨y,h2,hd⟩:=KY h;exact⟨_,h2,fun X k=>by simp only[gZ];exact hd.at_ _⟩
 ·exact⟨_,h,fun X k=>rfl⟩
 ·cases h
theorem FQ:∀ (xs:List Operand) (k:List Pt->Option X),fo σ xs k=some r->∃ ps,k ps=some r/\aS (fun X k=>fo (X:=X) σ xs k) ps
 | [],k,h=>⟨[],h,fun X k=>rfl⟩
 | x :: xs,k,h=>by
  unfold fo at h
  obtain⟨p,h2,hd⟩:=K5 h
  obtain⟨ps,h3,eZ⟩:=FQ xs _ h2
  exact⟨_,h3,fun X k=>by
   simp only[fo]
   exact(hd.at_ _).trans (eZ.at_ _)⟩
theorem T3{x:A}{k:Pt->Option X}(h:oQ σ x k=some r):∃ p,k p=some r/\aS (fun X k=>oQ (X:=X) σ x k) p:=by
 unfold oQ at h
 split at h
 ·exact⟨_,h,fun X k=>rfl⟩
 ·exact⟨_,h,fun X k=>rfl⟩
 ·split at h
  ·rename_i cs hm
   obtain⟨vs,h2,hd⟩:=yY _ _ h
   split at h2
   ·exact⟨_,h2,fun X k=>by simp only[oQ,hm];exact hd.at_ _⟩
   ·cases h2
  ·cases h
 ·split at h
  ·rename_i cs hm
   obtain⟨vs,h2,hd⟩:=yY _ _ h
   split at h2
   ·exact⟨_,h2,fun X k=>by simp only[oQ,hm];exact hd.at_ _⟩
   ·cases h2
  ·cases h
 ·rename_i y h1 h2 h3 h4
  obtain⟨p,h5,hd⟩:=K5 h
  exact⟨p,h5,fun X k=>by
   unfold oQ
   split
   ·exact absurd rfl (h1 _ _)
   ·exact absurd rfl (h2 _ _ _)
   ·exact absurd rfl (h3 _ _)
   ·exact absurd rfl (h4 _ _ _)
   ·exact hd.at_ _⟩
theorem K6:∀ (xs:List Operand) (k:List Pt->Option X),rz σ xs k=some r->∃ ps,k ps=some r/\aS (fun X k=>rz (X:=X) σ xs k) ps
 | [],k,h=>⟨[],h,fun X k=>rfl⟩
 | x :: xs,k,h=>by
  unfold rz at h
  obtain⟨p,h2,hd⟩:=T3 h
  obtain⟨ps,h3,eZ⟩:=K6 xs _ h2
  exact⟨_,h3,fun X k=>by
   simp only[rz]
   exact(hd.at_ _).trans (eZ.at_ _)⟩
theorem T4{f:Nat}{c:cx}{args:List Operand}{k:S->Option X}(hc:cy P f c)(h:rA N σ d c args k=some r):∃ τ,k τ=some r/\aS (fun X k=>rA (X:=X) N σ d c args k) τ:=by
 unfold rA at h
 cases hN:Nat.blt d N with
 | false=>rw[hN]at h;cases h
 | true=>
  rw[hN,cond_true]at h
  obtain⟨ps,h2,hd⟩:=K6 _ _ h
  obtain⟨res,h3,eZ,_⟩:=hc X ps _ r h2
  cases res with
  | one p=>
   simp only at h3
   split at h3
   ·rename_i y hy
    refine⟨_,h3,fun X k=>?_⟩
    simp only[rA,hN,cond_true]
    refine(hd.at_ _).trans ((eZ X _).trans ?_)
    simp only[hy]
   ·cases h3
  | aU jA=>
   refine⟨_,h3,fun X k=>?_⟩
   simp only[rA,hN,cond_true]
   exact(hd.at_ _).trans (eZ X _)
def nJ(d:Nat)(res:dj)(σ:S):Option S:=match res with
 | .one p=>match lN (p.1,fG (1000000000100000+1000*d) p.2)with
  | some y=>some ((dw (1000000000100000+1000*d) σ p.2).set d y)
  | none=>none
 | .aU ps=>some ((eN (1000000000100000+1000*d) σ ps).set d (.aU (gf (1000000000100000+1000*d) ps)))
theorem vw{f:Nat}{c:cx}{args:List Operand}{k:S->Option X}(hc:cy P f c)(h:oR N σ d c args k=some r):∃ res τ,nJ d res σ=some τ/\k τ=some r/\
  (∀ aa dr,(∀ (X:Type) (k:List Pt->Option X),fo aa args k=fo σ args k)->nJ d res aa=some dr->aS (fun X k=>oR (X:=X) N aa d c args k) dr):=by
 unfold oR at h
 cases hN:Nat.blt d N with
 | false=>rw[hN]at h;cases h
 | true=>
  rw[hN,cond_true]at h
  obtain⟨ps,h2,hd⟩:=FQ _ _ h
  obtain⟨res,h3,eZ,_⟩:=hc X ps _ r h2
  have step:∀ aa dr,(∀ (X:Type) (k:List Pt->Option X),fo aa args k=fo σ args k)->nJ d res aa=some dr->aS (fun X k=>oR (X:=X) N aa d c args k) dr:=by
   intro aa dr ha cc X k
   simp only[oR,hN,cond_true]
   rw[ha]
   refine(hd.at_ _).trans ((eZ X _).trans ?_)
   unfold nJ at cc
   cases res with
   | one p=>
    simp only at cc ⊢
    split at cc
    ·rename_i y hy
     injection cc with cc
     subst cc
     simp only[hy]
    ·cases cc
   | aU jA=>
    injection cc with cc
    subst cc
    rfl
  cases res with
  | one p=>
   simp only at h3
   split at h3
   ·rename_i y hy
    exact⟨.one p,_,by simp only[nJ,hy],h3,step⟩
   ·cases h3
  | aU jA=>exact⟨.aU jA,_,rfl,h3,step⟩
/-! Keys that do not end in certain names. -/
def cg(p:Nat->Bool)(k:List Nat):Bool:=match k.getLast? with
 | some r=>!p r
 | none=>true
def Lf.nr(p:Nat->Bool):Lf->Bool
 | .own k=>cg p k
 | _=>true
def A.nr(p:Nat->Bool):A->Bool
 | .lf x=>x.nr p
 | .agg cs=>cs.all (Lf.nr p)
 | .aU xs=>xs.all fun q=>q.2.all (Lf.nr p)
 | .ptr k=>cg p k
 | .aE r _=>!p r
 | .pk r _=>!p r
 | .view k _ _ _=>cg p k
 | .fn _ cap=>cap.all fun q=>!p q.1
 | _=>true
theorem mw{p:Nat->Bool}{k:List Nat}{n:Nat}(h:cg p k=true)(hn:p n=true):aD n k=false:=by
 unfold cg at h
 unfold aD
 split at h
 ·rename_i r hr
  rw[hr]
  have:r≠n:=by rintro rfl;simp[hn]at h
  simpa using this
 ·rename_i hr;rw[hr];rfl
theorem Lf.gG{p:Nat->Bool}{x:Lf}{n:Nat}(h:x.nr p=true)(hn:p n=true):x.drop n=x:=by
 cases x with
 | own k=>
  have e:Lf.drop n (.own k)=(bif aD n k then .dead else .own k):=rfl
  rw[e,mw h hn]
  rfl
 | v x=>rfl
 | dead=>rfl
theorem dM.gG{p:Nat->Bool}{xs:List Lf}{n:Nat}(h:xs.all (Lf.nr p)=true)(hn:p n=true):xs.map (Lf.drop n)=xs:=by
 conv=>rhs;rw[<-List.map_id xs]
 exact List.map_congr_left fun x hx=>Lf.gG (List.all_eq_true.1 h x hx) hn
theorem A.gG{p:Nat->Bool}{x:A}{n:Nat}(h:x.nr p=true)(hn:p n=true):x.drop n=x:=by
 cases x with
 | lf x=>exact congrArg A.lf (Lf.gG h hn)
 | agg cs=>exact congrArg A.agg (dM.gG h hn)
 | aU xs=>
  refine congrArg A.aU ?_
  conv=>rhs;rw[<-List.map_id xs]
  refine List.map_congr_left fun q hq=>?_
  have:=dM.gG (List.all_eq_true.1 h q hq) hn
  simp only[id]
  rw[this]
 | ptr k=>
  have e:A.drop n (.ptr k)=(bif aD n k then .undef else .ptr k):=rfl
  rw[e,mw h hn];rfl
 | view k s i j=>
  have e:A.drop n (.view k s i j)=(bif aD n k then .undef else .view k s i j):=rfl
  rw[e,mw h hn];rfl
 | pk r j=>
  have e:A.drop n (.pk r j)=(bif Nat.beq r n then .undef else .pk r j):=rfl
  have:Nat.beq r n=false:=by
   cases U:Nat.beq r n with
   | false=>rfl
   | true=>
    obtain rfl:=Nat.eq_of_beq_eq_true U
    have h:(!p r)=true:=h
    rw[hn]at h;cases h
  rw[e,this];rfl
 | aE r j=>
  have e:A.drop n (.aE r j)=(bif Nat.beq r n then .undef else .aE r j):=rfl
  have:Nat.beq r n=false:=by
   cases U:Nat.beq r n with
   | false=>rfl
   | true=>
    obtain rfl:=Nat.eq_of_beq_eq_true U
    have h:(!p r)=true:=h
    rw[hn]at h;cases h
  rw[e,this];rfl
 | fn f cap=>
  have e:A.drop n (.fn f cap)=(bif cap.any (fun p=>Nat.beq p.1 n)then .undef else .fn f cap):=rfl
  have:cap.any (fun p=>Nat.beq p.1 n)=false:=by
   rw[List.any_eq_false]
   intro q hq U
   obtain U:=Nat.eq_of_beq_eq_true U
   have:=List.all_eq_true.1 h q hq
   rw[U,hn]at this;cases this
  rw[e,this];rfl
 | _=>rfl
theorem S.ext'{σ τ:S}(h1:∀ k,σ.t k=τ.t k)(h2:∀ r,σ.m r=τ.m r):σ=τ:=by
 cases σ;cases τ
 simp only[S.mk.injEq]
 exact⟨funext h1,funext h2⟩
theorem S.set_set{e d:Nat}(h:e≠d)(v u:A):(σ.set d v).set e u=(σ.set e u).set d v:=by
 refine S.ext' (fun k=>?_) fun _=>rfl
 show aH (aH σ.t d v) e u k=aH (aH σ.t e u) d v k
 by_cases h1:k=e
 ·subst h1;rw[aJ,aQ _ _ _ h,aJ]
 ·by_cases h2:k=d
  ·subst h2;rw[aQ _ _ _ h1,aJ,aJ]
  ·rw[aQ _ _ _ h1,aQ _ _ _ h2,aQ _ _ _ h2,aQ _ _ _ h1]
theorem S.drop_set(n:Nat){v:A}(hv:v.drop n=v):(σ.set d v).drop n=(σ.drop n).set d v:=by
 refine S.ext' (fun k=>?_) fun _=>rfl
 show (aH σ.t d v k).drop n=aH (fun k=>(σ.t k).drop n) d v k
 by_cases h:k=d
 ·subst h;rw[aJ,aJ,hv]
 ·rw[aQ _ _ _ h,aQ _ _ _ h]
theorem yZ(v:A):∀ (xs:List V) (c:Nat) (σ:S),(∀ n,c<=n->v.drop n=v)->dw c (σ.set d v) xs=(dw c σ xs).set d v
 | [],c,σ,h=>rfl
 | x :: xs,c,σ,h=>by
  simp only[dw]
  cases hf:x.av with
  | true=>
   simp only[cond_true]
   exact yZ v xs (c+1) σ (fun n hn=>h n (by omega))
  | false=>
   simp only[cond_false]
   rw[S.drop_set c (h c (Nat.le_refl _))]
   exact yZ v xs (c+1) ((σ.drop c).root c (.sl x)) (fun n hn=>h n (by omega))
theorem FR(v:A):∀ (ps:List Pt) (c:Nat) (σ:S),(∀ n,c<=n->v.drop n=v)->eN c (σ.set d v) ps=(eN c σ ps).set d v
 | [],c,σ,h=>rfl
 | p :: ps,c,σ,h=>by
  simp only[eN]
  rw[yZ v p.2 c σ h]
  exact FR v ps _ _ (fun n hn=>h n (by omega))
end
end Go.Proofs.YtjldnlbiefpekaaDoor
namespace Go.Proofs.YtjldnlbiefpekaaDoor
open Go.RowKit
set_option linter.unusedVariables false
def s7{X:Type}(N:Nat)(σ:S)(d:Nat)(x:A)(k:S->Option X):Option X:=
 match x.qS with
 | some xs=>bif xs.all Lf.live then dR N σ d (.blk (xs.map (Lf.drop d))) (.aE d 0) k else none
 | none=>none
def BH{X:Type}(x:A)(k:A->Option X):Option X:=
 match x with
 | .aE r j=>k (.aE r j)
 | .ptr q=>k (.ptr q)
 | .dO cs=>k (.dO cs)
 | _=>none
section
variable {P:Program} {w w':World} {w0:Wd} {B N:Nat} {lab af:aG} {ρ ρ':Nat->Loc} {σ:S} {a:Act} {X:Type} {d:Nat} {r:X} {o:Oper}
theorem T5{e:TypeId}{x:A}{k:S->Option X}(h:s7 N σ d x k=some r):∃ aa,k aa=some r/\∀ lab ρ a w,Rl w0 N lab ρ σ a w->∀ u,RA w w0.heap.size lab ρ x u->
  ∃ w' af ρ' v,(Instr.box e u).run P w = .ok v w'/\Rl w0 N af ρ' aa (a.put (some d) v) w':=by
 unfold s7 at h
 split at h
 ·rename_i xs dB
  cases eL:xs.all Lf.live with
  | false=>rw[eL]at h;cases h
  | true=>
   rw[eL,cond_true]at h
   obtain⟨hd,h⟩:=ja h
   refine⟨_,h,fun lab ρ a w hR u hu=>?_⟩
   obtain⟨hl,_⟩:=ye dB eL hu
   have aC:(Instr.box e u).run P w = .ok (.pointer (some ⟨w.heap.size,0,none⟩)) (w.alloc (.cells u.cells e)):=by
    simp[Instr.box,newVar,newRow]
   refine⟨_,aH lab w.heap.size (some [d]),aH ρ d (.blk w.heap.size 0),_,aC,(hR.vh (hR.cB d (.inl hd)) (fun r hr=>aQ _ _ _ hr) ?_).set ⟨w.heap.size,0,aJ _ _ _,rfl⟩ hd⟩
   have h1:bH (w.alloc (.cells u.cells e)) w0.heap.size (aH lab w.heap.size (some [d])) ρ xs u.cells:=
    hl.cZ (by simp) (fun b U=>⟨Below.heap_alloc w _ b U,aQ _ _ _ (by omega)⟩) (fun b k U=>(hR.bf b k U).2.1)
   have h2:=h1.bY (ρ':=aH ρ d (.blk w.heap.size 0)) (d:=d) (fun r hr=>aQ _ _ _ hr)
   refine .blk w.heap.size 0 u.cells e _ (fun j=>u.cells.getD j undef) (aJ _ _ _) (aJ _ _ _) (heap_alloc_new w _) (by rw[h2.1];omega) fun j y hy=>?_
   obtain⟨v,hv,hr⟩:=h2.2 j y hy
   have hg:u.cells.getD j undef=v:=by rw[Array.getD_eq_getD_getElem?,hv];rfl
   rw[hg,Nat.zero_add]
   exact⟨hv,hr⟩
 ·cases h
theorem K7{x:A}{k:S->Option X}(h:s7 N σ d x k=some r):∃ y u,k (((σ.drop d).root d y).set d u)=some r/\(∀ (aa:S),aS (fun X k=>s7 (X:=X) N aa d x k) (((aa.drop d).root d y).set d u)):=by
 unfold s7 at h
 split at h
 ·rename_i xs dB
  cases eL:xs.all Lf.live with
  | false=>rw[eL]at h;cases h
  | true=>
   rw[eL,cond_true]at h
   obtain⟨h1,_⟩:=nI h
   refine⟨_,_,h1,fun aa X k=>?_⟩
   obtain⟨hN,_⟩:=ja h
   have U:Nat.blt d N=true:=Nat.ble_eq_true_of_le hN
   simp only[s7,dB,eL,dR,U,cond_true]
 ·cases h
theorem K8{x:A}{k:A->Option X}(h:BH x k=some r):k x=some r/\aS (fun X k=>BH (X:=X) x k) x/\∀ u,RA w B lab ρ x u->∃ ad,u = .pointer (some ad):=by
 unfold BH at h
 split at h
 ·exact⟨h,fun X k=>rfl,fun u hu=>by obtain⟨b,off,_,rfl⟩:=hu;exact⟨_,rfl⟩⟩
 ·exact⟨h,fun X k=>rfl,fun u hu=>by obtain⟨ad,rfl,_⟩:=hu;exact⟨_,rfl⟩⟩
 ·exact⟨h,fun X k=>rfl,fun u hu=>by obtain⟨b,off,rfl,_⟩:=hu;exact⟨_,rfl⟩⟩
 ·cases h
end
end Go.Proofs.YtjldnlbiefpekaaDoor
namespace Go.Proofs.YtjldnlbiefpekaaDoor
open Go.RowKit
set_option linter.unusedVariables false
def jf(t:TypeId):Bool:=[999999,999999,999999,999999,999999,999999,999999,999999,999999,999999,999999,999999,999999,999999,999999,999999,999999,999999,38,999999,999999,999999,999999,999999].any (Nat.beq t)
def rM{X:Type}(P:Program)(N:Nat)(σ:S)(d:Nat)(t:TypeId)(len:Nat)(parts:List (Nat×Operand))(k:S->Option X):Option X:=
 match oD P t with
 | some (e,tc)=>match zeroOf P e with
  | some z=>bif Nat.beq z.cells.size (aj tc)&&Nat.blt (len*aj tc) 16777217 then (match qV (fun i=>some (i*aj tc,aj tc)) (List.replicate len (z.cells.toList.map ey)).flatten (parts.map fun p=>(p.1,ah σ p.2))with
   | some cs=>bif Nat.beq len 0 then dR N σ d (.sl (.sl tc (full tc+2) true [])) (.lf (.own [d])) k else dR N σ d (.blk (cs.map (Lf.drop d))) (.pk d len) k
   | none=>none)else none
  | none=>none
 | none=>none
def o8{X:Type}(N:Nat)(σ:S)(d r ry:Nat)(tc:TC)(n:Nat)(k:S->Option X):Option X:=
 match σ.m ry,σ.m r with
 | some (.blk cs),some (.sl (.sl t' (o+2) q l))=>if h:t'=tc then (match kL r (fun j=>(j % aj tc) :: (l.length+j / aj tc) :: aj tc :: [r]) cs.length 0 cs σ with
  | some (vs,τ)=>(match ym tc o n vs with
   | some l2=>bif Nat.blt d N&&bz (l.length+l2.length)then k (((τ.drop r).root r (.sl (.sl tc (o+2) false ((h ▸ l)++l2)))).set d (.lf (.own [r])))else none
   | none=>none)
  | none=>none)else none
 | _,_=>none
def rN{X:Type}(P:Program)(N:Nat)(σ:S)(d:Nat)(t:TypeId)(x y:A)(k:S->Option X):Option X:=
 match oD P t,y with
 | some (e,tc),.pk ry n=>bif (zeroOf P e).any (fun z=>Nat.beq z.cells.size (aj tc))&&(Nat.blt d N&&Nat.blt n jR)then (match x with
  | .lf (.v .nil)=>o8 N ((σ.drop d).root d (.sl (.sl tc (full tc+2) false []))) d d ry tc n k
  | .lf (.own [r])=>bif Nat.blt r N || Nat.ble 60000 r then o8 N σ d r ry tc n k else none
  | _=>none)else none
 | _,_=>none
def s8{X:Type}(P:Program)(σ:S)(t:TypeId)(x y:A)(k:S->Option X):Option X:=
 match fE P t,y.qS,x with
 | some n,some xs,.ptr [j,i,s,r]=>if xs.length=n then (bif xs.all Lf.live then (match kL r (fun m=>(j+m) :: i :: s :: [r]) xs.length 0 xs σ with
  | some (vs,τ)=>(match τ.m r with
   | some (.sl (.sl t' (o+2) qn l))=>if s=aj t' then (if h:i<l.length then (if j+n<=aj t' then (match dec t' o (cL (enc t' o l[i]) j vs)with
    | some e=>k (τ.aF [r] [] [(r,.sl (.sl t' (o+2) qn (l.set i e)))])
    | none=>none)else none)else none)else none
   | _=>none)
  | none=>none)else none)else none
 | _,_,_=>none
def s9(x y:A):Bool:=match x,y.qS with
 | .ptr _,some xs=>(oy xs).isNone
 | _,_=>false
section
variable {P:Program} {w w':World} {w0:Wd} {B N:Nat} {lab af:aG} {ρ ρ':Nat->Loc} {σ:S} {a:Act} {X:Type} {d:Nat} {r:X} {o:Oper}
theorem K9{place:Nat->Option (Nat×Nat)}:∀ (parts:List (Nat×A)) (cells out:List Lf),qV place cells parts=some out->out.length=cells.length
 | [],cells,out,h=>by injection h with h;rw[h]
 | (i,x) :: rest,cells,out,h=>by
  unfold qV at h
  split at h
  ·rename_i off n xs hp hx
   split at h
   ·rename_i hc
    cases hl:xs.all Lf.live with
    | true=>
     rw[hl,cond_true]at h
     rw[K9 rest _ _ h,sx _ _ _ (by omega)]
    | false=>rw[hl]at h;cases h
   ·cases h
  ·cases h
theorem T6{t:TypeId}{len:Nat}{parts:Array (Nat×Operand)}{k:S->Option X}(h:rM P N σ d t len parts.toList k=some r):∃ aa,k aa=some r/\∀ lab ρ a w,Rl w0 N lab ρ σ a w->
  ∃ w' af ρ' v,(Instr.buildSlice t len (parts.map fun(i,x)=>(i,a.eval x))).run P w = .ok v w'/\Rl w0 N af ρ' aa (a.put (some d) v) w':=by
 unfold rM at h
 split at h
 ·rename_i e tc dS
  obtain⟨cK,ht,i,hi,hsz,dI⟩:=sH dS
  split at h
  ·rename_i z hz
   cases hc:(Nat.beq z.cells.size (aj tc)&&Nat.blt (len*aj tc) 16777217)with
   | false=>rw[hc]at h;cases h
   | true=>
    rw[hc,cond_true]at h
    rw[Bool.and_eq_true]at hc
    have dy:=Nat.eq_of_beq_eq_true hc.1
    have SA:len*aj tc<16777217:=by have:=Nat.le_of_ble_eq_true hc.2;omega
    have kM:i.zero=some z:=by unfold zeroOf at hz;simpa [hi]using hz
    split at h
    ·rename_i cs bU
     have key:∀ lab ρ (a:Act) w,Rl w0 N lab ρ σ a w->∃ cW,(Instr.buildSlice t len (parts.map fun(i,x)=>(i,a.eval x))).run P w = .ok (.slice (some ⟨w.heap.size,0,none⟩) len len) (w.alloc (.cells cW e))/\bH w w0.heap.size lab ρ cs cW/\cW.size=cs.length:=fun lab ρ a w hR=>by
      have E2:bH w w0.heap.size lab ρ (List.replicate len (z.cells.toList.map ey)).flatten (madeCells z.cells (len*aj tc)):=by
       have e1:(List.replicate len (z.cells.toList.map ey)).flatten=((List.replicate len z.cells.toList).flatten).map ey:=by
        rw[List.map_flatten,List.map_replicate]
       rw[e1,<-Ke z.cells (aj tc) len dy (lF tc)]
       refine⟨by simp,fun j x hx=>?_⟩
       rw[List.getElem?_map]at hx
       cases hv:(madeCells z.cells (len*aj tc)).toList[j]? with
       | none=>rw[hv]at hx;cases hx
       | some v=>
        rw[hv]at hx
        injection hx with hx
        subst hx
        exact⟨v,by simpa using hv,Bb v⟩
      obtain⟨cW,oN,hl⟩:=Bg (w:=w) (B:=w0.heap.size) (lab:=lab) (ρ:=ρ) _ _ _ (parts.toList.map fun p=>(p.1,a.eval p.2)) cs bU E2 (by simp) (fun j p q hp hq=>by
       rw[List.getElem?_map]at hp hq
       cases hx:parts.toList[j]? with
       | none=>rw[hx]at hp;cases hp
       | some x=>
        rw[hx]at hp hq
        injection hp with hp
        injection hq with hq
        subst hp hq
        exact⟨rfl,hR.ah x.2⟩)
      have aC:(Instr.buildSlice t len (parts.map fun(i,x)=>(i,a.eval x))).run P w = .ok (.slice (some ⟨w.heap.size,0,none⟩) len len) (w.alloc (.cells cW e)):=by
       have yp:(parts.map fun(i,x)=>(i,a.eval x)).toList=parts.toList.map fun p=>(p.1,a.eval p.2):=by simp
       by_cases h0:len*aj tc=0
       ·have hm:madeCells z.cells (len*aj tc) = #[]:=by rw[h0];simp[madeCells]
        rw[hm]at oN
        have E3:len*i.size=0:=by rw[hsz];exact h0
        rw[<-hsz]at oN
        have e0:∀ f:Nat->Value,Array.map f (Array.range 0) = #[]:=fun f=>by simp
        simp only[Instr.buildSlice,Sem.run_bind,run_underlying cK,Result.andThen_ok,sizeOf,typeInfo]
        simp[hi,E3]
        rw[e0,oN]
        simp[newRow]
       ·exact run_buildSlice (P:=P) w t e len _ cW i z cK hi kM (by rw[hsz];omega) (by rw[hsz];exact h0) (by rw[hsz,yp];exact oN)
      exact⟨cW,aC,hl,hl.1⟩
     cases eU:Nat.beq len 0 with
     | true=>
      rw[eU,cond_true]at h
      have T7:=Nat.eq_of_beq_eq_true eU
      subst T7
      obtain⟨hd,h⟩:=ja h
      refine⟨_,h,fun lab ρ a w hR=>?_⟩
      obtain⟨cW,aC,hl,hcz⟩:=key lab ρ a w hR
      have sS:cs.length=0:=by
       have h1:=K9 _ _ _ bU
       rw[h1]
       simp
      refine⟨_,aH lab w.heap.size (some [d]),aH ρ d (.bS (.slice (some ⟨w.heap.size,0,none⟩) 0 0)),_,aC,(hR.vh (hR.cB d (.inl hd)) (fun r hr=>aQ _ _ _ hr) (.sl _ _ (aJ _ _ _) ?_)).set ⟨rfl,by simp[aP,aJ]⟩ hd⟩
      exact RV.own (w:=w.alloc (.cells cW e)) (B:=w0.heap.size) (lab:=aH lab w.heap.size (some [d])) [d] tc (full tc) true [] w.heap.size 0 cW (fun _ _=>undef)
       (aJ _ _ _) (by rw[ht];exact heap_alloc_new w _) (by omega) (Nat.le_refl _) ⟨by unfold maxLen;omega,fun _=>rfl⟩ (fun i' h'=>absurd h' (by simp)) (fun i' h'=>absurd h' (by simp))
     | false=>
     rw[eU,cond_false]at h
     obtain⟨hd,h⟩:=ja h
     refine⟨_,h,fun lab ρ a w hR=>?_⟩
     obtain⟨cW,aC,hl,_⟩:=key lab ρ a w hR
     refine⟨_,aH lab w.heap.size (some [d]),aH ρ d (.blk w.heap.size 0),_,aC,(hR.vh (hR.cB d (.inl hd)) (fun r hr=>aQ _ _ _ hr) ?_).set ⟨w.heap.size,aJ _ _ _,(Et (by have:=Nat.le_mul_of_pos_right len (lF tc);unfold jR;omega)).symm⟩ hd⟩
     have h1:bH (w.alloc (.cells cW e)) w0.heap.size (aH lab w.heap.size (some [d])) ρ cs cW:=
      hl.cZ (by simp) (fun b U=>⟨Below.heap_alloc w _ b U,aQ _ _ _ (by omega)⟩) (fun b k U=>(hR.bf b k U).2.1)
     have h2:=h1.bY (ρ':=aH ρ d (.blk w.heap.size 0)) (d:=d) (fun r hr=>aQ _ _ _ hr)
     refine .blk w.heap.size 0 cW e _ (fun j=>cW.getD j undef) (aJ _ _ _) (aJ _ _ _) (heap_alloc_new w _) (by rw[h2.1];omega) fun j y hy=>?_
     obtain⟨v,hv,hr⟩:=h2.2 j y hy
     have hg:cW.getD j undef=v:=by rw[Array.getD_eq_getD_getElem?,hv];rfl
     rw[hg,Nat.zero_add]
     exact⟨hv,hr⟩
    ·cases h
  ·cases h
 ·cases h
theorem La{t:TypeId}{len:Nat}{parts:List (Nat×Operand)}{k:S->Option X}(h:rM P N σ d t len parts k=some r):∃ y u,k (((σ.drop d).root d y).set d u)=some r/\
  (∀ (aa:S),(∀ p∈parts,ah aa p.2=ah σ p.2)->aS (fun X k=>rM (X:=X) P N aa d t len parts k) (((aa.drop d).root d y).set d u)):=by
 unfold rM at h
 split at h
 ·rename_i e tc dS
  split at h
  ·rename_i z hz
   cases hc:(Nat.beq z.cells.size (aj tc)&&Nat.blt (len*aj tc) 16777217)with
   | false=>rw[hc]at h;cases h
   | true=>
    rw[hc,cond_true]at h
    split at h
    ·rename_i cs bU
     cases eU:Nat.beq len 0 with
     | true=>
      rw[eU,cond_true]at h
      obtain⟨h1,_⟩:=nI h
      refine⟨_,_,h1,fun aa yX X k=>?_⟩
      obtain⟨hN,_⟩:=ja h
      have ew:Nat.blt d N=true:=Nat.ble_eq_true_of_le hN
      have e:(parts.map fun p=>(p.1,ah aa p.2))=parts.map fun p=>(p.1,ah σ p.2):=List.map_congr_left fun p hp=>by rw[yX p hp]
      simp only[rM,dS,hz,hc,cond_true,e,bU,dR,ew,eU]
     | false=>
      rw[eU,cond_false]at h
      obtain⟨h1,_⟩:=nI h
      refine⟨_,_,h1,fun aa yX X k=>?_⟩
      obtain⟨hN,_⟩:=ja h
      have ew:Nat.blt d N=true:=Nat.ble_eq_true_of_le hN
      have e:(parts.map fun p=>(p.1,ah aa p.2))=parts.map fun p=>(p.1,ah σ p.2):=List.map_congr_left fun p hp=>by rw[yX p hp]
      simp only[rM,dS,hz,hc,cond_true,e,bU,dR,ew,eU,cond_false]
    ·cases h
  ·cases h
 ·cases h
theorem Lb{t e ty:TypeId}{tc:TC}{i:TypeInfo}{z:Value}{rr ry n:Nat}{k:S->Option X}(cK:P.underlying t=some (.slice e))(ht:tid tc=e)(hi:P.info? e=some i)(hz:i.zero=some z)
  (hsz:i.size=aj tc) (dI:i.bytes<=65536) (dy:z.cells.size=aj tc) (h:o8 N σ d rr ry tc n k=some r):∃ aa,k aa=some r/\∀ lab ρ a w,Rl w0 N lab ρ σ a w->w0.F rr=none->∀ u v b,ρ rr = .bS u->ρ ry = .blk b 0->v = .slice (some ⟨b,0,none⟩) n n->
  ∃ w' af ρ' z,(Builtin.append_ #[t,t] ty #[u,v]).run P w = .ok z w'/\Rl w0 N af ρ' aa (a.put (some d) z) w':=by
 unfold o8 at h
 split at h
 ·rename_i cs t' o q l za hr
  split at h
  ·rename_i di
   subst di
   split at h
   ·rename_i vs τ td
    split at h
    ·rename_i l2 ez
     cases hL:(Nat.blt d N&&bz (l.length+l2.length))with
     | false=>rw[hL]at h;cases h
     | true=>
      rw[hL,cond_true]at h
      rw[Bool.and_eq_true]at hL
      have qU:l.length+l2.length<1073741824:=by simpa [bz]using hL.2
      have hd:d<N:=by have:=Nat.le_of_ble_eq_true hL.1;omega
      refine⟨_,h,fun lab ρ a w hR hF u v b T8 T9 hv=>?_⟩
      subst hv
      have hy:=hR.root ry _ za
      generalize he:au.blk cs=x at hy
      cases hy with
      | sl=>cases he
      | mp=>cases he
      | gh=>cases he
      | blk b' off cells e' cS us aq bI hh hs hc=>
       injection he with he
       subst he
       rw[T9]at aq
       injection aq with e1 e2
       subst e1 e2
       have cE:bH w w0.heap.size lab ρ cs ((List.range cs.length).map us).toArray:=by
        refine⟨by simp,fun j x hx=>?_⟩
        have hj:j<cs.length:=(List.getElem?_eq_some_iff.1 hx).1
        exact⟨us j,by simp[hj],(hc j x hx).2⟩
       obtain⟨af,aA,lM,BI,_,gW,bA,_,_⟩:=A9 (w0:=w0) (N:=N) (fun j=>by simp[aD]) _ _ _ _ _ _ td lab ρ a w hR _ cE
       obtain⟨Bi,Ua,iN⟩:=E1 t' o n vs l2 ez
       have bV:cs.length=n*aj t':=by rw[<-lM,Ua]
       have gB:∀ j,j<cs.length->(us j).oneCell'=true:=by
        intro j hj
        have hx:=List.getElem?_eq_getElem (l:=vs) (i:=j) (by rw[lM];exact hj)
        obtain⟨u',fZ,bq⟩:=BI j _ hx
        have:u'=us j:=by simpa [hj]using fZ.symm
        rw[<-this]
        exact bq.one
       have nK:b<w.heap.size:=(Array.getElem?_eq_some_iff.1 hh).1
       have oH:Reads w w.heap.size (aj t') (some ⟨b,0,none⟩) n ((List.range cs.length).map us):=by
        refine⟨by simp[bV],fun hn=>⟨b,0,rfl,nK,fun j v hv=>?_⟩⟩
        have hj:j<cs.length:=by have:=(List.getElem?_eq_some_iff.1 hv).1;simpa using this
        have:v=us j:=by simpa [hj]using hv.symm
        subst this
        rw[cell_of_row w b _ cells _ _ hh]
        exact(hc j _ (List.getElem?_eq_getElem hj)).1
       have ew:l9 w w0.heap.size af rr l.length t' o l2 ((List.range cs.length).map us):=by
        intro i' o6 j x hx
        have hj:j<aj t':=by have:=(List.getElem?_eq_some_iff.1 hx).1;rwa [iF]at this
        obtain⟨y,hy,hw⟩:=iN i' o6 j x hx
        obtain⟨u',fZ,bq⟩:=BI _ _ hy
        refine⟨u',fZ,?_⟩
        have e1:(0+(i'*aj t'+j)) % aj t'=j:=by rw[Nat.zero_add,Nat.add_comm,Nat.add_mul_mod_self_right,Nat.mod_eq_of_lt hj]
        have e2:(0+(i'*aj t'+j)) / aj t'=i':=by rw[Nat.zero_add,Nat.add_comm,Nat.add_mul_div_right _ _ (lF t'),Nat.div_eq_of_lt hj,Nat.zero_add]
        simp only[e1,e2]at bq
        exact bq.wk hw
       have tf:=aA.root rr _ (gW _ hr)
       generalize he:au.sl (.sl t' (o+2) q l)=x at tf
       cases tf with
       | blk=>cases he
       | mp=>cases he
       | gh=>cases he
       | sl uu y dK bq=>
        injection he with he
        subst he
        rw[T8]at dK
        injection dK with dK
        subst dK
        obtain⟨v',w',bE,aC,fS,dJ⟩:=aA.Sw (ty:=ty) (c:=n) hF cK ht hi hz hsz dI dy bq oH (fun v hv=>by
         obtain⟨j,hj⟩:=List.mem_iff_getElem?.1 hv
         have Lc:j<cs.length:=by have:=(List.getElem?_eq_some_iff.1 hj).1;simpa using this
         have:v=us j:=by simpa [Lc]using hj.symm
         rw[this];exact gB j Lc) Bi.symm ew qU
        exact⟨w',bE,_,v',aC,fS.set ⟨dJ,by simp[aP,aJ]⟩ hd⟩
    ·cases h
   ·cases h
  ·cases h
 ·cases h
theorem Ld{rr ry n:Nat}{tc:TC}{k:S->Option X}(h:o8 N σ d rr ry tc n k=some r):∃ τ,k τ=some r/\aS (fun X k=>o8 (X:=X) N σ d rr ry tc n k) τ:=by
 unfold o8 at h
 split at h
 ·rename_i cs t' o q l za hr
  split at h
  ·rename_i di
   split at h
   ·rename_i vs τ td
    split at h
    ·rename_i l2 ez
     cases hL:(Nat.blt d N&&bz (l.length+l2.length))with
     | false=>rw[hL]at h;cases h
     | true=>
      rw[hL,cond_true]at h
      exact⟨_,h,fun X k=>by simp only[o8,za,hr,dif_pos di,td,ez,hL,cond_true]⟩
    ·cases h
   ·cases h
  ·cases h
 ·cases h
theorem Ub{t ty:TypeId}{x y:A}{k:S->Option X}(h:rN P N σ d t x y k=some r):∃ aa,k aa=some r/\∀ lab ρ a w,Rl w0 N lab ρ σ a w->∀ u v,RA w w0.heap.size lab ρ x u->RA w w0.heap.size lab ρ y v->
  ∃ w' af ρ' z,(Builtin.append_ #[t,t] ty #[u,v]).run P w = .ok z w'/\Rl w0 N af ρ' aa (a.put (some d) z) w':=by
 unfold rN at h
 split at h
 ·rename_i e tc ry n dS
  obtain⟨cK,ht,i,hi,hsz,dI⟩:=sH dS
  cases hc:((zeroOf P e).any (fun z=>Nat.beq z.cells.size (aj tc))&&(Nat.blt d N&&Nat.blt n jR))with
  | false=>rw[hc]at h;cases h
  | true=>
   rw[hc,cond_true]at h
   rw[Bool.and_eq_true]at hc
   obtain⟨z,hz,dy⟩:=(Option.any_eq_true _ _).1 hc.1
   have dy:=Nat.eq_of_beq_eq_true dy
   have kM:i.zero=some z:=by unfold zeroOf at hz;simpa [hi]using hz
   have iH:=hc.2
   rw[Bool.and_eq_true]at iH
   have hd:d<N:=by have:=Nat.le_of_ble_eq_true iH.1;omega
   have bW:n<jR:=by have:=Nat.le_of_ble_eq_true iH.2;omega
   split at h
   ·obtain⟨aa,h2,hs⟩:=Lb (w0:=w0) (ty:=ty) cK ht hi kM hsz dI dy h
    refine⟨aa,h2,fun lab ρ a w hR u v hu hv=>?_⟩
    have hu:u = .slice none 0 0:=by cases hu.2;rfl
    subst hu
    obtain⟨b,U,rfl⟩:=hv
    have za:ry≠d:=by
     rintro rfl
     unfold o8 at h
     split at h
     ·rename_i h1 h2
      have:(aH (σ.drop ry).m ry (some (au.sl (.sl tc (full tc+2) false [])))) ry=_:=h1
      rw[aJ]at this
      cases this
     ·cases h
    have Uc:=hR.new (d:=d) (x:=.sl (.sl tc (full tc+2) false [])) (.bS (.slice none 0 0)) (.sl _ _ (aJ _ _ _) (.aY _ _ _)) (hR.cB d (.inl hd))
    exact hs _ _ a w Uc (hR.cB d (.inl hd)) _ _ b (aJ _ _ _) ((aQ _ _ _ za).trans U) (Et bW)
   ·rename_i rr
    cases hL:(Nat.blt rr N || Nat.ble 60000 rr)with
    | false=>rw[hL]at h;cases h
    | true=>
     rw[hL,cond_true]at h
     rw[Bool.or_eq_true]at hL
     have gW:rr<N\/60000<=rr:=hL.imp (fun h=>by have:=Nat.le_of_ble_eq_true h;omega) (fun h=>Nat.le_of_ble_eq_true h)
     obtain⟨aa,h2,hs⟩:=Lb (w0:=w0) (ty:=ty) cK ht hi kM hsz dI dy h
     refine⟨aa,h2,fun lab ρ a w hR u v hu hv=>?_⟩
     obtain⟨b,U,rfl⟩:=hv
     have aq:ρ rr = .bS u:=by
      have h4:=hu.2
      simp only[aP]at h4
      cases hl:ρ rr with
      | blk b o=>rw[hl]at h4;cases h4
      | aN us=>rw[hl]at h4;cases h4
      | bS v=>rw[hl]at h4;injection h4 with h4;rw[h4]
     exact hs lab ρ a w hR (hR.cB rr gW) _ _ b aq U (Et bW)
   ·cases h
 ·cases h
theorem Ud{t:TypeId}{x y:A}{k:S->Option X}(h:rN P N σ d t x y k=some r):∃ τ,k τ=some r/\aS (fun X k=>rN (X:=X) P N σ d t x y k) τ:=by
 unfold rN at h
 split at h
 ·rename_i e tc ry n dS
  cases hc:((zeroOf P e).any (fun z=>Nat.beq z.cells.size (aj tc))&&(Nat.blt d N&&Nat.blt n jR))with
  | false=>rw[hc]at h;cases h
  | true=>
   rw[hc,cond_true]at h
   split at h
   ·obtain⟨τ,h1,h2⟩:=Ld h
    exact⟨τ,h1,fun X k=>by simp only[rN,dS,hc,cond_true];exact h2 X k⟩
   ·rename_i rr
    cases hL:(Nat.blt rr N || Nat.ble 60000 rr)with
    | false=>rw[hL]at h;cases h
    | true=>
     rw[hL,cond_true]at h
     obtain⟨τ,h1,h2⟩:=Ld h
     exact⟨τ,h1,fun X k=>by simp only[rN,dS,hc,hL,cond_true];exact h2 X k⟩
   ·cases h
 ·cases h
theorem Ue{t:TypeId}{x y:A}{k:S->Option X}(h:s8 P σ t x y k=some r):∃ aa,k aa=some r/\∀ lab ρ a w,Rl w0 N lab ρ σ a w->∀ u v,RA w w0.heap.size lab ρ x u->RA w w0.heap.size lab ρ y v->
  ∃ w' af,(Instr.storeAt t u v).run P w = .ok () w'/\Rl w0 N af ρ aa a w':=by
 unfold s8 at h
 split at h
 ·rename_i n xs j i s rr hn dB
  split at h
  ·rename_i hlen
   cases eL:xs.all Lf.live with
   | false=>rw[eL]at h;cases h
   | true=>
    rw[eL,cond_true]at h
    split at h
    ·rename_i vs τ td
     split at h
     ·rename_i t' o' qn l cc
      split at h
      ·rename_i iI
       split at h
       ·rename_i hi
        split at h
        ·rename_i hj
         split at h
         ·rename_i e he
          refine⟨_,h,fun lab ρ a w hR u v hu hv=>?_⟩
          obtain⟨ad,rfl,eS⟩:=hu
          obtain⟨hl,gB⟩:=ye dB eL hv
          have cE:bH w w0.heap.size lab ρ xs v.cells.toList.toArray:=by simpa using hl
          obtain⟨af,aA,lM,BI,_,gW,bA,abb,_⟩:=A9 (w0:=w0) (N:=N) (fun m=>by simp[aD]) _ _ _ _ _ _ td lab ρ a w hR _ cE
          simp only[addrAt]at eS
          split at eS
          ·rename_i b n0 c0 aq
           split at eS
           ·rename_i bI
            injection eS with eS
            subst eS
            have tf:=aA.root rr _ cc
            generalize hx:au.sl (.sl t' (o'+2) qn l)=x at tf
            cases tf with
            | blk=>cases hx
            | mp=>cases hx
            | gh=>cases hx
            | sl uu y dK bq=>
             injection hx with hx
             subst hx
             rw[aq]at dK
             injection dK with dK
             subst dK
             cases bq with
             | av _ _ _ _ _ _ _ _ _ ho=>omega
             | bn=>simp at hi
             | bF=>simp at hi
             | own _ _ _ _ _ _ cap cs us BJ hh hs va hm hc hr=>
              subst iI
              have FT:v.cells.size=n:=by rw[hl.1,hlen]
              have bZ:i*aj t'+aj t'<=c0*aj t':=by
               have:(i+1)*aj t'<=c0*aj t':=Nat.mul_le_mul_right _ (by omega)
               rw[Nat.succ_mul]at this
               exact this
              have fD:i*aj t'+j+v.cells.toList.length<=cs.size:=by rw[Array.length_toList,FT,hs];omega
              have hW:=Ex w b (i*aj t'+j) v.cells.toList
              obtain⟨c2,ew,iH⟩:=AD b (tid t') v.cells.toList (i*aj t'+j) w cs hh fD
              have u7:∀ m,c2[m]?=if m<i*aj t'+j then cs[m]? else if m<i*aj t'+j+n then v.cells[m-(i*aj t'+j)]? else cs[m]?:=by
               intro m
               have e2:c2[m]?=(cL cs.toList (i*aj t'+j) v.cells.toList)[m]?:=by
                rw[show c2[m]?=c2.toList[m]? by simp,iH]
                rfl
               rw[e2,sy _ _ _ (by simpa using fD),Array.length_toList,FT]
               simp
              have EC:c2.size=cs.size:=by
               rw[<-Array.length_toList,iH]
               have:=sx cs.toList (i*aj t'+j) v.cells.toList (by simpa using fD)
               simp only[cL]at this
               rw[this]
               simp
              have nK:b<w.heap.size:=(Array.getElem?_eq_some_iff.1 hh).1
              have hz:w.heap.size<=(w.setCells b (i*aj t'+j) v.cells.toList).heap.size:=Nat.le_of_eq hW.size.symm
              have oJ:∀ b',b'<w.heap.size->af b'≠some [rr]->(w.setCells b (i*aj t'+j) v.cells.toList).heap[b']?=w.heap[b']?:=fun b' _ az=>hW.block b' (by rintro rfl;exact az BJ)
              have yf:w.there b (i*aj t'+j) v.cells.size:=by
               intro m iL
               refine⟨?_,frozen_of_row w b _ cs _ hh⟩
               rw[cell_of_row w b _ cs _ _ hh]
               rw[Array.length_toList]at fD
               simp
               omega
              have cN:vs.length=n:=by rw[lM,hlen]
              refine⟨_,af,EH w b _ t v yf (by rw[FT];exact hn) gB,aA.eO (ns:=[rr]) (cn:=[]) (ct:=ρ) (bE:=af) ⟨hz,fun b' gV hk=>⟨hW.block b' ?_,rfl⟩,fun _ _=>rfl,fun b' k hk=>(aA.bf b' k hk).2⟩
               ⟨hW.os,hW.tape,hW.output,hz,fun k hk hL=>hW.block k ?_⟩ (fun b' k hk=>?_) (fun r hr=>by cases hr) (fun r0 x hx=>?_)⟩
              ·rintro rfl
               have:=hk _ BJ
               simp[aT,aM]at this
              ·rintro rfl
               rcases(aA.bf k _ BJ).1 with h1 | h1
               ·exact absurd hk (Nat.not_lt.2 h1)
               ·exact h1 hL
              ·have:=aA.bf b' k hk
               exact⟨this.1,Nat.lt_of_lt_of_le this.2.1 hz,this.2.2⟩
              ·have aW:r0=rr/\x = .sl (.sl t' (o'+2) qn (l.set i e)):=by
                simp only[List.lookup]at hx
                split at hx
                ·rename_i gV
                 injection hx with hx
                 exact⟨by simpa using gV,hx.symm⟩
                ·cases hx
               obtain⟨rfl,rfl⟩:=aW
               refine .sl _ _ aq ?_
               refine RV.A4 (u:=us) (us:=fun _ m=>v.cells.getD (m-j) undef) (cs:=cs) (xs:=vs) BJ ew (EC.trans hs) va hm hi (by rw[cN];exact hj) he (fun i' h' j' x bx ya=>?_) (fun m x bx=>?_)
               ·have jS:j'<aj t':=by have:=(List.getElem?_eq_some_iff.1 bx).1;rwa [iF]at this
                refine⟨?_,(hr i' h' j' x bx).under (n:=r0) (.inl (by simp)) hz oJ (fun _ _=>rfl)⟩
                rw[u7]
                have l5:¬ (¬ i'*aj t'+j'<i*aj t'+j/\i'*aj t'+j'<i*aj t'+j+n):=by
                 rintro⟨h1,h2⟩
                 rcases Nat.lt_trichotomy i' i with aV | heq | ED
                 ·have:(i'+1)*aj t'<=i*aj t':=Nat.mul_le_mul_right _ aV
                  rw[Nat.succ_mul]at this
                  omega
                 ·subst heq
                  exact ya ⟨rfl,by omega,by omega⟩
                 ·have:(i+1)*aj t'<=i'*aj t':=Nat.mul_le_mul_right _ ED
                  rw[Nat.succ_mul]at this
                  omega
                split
                ·exact hc i' h' j' x bx
                ·rw[if_neg (by omega)]
                 exact hc i' h' j' x bx
               ·obtain⟨v0,jx,A5⟩:=BI m x bx
                have iL:m<n:=by rw[<-cN];exact(List.getElem?_eq_some_iff.1 bx).1
                have Le:v.cells[m]?=some v0:=by simpa using jx
                have ow:v.cells.getD (j+m-j) undef=v0:=by rw[show j+m-j=m by omega,Array.getD_eq_getD_getElem?,Le];rfl
                show c2[_]?=some (v.cells.getD (j+m-j) undef)/\RV _ _ _ _ _ (v.cells.getD (j+m-j) undef)
                rw[ow,u7,if_neg (by omega),if_pos (by omega)]
                rw[Nat.zero_add]at A5
                refine⟨?_,A5.under (n:=r0) (.inl (by simp)) hz oJ (fun _ _=>rfl)⟩
                rw[show i*aj t'+(j+m)-(i*aj t'+j)=m by omega]
                exact Le
           ·cases eS
          ·cases eS
         ·cases h
        ·cases h
       ·cases h
      ·cases h
     ·cases h
    ·cases h
  ·cases h
 ·cases h
theorem Uf{t:TypeId}{x y:A}{k:S->Option X}(h:s8 P σ t x y k=some r):∃ τ,k τ=some r/\aS (fun X k=>s8 (X:=X) P σ t x y k) τ:=by
 unfold s8 at h
 split at h
 ·rename_i n xs j i s rr hn dB
  split at h
  ·rename_i hlen
   cases eL:xs.all Lf.live with
   | false=>rw[eL]at h;cases h
   | true=>
    rw[eL,cond_true]at h
    split at h
    ·rename_i vs τ td
     split at h
     ·rename_i t' o' qn l cc
      split at h
      ·rename_i iI
       split at h
       ·rename_i hi
        split at h
        ·rename_i hj
         split at h
         ·rename_i e he
          exact⟨_,h,fun X k=>by simp only[s8,hn,dB,if_pos hlen,eL,cond_true,td,cc,if_pos iI,dif_pos hi,if_pos hj,he]⟩
         ·cases h
        ·cases h
       ·cases h
      ·cases h
     ·cases h
    ·cases h
  ·cases h
 ·cases h
end
end Go.Proofs.YtjldnlbiefpekaaDoor
namespace Go.Proofs.YtjldnlbiefpekaaDoor
open Go.RowKit
set_option linter.unusedVariables false
def Lg(P:Program)(f:Nat)(F:List Int->Option Int):Prop:=
 ∀ (w:World) (l:List (T .u8)) (h:Int) (v:Value),F l=some h->RV w w.heap.size (fun _=>none) [] (.sl .u8 0 false l) v->Hd w (fun _=>none)->Calls P f #[v] w fun e w'=>
  ∃ b off cells t,e = .returned (.pointer (some ⟨b,off,none⟩))/\Below w.heap.size w w'/\w.heap.size<=b/\w'.heap[b]?=some (.cells cells t (0,0))/\cells[off]?=some v/\cells[off+1]?=some (.int .i64 0)/\cells[off+2]?=some (.int .i64 h)
def th{X:Type}(N:Nat)(σ:S)(d:Nat)(F:List Int->Option Int)(x:A)(k:S->Option X):Option X:=
 match x with
 | .lf (.v (.sl .u8 0 q l))=>bif Nat.blt d N then (match F l with
  | some h=>k (((σ.drop (1000000000100000+1000*d)).root (1000000000100000+1000*d) (.blk [.v (.sl .u8 0 q l),.v (.int .i64 0),.v (.int .i64 h)])).set d (.aE (1000000000100000+1000*d) 0))
  | none=>none)else none
 | _=>none
structure zb where
 a:Nat
 j:Nat
 t:TC
 run:List Pt->Option (Nat×Nat)
def Lh(aN:Array Value)(a j:Nat):Option Value:=match aN[a]? with
 | some (.agg us)=>us[j]?
 | some u=>bif Nat.beq j 0 then some u else none
 | none=>none
def Li(P:Program)(f:Nat)(c:zb):Prop:=
 ∀ (args:List Pt) (p:Nat×Nat),c.run args=some p->∀ (w:World) (aN:Array Value),rq w args aN->Hd w (fun _=>none)->Calls P f aN w fun e w'=>
  ∃ A n cap,Lh aN c.a c.j=some (.slice A n cap)/\p.1<=p.2/\p.2<=n/\e = .returned (sliced A p.1 p.2 cap (aj c.t))/\Below w.heap.size w w'
def Lj(σ:S)(args:List Operand)(a j:Nat):Option Lf:=match args[a]? with
 | some x=>(match ah σ x with
  | .agg cs=>cs[j]?
  | .lf l=>bif Nat.beq j 0 then some l else none
  | _=>none)
 | none=>none
def tj{X:Type}(N:Nat)(σ:S)(d:Nat)(c:zb)(args:List Operand)(k:S->Option X):Option X:=
 bif Nat.blt d N then fo σ args fun ps=>(match c.run ps with
  | some p=>(match Lj σ args c.a c.j with
   | some (.v (.sl t g _ l))=>if t=c.t then (bif Nat.blt g 2&&Nat.ble p.1 p.2&&Nat.ble p.2 l.length then k (σ.set d (.lf (.v (.sl t g false ((l.take p.2).drop p.1)))))else none)else none
   | _=>none)
  | none=>none)else none
structure mz where
 run:(X:Type)->Nat->S->List A->(S->A->Option X)->Option X
def lU(P:Program)(f:Nat)(c:mz):Prop:=
 ∀ [Inhabited Wd] (X:Type) (N:Nat) (σ:S) (xs:List A) (k:S->A->Option X) (r:X),c.run X N σ xs k=some r->∃ aa y,k aa y=some r/\(∀ (X':Type) (k':S->A->Option X'),c.run X' N σ xs k'=k' aa y)/\
  ∀ (w0:Wd) (lab:aG) (ρ:Nat->Loc) (a:Act) (w:World) (aN:Array Value),Rl w0 N lab ρ σ a w->aN.size=xs.length->(∀ i,RA w w0.heap.size lab ρ ((xs[i]?).getD .undef) (aN.getD i undef))->
   Calls P f aN w fun e w'=>∃ v af ρ',e = .returned v/\Rl w0 N af ρ' aa a w'/\RA w' w0.heap.size af ρ' y v
inductive mA where
 | p (c:cx)
 | m (c:gE)
 | n (F:List Int->Option Int)
 | v (c:zb)
 | i (c:mz)
 | d (c:gE)
 | q (c:cx)
 | c (c:gE)
def Ll(P:Program)(f:Nat):mA->Prop
 | .p c=>cy P f c
 | .m c=>nw P f c
 | .n F=>Lg P f F
 | .v c=>Li P f c
 | .i c=>lU P f c
 | .d c=>nw P f c
 | .q c=>cy P f c
 | .c c=>nw P f c
section
variable {P:Program} {w w':World} {w0:Wd} {B N:Nat} {lab bE af:aG} {ρ ct ρ':Nat->Loc} {σ:S} {a:Act} {X:Type} {d:Nat} {r:X} {ns cn:List Nat} {o:Oper}
theorem FU:∀ (xs:List Lf) (k:List V->Option X),jC σ ns xs k=some r->∃ vs,k vs=some r/\aS (fun X k=>jC (X:=X) σ ns xs k) vs
 | [],k,h=>⟨[],h,fun X k=>rfl⟩
 | x :: xs,k,h=>by
  unfold jC at h
  cases ho:Bt ns x with
  | false=>rw[ho]at h;cases h
  | true=>
   rw[ho,cond_true]at h
   obtain⟨y,h2,hd⟩:=rL h
   obtain⟨ys,h3,eZ⟩:=FU xs _ h2
   exact⟨_,h3,fun X k=>by
    simp only[jC,ho,cond_true]
    exact(hd.at_ _).trans (eZ.at_ _)⟩
theorem Ln{x:A}{k:Pt->Option X}(h:jZ σ ns x k=some r):∃ p,k p=some r/\aS (fun X k=>jZ (X:=X) σ ns x k) p:=by
 unfold jZ at h
 split at h
 ·rename_i y
  obtain⟨vs,h2,hd⟩:=FU _ _ h
  exact⟨_,h2,fun X k=>hd X (fun vs=>k (false,vs))⟩
 ·rename_i ys
  obtain⟨vs,h2,hd⟩:=FU _ _ h
  exact⟨_,h2,fun X k=>hd X (fun vs=>k (true,vs))⟩
 ·cases h
theorem tn:∀ (ps:List PK) (xs:List Operand) (ak:List Mu) (k:iS ps->Option X),dZ σ ns ps xs ak k=some r->∃ x,k x=some r/\aS (fun X k=>dZ (X:=X) σ ns ps xs ak k) x
 | [],[],[],k,h=>⟨(),h,fun X k=>rfl⟩
 | .v b t :: ps,x :: xs,ak,k,h=>by
  unfold dZ at h
  obtain⟨p,h2,hd⟩:=Ln h
  cases U:p.1==b with
  | false=>rw[U]at h2;cases h2
  | true=>
   rw[U,cond_true]at h2
   split at h2
   ·rename_i y hy
    obtain⟨ys,h3,eZ⟩:=tn ps xs ak _ h2
    exact⟨_,h3,fun X k=>by
     show jZ σ ns (ah σ x) _=_
     refine(hd.at_ _).trans ?_
     rw[U,cond_true,hy]
     exact eZ.at_ _⟩
   ·cases h2
 | .p t g off :: ps,x :: xs,.blk r' cs vs :: ak,k,h=>by
  unfold dZ at h
  split at h
  ·rename_i y hy
   obtain⟨ys,h3,eZ⟩:=tn ps xs ak _ h
   exact⟨_,h3,fun X k=>by
    simp only[dZ,hy]
    exact eZ.at_ _⟩
  ·cases h
 | .s t g :: ps,x :: xs,.sl q y0 :: ak,k,h=>by
  unfold dZ at h
  split at h
  ·rename_i y hy
   obtain⟨ys,h3,eZ⟩:=tn ps xs ak _ h
   exact⟨_,h3,fun X k=>by
    simp only[dZ,hy]
    exact eZ.at_ _⟩
  ·cases h
 | [],[],_ :: _,k,h=>by cases h
 | [],_ :: _,_,k,h=>by cases h
 | .v _ _ :: _,[],_,k,h=>by cases h
 | .p _ _ _ :: _,[],_,k,h=>by cases h
 | .s _ _ :: _,[],_,k,h=>by cases h
 | .p _ _ _ :: _,_ :: _,[],k,h=>by cases h
 | .s _ _ :: _,_ :: _,[],k,h=>by cases h
 | .p _ _ _ :: _,_ :: _,.sl _ _ :: _,k,h=>by cases h
 | .s _ _ :: _,_ :: _,.blk _ _ _ :: _,k,h=>by cases h
theorem Lo{dst:Option Tmp}{res:dj}{k:S->Option X}(h:ig N σ dst res k=some r):∃ τ,k τ=some r/\aS (fun X k=>ig (X:=X) N σ dst res k) τ:=by
 unfold ig at h
 cases dst with
 | none=>exact⟨σ,h,fun X k=>rfl⟩
 | some d=>
  have h:(bif Nat.blt d N then (match res with
   | .one p=>(match lN (p.1,fG (1000000000100000+1000*d) p.2)with
    | some y=>k ((dw (1000000000100000+1000*d) σ p.2).set d y)
    | none=>none)
   | .aU ps=>k ((eN (1000000000100000+1000*d) σ ps).set d (.aU (gf (1000000000100000+1000*d) ps))))else none)=some r:=h
  cases hN:Nat.blt d N with
  | false=>rw[hN]at h;cases h
  | true=>
   rw[hN,cond_true]at h
   cases res with
   | one p=>
    simp only at h
    split at h
    ·rename_i y hy
     exact⟨_,h,fun X k=>by simp only[ig,hN,cond_true,hy]⟩
    ·cases h
   | aU ps=>exact⟨_,h,fun X k=>by simp only[ig,hN,cond_true]⟩
theorem FV{dst:Option Tmp}{c:gE}{args:List Operand}{k:S->Option X}(h:gF N σ dst c args k=some r):∃ τ,k τ=some r/\aS (fun X k=>gF (X:=X) N σ dst c args k) τ:=by
 unfold gF at h
 split at h
 ·rename_i ak ij
  cases eG:(once (fT 0 ak)&&Nat.ble ak.length 40)with
  | false=>rw[eG]at h;cases h
  | true=>
   rw[eG,cond_true]at h
   obtain⟨x,h2,hd⟩:=tn _ _ _ _ h
   split at h2
   ·rename_i y hy
    unfold rI at h2
    generalize bJ:sX N ak (dY (cF c.ps) y.2) (ic (dL dst) (cC c.ro y.1).len ak (dY (cF c.ps) y.2))=ok at h2
    cases ok with
    | false=>cases h2
    | true=>
     rw[cond_true]at h2
     obtain⟨τ,h3,s6⟩:=Lo h2
     exact⟨τ,h3,fun X k=>by
      simp only[gF,ij,eG,cond_true]
      refine(hd X _).trans ?_
      simp only[hy,rI,bJ,cond_true]
      exact s6.at_ _⟩
   ·cases h2
 ·cases h
theorem Ug{F:List Int->Option Int}{x:A}{k:S->Option X}(h:th N σ d F x k=some r):∃ τ,k τ=some r/\aS (fun X k=>th (X:=X) N σ d F x k) τ:=by
 unfold th at h
 split at h
 ·cases hN:Nat.blt d N with
  | false=>rw[hN]at h;cases h
  | true=>
   rw[hN,cond_true]at h
   split at h
   ·rename_i z hz
    exact⟨_,h,fun X k=>by simp only[th,hN,cond_true,hz]⟩
   ·cases h
 ·cases h
theorem Uh{f:Nat}{x:Operand}{args:Array Operand}{bD:Array TypeId}{F:List Int->Option Int}{k:S->Option X}(ho:o.op = .call { callee:=.value (.func f),args,argTypes:=bD })(hx:args.toList=[x])(hd:o.dst=some d)(he:enters P f)(hc:Lg P f F)(h:th N σ d F (ah σ x) k=some r):
  ∃ aa,k aa=some r/\gz P w0 N o σ aa:=by
 unfold th at h
 split at h
 ·rename_i q l hq
  cases hN:Nat.blt d N with
  | false=>rw[hN]at h;cases h
  | true=>
   rw[hN,cond_true]at h
   have oU:d<N:=Nat.le_of_ble_eq_true hN
   split at h
   ·rename_i hz Ui
    refine⟨_,h,fun a w K Q hR hK=>?_⟩
    obtain⟨lab,ρ,hR⟩:=hR
    have hv:=hR.ah x
    rw[hq]at hv
    have jx:RV w w.heap.size (fun _=>none) [] (.sl .u8 0 false l) (a.eval x):=by
     have h0:RV w w.heap.size (fun _=>none) [] (.sl .u8 0 q l) (a.eval x):=hv.2.fm
     cases q with
     | false=>exact h0
     | true=>exact h0.wk (.q _ _ _)
    unfold Oper.wp
    rw[Bp w o a f args bD ho he,Oper.upon_enter]
    have kO:(args.map a.eval) = #[a.eval x]:=by apply Array.ext';rw[Array.toList_map,hx];rfl
    rw[kO]
    refine(hc w l _ _ Ui jx (w0.on hR.below (fun _ _ h=>by cases h))).mono fun e w' fR=>?_
    obtain⟨b,off,cells,t,rfl,c8,U,hh,sS,Uj,iH⟩:=fR
    have hB:=hR.below.size
    have eA:b<w'.heap.size:=(Array.getElem?_eq_some_iff.1 hh).1
    have ke:Rl w0 N (aH lab b (some [1000000000100000+1000*d])) ρ σ a w':=by
     refine hR.grow c8 (fun c zc=>aQ _ _ _ (by omega)) (fun c k zc hk=>?_)
     by_cases e:c=b
     ·subst e
      rw[aJ]at hk
      injection hk with hk
      subst hk
      exact⟨eA,by simp⟩
     ·rw[aQ _ _ _ e]at hk
      have:=(hR.bf c k hk).2.1
      omega
    have fS:=ke.new (d:=1000000000100000+1000*d) (x:=.blk [.v (.sl .u8 0 q l),.v (.int .i64 0),.v (.int .i64 hz)]) (.blk b off) (by
     refine .blk b off cells t _ (fun j=>(#[a.eval x,.int .i64 0,.int .i64 hz]:Array Value).getD j undef) (aJ _ _ _) (aJ _ _ _) hh (by
      have:=(Array.getElem?_eq_some_iff.1 iH).1
      simp;omega) (fun j y hy=>?_)
     have nu:bw w' w0.heap.size (aH lab b (some [1000000000100000+1000*d])) (aH ρ (1000000000100000+1000*d) (.blk b off)) (.v (.sl .u8 0 q l)) (a.eval x):=by
      refine⟨rfl,hv.2.cZ c8.size (fun c zc=>⟨c8.block c zc,aQ _ _ _ (by omega)⟩)⟩
     match j,hy with
     | 0,hy=>simp at hy;subst hy;exact⟨sS,nu⟩
     | 1,hy=>simp at hy;subst hy;exact⟨Uj,rfl,.int _ _ _⟩
     | 2,hy=>simp at hy;subst hy;exact⟨iH,rfl,.int _ _ _⟩
     | j+3,hy=>simp at hy) (hR.cB _ (.inr (by omega)))
    rw[hd]
    exact hK _ _ ⟨_,_,fS.set ⟨b,off,aJ _ _ _,rfl⟩ oU⟩
   ·cases h
 ·cases h
theorem Uk{f:Nat}{args:Array Operand}{bD:Array TypeId}{c:zb}{k:S->Option X}(ho:o.op = .call { callee:=.value (.func f),args,argTypes:=bD })(hd:o.dst=some d)(he:enters P f)(hc:Li P f c)(h:tj N σ d c args.toList k=some r):∃ aa,k aa=some r/\gz P w0 N o σ aa:=by
 unfold tj at h
 cases hN:Nat.blt d N with
 | false=>rw[hN]at h;cases h
 | true=>
  rw[hN,cond_true]at h
  have oU:d<N:=by have:=Nat.le_of_ble_eq_true hN;omega
  obtain⟨ps,h2,cX⟩:=E8 (w0:=w0) (N:=N) _ _ h
  split at h2
  ·rename_i p hp
   split at h2
   ·rename_i t g q l hl
    split at h2
    ·rename_i di
     cases U:(Nat.blt g 2&&Nat.ble p.1 p.2&&Nat.ble p.2 l.length)with
     | false=>rw[U]at h2;cases h2
     | true=>
      rw[U,cond_true]at h2
      rw[Bool.and_eq_true,Bool.and_eq_true]at U
      have hg:g<2:=by have:=Nat.le_of_ble_eq_true U.1.1;omega
      have jo:=Nat.le_of_ble_eq_true U.1.2
      have Ul:=Nat.le_of_ble_eq_true U.2
      refine⟨_,h2,fun a w K Q hR hK=>?_⟩
      obtain⟨lab,ρ,hR⟩:=hR
      unfold Oper.wp
      rw[Bp w o a f args bD ho he,Oper.upon_enter]
      have kO:(args.map a.eval)=(args.toList.map a.eval).toArray:=by apply Array.ext';rw[Array.toList_map]
      rw[kO]
      refine(hc ps p hp w _ (cX lab ρ a w hR) (w0.on hR.below (fun _ _ h=>by cases h))).mono fun e w' fR=>?_
      obtain⟨A,n,cap,e1,hle,hn,rfl,c8⟩:=fR
      have iJ:RV w w0.heap.size lab [] (.sl t g q l) (.slice A n cap):=by
       unfold Lj at hl
       split at hl
       ·rename_i x hx
        have Um:((args.toList.map a.eval).toArray)[c.a]?=some (a.eval x):=by
         rw[List.getElem?_toArray,List.getElem?_map,hx];rfl
        unfold Lh at e1
        rw[Um]at e1
        have o9:=hR.ah x
        split at hl
        ·rename_i cs bU
         rw[bU]at o9
         obtain⟨us,cE,vk⟩:=o9
         rw[cE]at e1
         obtain⟨u,hu,hr⟩:=vk.2 _ _ hl
         simp only at e1
         rw[e1]at hu
         injection hu with hu
         subst hu
         exact hr.2
        ·rename_i lf mg
         rw[mg]at o9
         cases hj:Nat.beq c.j 0 with
         | false=>rw[hj]at hl;cases hl
         | true=>
          rw[hj]at hl e1
          injection hl with hl
          subst hl
          have o9:bw w w0.heap.size lab ρ (.v (.sl t g q l)) (a.eval x):=o9
          have BK:∀ us,a.eval x ≠ .agg us:=by
           intro us e
           rw[e]at o9
           cases o9.2
          generalize a.eval x=z at e1 o9 BK
          cases z <;>first | exact absurd rfl (BK _) | (simp only[cond_true,Option.some.injEq]at e1;cases e1;exact o9.2) | (simp only[cond_true,Option.some.injEq]at e1;cases e1)
        ·cases hl
       ·cases hl
      obtain⟨FW,q7,Bn⟩:=iJ.part (a:=p.1) (h:=p.2) hg jo Ul
      subst di
      rw[hd]
      have aA:=hR.grow c8 (af:=lab) (fun _ _=>rfl) (fun b k U hk=>absurd (hR.bf b k hk).2.1 (Nat.not_lt.2 U))
      refine hK _ _ ⟨lab,ρ,aA.set ⟨by simp[V.av,hg],?_⟩ oU⟩
      exact FW.cZ c8.size fun b U=>⟨c8.block b U,rfl⟩
    ·cases h2
   ·cases h2
  ·cases h2
theorem Un{c:zb}{args:List Operand}{k:S->Option X}(h:tj N σ d c args k=some r):∃ τ,k τ=some r/\aS (fun X k=>tj (X:=X) N σ d c args k) τ:=by
 unfold tj at h
 cases hN:Nat.blt d N with
 | false=>rw[hN]at h;cases h
 | true=>
  rw[hN,cond_true]at h
  obtain⟨ps,h2,mB⟩:=FQ _ _ h
  split at h2
  ·rename_i p hp
   split at h2
   ·rename_i t g q l hl
    split at h2
    ·rename_i di
     cases U:(Nat.blt g 2&&Nat.ble p.1 p.2&&Nat.ble p.2 l.length)with
     | false=>rw[U]at h2;cases h2
     | true=>
      rw[U,cond_true]at h2
      refine⟨_,h2,fun X k=>?_⟩
      simp only[tj,hN,cond_true]
      exact(mB.at_ _).trans (by simp only[hp,hl,if_pos di,U,cond_true])
    ·cases h2
   ·cases h2
  ·cases h2
/-! Calls of functions that are run in the state of their caller. -/
def tq{X:Type}(N:Nat)(σ:S)(dst:Option Tmp)(c:mz)(xs:List A)(k:S->Option X):Option X:=c.run X N σ xs fun aa y=>eK N aa dst y k
def Uo(p:Nat×Nat):A:=.aE p.1 p.2
def ze(σ:S):List Operand->Option (List (Nat×Nat))
 | []=>some []
 | x :: xs=>match ah σ x,ze σ xs with
  | .aE r j,some ps=>some ((r,j) :: ps)
  | _,_=>none
theorem Up(w:World)(o:Oper)(a:Act)(f:Nat)(cl:Operand)(vs:Array Value)(args:Array Operand)(bD:Array TypeId)(ho:o.op = .call { callee:=.value cl,args,argTypes:=bD })(hv:a.eval cl = .func (.func f) #[] vs)(he:enters P f):
  (execOp a.eval o).run P w = .ok (.enter f (args.map a.eval++vs)) w:=by
 obtain⟨fn,h1,h2,h3⟩:=he
 have yE:¬ fn.name = "runtime.NumGoroutine":=by simpa using h2
 have sO:¬ fn.body=none:=by intro e;rw[e]at h3;cases h3
 simp[execOp,ho,resolve,hv,Deferred.ofValue,invoke,callFunc,Sem.run_bind,Sem.run,program,h1,yE,sO]
def BL:A->Option (Nat×List A)
 | .fn f cap=>some (f,cap.map Uo)
 | .gU f cs=>some (f,[.dO cs])
 | _=>none
theorem Uq{x:A}{f:Nat}{ex:List A}{u:Value}(h:BL x=some (f,ex))(hu:RA w B lab ρ x u):∃ vs:Array Value,u = .func (.func f) #[] vs/\vs.size=ex.length/\∀ (j:Nat) y,ex[j]?=some y->RA w B lab ρ y (vs.getD j undef):=by
 unfold BL at h
 split at h
 ·rename_i f' cap
  injection h with h
  injection h with h1 h2
  subst h1 h2
  obtain⟨vs,hv,hs,cN⟩:=hu
  refine⟨vs,hv,by simp[hs],fun j y hy=>?_⟩
  rw[List.getElem?_map]at hy
  cases hp:cap[j]? with
  | none=>rw[hp]at hy;cases hy
  | some p=>
   rw[hp]at hy
   injection hy with hy
   subst hy
   obtain⟨b,off,h1,h2⟩:=cN _ p hp
   rw[Array.getD_eq_getD_getElem?,h2]
   exact⟨b,off,h1,rfl⟩
 ·injection h with h
  injection h with h1 h2
  subst h1 h2
  obtain⟨pv,e,hp⟩:=hu
  refine⟨#[pv],e,rfl,fun j y hy=>?_⟩
  rcases j with _ | j
  ·injection hy with hy
   subst hy
   exact hp
  ·cases hy
 ·cases h
theorem Lp{f:Nat}{cl:Operand}{ex:List A}{args:Array Operand}{bD:Array TypeId}{c:mz}{k:S->Option X}(ho:o.op = .call { callee:=.value cl,args,argTypes:=bD })(bV:BL (ah σ cl)=some (f,ex))(he:enters P f)(hc:lU P f c)
  (h:tq N σ o.dst c (args.toList.map (ah σ)++ex) k=some r):∃ aa,k aa=some r/\gz P w0 N o σ aa:=by
 unfold tq at h
 haveI:Inhabited Wd:=⟨w0⟩
 obtain⟨je,y,hk,_,yF⟩:=hc _ _ _ _ _ _ h
 have step:∀ a w K Q,R w0 N σ a w->(∀ v w' af ρ',Rl w0 N af ρ' je a w'->RA w' w0.heap.size af ρ' y v->K (a.put o.dst v) w')->o.wp P a w K Q:=by
  intro a w K Q hR hK
  obtain⟨lab,ρ,hR⟩:=hR
  obtain⟨vs,hv,hs,cN⟩:=Uq bV (hR.ah cl)
  unfold Oper.wp
  rw[Up w o a f cl vs args bD ho hv he,Oper.upon_enter]
  refine(yF w0 lab ρ a w _ hR (by simp[hs]) fun i=>?_).mono fun e w' fR=>?_
  ·by_cases hi:i<args.size
   ·have e1:(args.toList.map (ah σ)++ex)[i]?=some (ah σ args[i]):=by
     rw[List.getElem?_append_left (by simpa using hi),List.getElem?_map,Array.getElem?_toList,Array.getElem?_eq_getElem hi];rfl
    have e2:(args.map a.eval++vs).getD i undef=a.eval args[i]:=by
     rw[Array.getD_eq_getD_getElem?,Array.getElem?_append_left (by simpa using hi)]
     simp[hi]
    rw[e1,e2]
    exact hR.ah _
   ·have e0:(args.toList.map (ah σ)++ex)[i]?=ex[i-args.size]?:=by
     rw[List.getElem?_append_right (by simp;omega)]
     simp
    rw[e0]
    cases hp:ex[i-args.size]? with
    | none=>trivial
    | some p=>
     have e2:(args.map a.eval++vs).getD i undef=vs.getD (i-args.size) undef:=by
      rw[Array.getD_eq_getD_getElem?,Array.getElem?_append_right (by simp;omega),Array.getD_eq_getD_getElem?]
      simp
     rw[e2]
     exact cN _ p hp
  ·obtain⟨v,af,ρ',rfl,aA,hy⟩:=fR
   exact hK v w' af ρ' aA hy
 unfold eK at hk
 split at hk
 ·rename_i hd
  refine⟨je,hk,fun a w K Q hR hK=>step a w K Q hR fun v w' af ρ' aA _=>?_⟩
  rw[hd]
  exact hK _ _ ⟨af,ρ',aA⟩
 ·rename_i d hd
  cases hN:Nat.blt d N with
  | false=>rw[hN]at hk;cases hk
  | true=>
   rw[hN,cond_true]at hk
   refine⟨_,hk,fun a w K Q hR hK=>step a w K Q hR fun v w' af ρ' aA hy=>?_⟩
   rw[hd]
   exact hK _ _ ⟨af,ρ',aA.set hy (by have:=Nat.le_of_ble_eq_true hN;omega)⟩
theorem Lq:∀ (xs:List Operand) (ps:List (Nat×Nat)),ze σ xs=some ps->ps.length=xs.length/\∀ lab ρ a w,Rl w0 N lab ρ σ a w->∀ (j:Nat) p,ps[j]?=some p->∃ b off,ρ p.1 = .blk b off/\(xs.map a.eval)[j]?=some (.pointer (some ⟨b,off+p.2,none⟩))
 | [],ps,h=>by
  simp only[ze,Option.some.injEq]at h
  subst h
  exact⟨rfl,fun _ _ _ _ _ j p hp=>by simp at hp⟩
 | x :: xs,ps,h=>by
  unfold ze at h
  split at h
  ·rename_i rr j jA h1 h2
   injection h with h
   subst h
   obtain⟨k1,k2⟩:=Lq xs jA h2
   refine⟨by simp[k1],fun lab ρ a w hR j' p hp=>?_⟩
   cases j' with
   | zero=>
    simp only[List.getElem?_cons_zero,Option.some.injEq]at hp
    subst hp
    have hv:=hR.ah x
    rw[h1]at hv
    obtain⟨b,off,e1,e2⟩:=hv
    exact⟨b,off,e1,by simp[e2]⟩
   | succ j'=>
    obtain⟨b,off,e1,e2⟩:=k2 lab ρ a w hR j' p (by simpa using hp)
    exact⟨b,off,e1,by simpa using e2⟩
  ·cases h
end
end Go.Proofs.YtjldnlbiefpekaaDoor
namespace Go.Proofs.YtjldnlbiefpekaaDoor
open Go.RowKit
set_option linter.unusedVariables false
def A.rO(q s n:Nat):A->A
 | .lf (.own [q'])=>bif Nat.beq q' q then .view [q] s 0 n else .lf (.own [q'])
 | x=>x
def S.rO(σ:S)(p:Nat×Nat×Nat):S:=⟨fun k=>(σ.t k).rO p.1 p.2.1 p.2.2,σ.m⟩
def FX:List (Nat×Nat×Nat)->S->S
 | [],σ=>σ
 | p :: l,σ=>FX l (σ.rO p)
def FY(c0 g:Nat):Mu->List (Nat×Nat×Nat)
 | .sl q (.sl t _ _ l)=>bif Nat.ble 1000000 g&&Nat.blt q c0 then [(q,aj t,l.length)]else []
 | _=>[]
def zg(c0:Nat):List PK->List Mu->List (Nat×Nat×Nat)
 | .v _ _ :: ps,ak=>zg c0 ps ak
 | .p _ _ _ :: ps,_ :: ak=>zg c0 ps ak
 | .s _ g :: ps,mu :: ak=>FY c0 g mu++zg c0 ps ak
 | _,_=>[]
def tr{X:Type}(N:Nat)(σ:S)(dst:Option Tmp)(c:gE)(args:List Operand)(k:S->Option X):Option X:=
 match eY σ c.ps args with
 | some ak=>gF N σ dst c args fun aa=>k (FX (zg (dL dst) c.ps ak) aa)
 | none=>none
section
variable {P:Program} {w w':World} {w0:Wd} {B N:Nat} {lab bE af:aG} {ρ ct ρ':Nat->Loc} {σ:S} {a:Act} {X:Type} {d:Nat} {r:X} {o:Oper}
theorem Rl.rO{p:Nat×Nat×Nat}{ad:Option Addr}{c:Nat}(h:Rl w0 N lab ρ σ a w)(hq:ρ p.1 = .bS (.slice ad p.2.2 c)):Rl w0 N lab ρ (σ.rO p) a w:=by
 refine⟨h.below,h.bf,h.root,fun k=>?_,h.size,h.defers,h.fix,h.cB⟩
 have hk:=h.tmp k
 show RA _ _ _ _ ((σ.t k).rO p.1 p.2.1 p.2.2) _
 generalize σ.t k=x at hk
 unfold A.rO
 split
 ·rename_i q'
  cases U:Nat.beq q' p.1 with
  | false=>exact hk
  | true=>
   obtain rfl:=Nat.eq_of_beq_eq_true U
   have h2:=hk.2
   simp only[aP,hq]at h2
   injection h2 with h2
   refine⟨ad,p.2.2,c,by simp only[aP,hq],Nat.zero_le _,Nat.le_refl _,?_⟩
   rw[<-h2]
   cases ad <;>simp[sliced,Addr.add]
 ·exact hk
theorem Lr:∀ (l:List (Nat×Nat×Nat)) (σ:S),Rl w0 N lab ρ σ a w->(∀ p∈l,∃ A c,ρ p.1 = .bS (.slice A p.2.2 c))->Rl w0 N lab ρ (FX l σ) a w
 | [],σ,h,_=>h
 | p :: l,σ,h,hl=>by
  obtain⟨A,c,hp⟩:=hl p (.head _)
  exact Lr l _ (h.rO hp) fun p hp=>hl p (.tail _ hp)
theorem Ur{c0 g:Nat}{mu:Mu}{p:Nat×Nat×Nat}(h:p∈FY c0 g mu):∃ q t o qn l,mu = .sl q (.sl t o qn l)/\p=(q,aj t,l.length)/\q<c0:=by
 unfold FY at h
 split at h
 ·rename_i q t o qn l
  cases U:(Nat.ble 1000000 g&&Nat.blt q c0)with
  | false=>rw[U]at h;cases h
  | true=>
   rw[U,cond_true]at h
   rw[Bool.and_eq_true]at U
   exact⟨q,t,o,qn,l,rfl,List.mem_singleton.1 h,Nat.le_of_ble_eq_true U.2⟩
 ·cases h
theorem BM{c0:Nat}{p:Nat×Nat×Nat}:∀ (ps:List PK) (ak:List Mu),p∈zg c0 ps ak->∃ q t o qn l,Mu.sl q (.sl t o qn l)∈ak/\p=(q,aj t,l.length)/\q<c0
 | .v _ _ :: ps,ak,h=>BM ps ak h
 | .p _ _ _ :: ps,mu :: ak,h=>let ⟨q,t,o,qn,l,h1,h2⟩:=BM ps ak h;⟨q,t,o,qn,l,.tail _ h1,h2⟩
 | .s _ g :: ps,mu :: ak,h=>by
  rcases List.mem_append.1 h with h | h
  ·obtain⟨q,t,o,qn,l,rfl,h2⟩:=Ur h
   exact⟨q,t,o,qn,l,.head _,h2⟩
  ·obtain⟨q,t,o,qn,l,h1,h2⟩:=BM ps ak h
   exact⟨q,t,o,qn,l,.tail _ h1,h2⟩
 | [],_,h=>by cases h
 | .p _ _ _ :: _,[],h=>by cases h
 | .s _ _ :: _,[],h=>by cases h
theorem RV.Us{q:List Nat}{t:TC}{g:Nat}{qn:Bool}{l:List (T t)}{v:Value}(h:RV w B lab q (.sl t g qn l) v):∃ A c,v = .slice A l.length c:=by
 cases h <;>exact⟨_,_,rfl⟩
theorem Ut{f:Nat}{args:Array Operand}{bD:Array TypeId}{c:gE}{k:S->Option X}(ho:o.op = .call { callee:=.value (.func f),args,argTypes:=bD })(he:enters P f)(hc:nw P f c)(h:tr N σ o.dst c args.toList k=some r):∃ aa,k aa=some r/\gz P w0 N o σ aa:=by
 unfold tr at h
 split at h
 ·rename_i ak ij
  obtain⟨je,fq,cn,h1,h2,_,h4,h5⟩:=FE (w0:=w0) ho he hc h
  rw[ij]at h2
  injection h2 with h2
  subst h2
  refine⟨_,h1,fun a w K Q hR hK=>?_⟩
  obtain⟨lab,ρ,hR⟩:=hR
  refine h5 a w K Q lab ρ hR fun v w' bE ct lS aA hv _ aq=>hK _ _ ⟨bE,lS,Lr _ _ aA fun p hp=>?_⟩
  obtain⟨q,t,oo,qn,l,hm,rfl,hq⟩:=BM _ _ hp
  have dm:=(Bv _ _ _ ij _ hm).1
  have bB:=hR.root q _ dm
  generalize hz:au.sl _=z at bB
  cases bB with
  | blk=>cases hz
  | mp=>cases hz
  | gh=>cases hz
  | sl u y dA hr=>
   injection hz with hz
   subst hz
   obtain⟨A,c,rfl⟩:=hr.Us
   exact⟨A,c,(aq q hq).trans ((hv.bY q (h4 _ hm)).trans dA)⟩
 ·cases h
theorem Uu{dst:Option Tmp}{c:gE}{args:List Operand}{k:S->Option X}(h:tr N σ dst c args k=some r):∃ τ,k τ=some r/\∀ (X:Type) (k:S->Option X),tr N σ dst c args k=k τ:=by
 unfold tr at h
 split at h
 ·rename_i ak ij
  obtain⟨τ,h1,h2⟩:=FV h
  exact⟨_,h1,fun X k=>by simp only[tr,ij];exact h2 X _⟩
 ·cases h
end
end Go.Proofs.YtjldnlbiefpekaaDoor
namespace Go.Proofs.YtjldnlbiefpekaaDoor
open Go.RowKit
set_option linter.unusedVariables false
def aG.un(lab:aG)(q:Nat):aG:=fun b=>match lab b with
 | some k=>bif aD q k then none else some k
 | none=>none
def rP{X:Type}(P:Program)(σ:S)(q s i j:Nat)(t:TypeId)(x:A)(k:S->Option X):Option X:=
 match σ.m q with
 | some (.sl (.sl tc (o+2) qn l))=>bif Nat.beq s (aj tc)&&Nat.beq (full tc) 0 then iK P (σ.drop q) t (x.drop q) (.lf (.v (.sl tc 0 false ((l.take j).drop i)))) k else none
 | _=>none
section
variable {P:Program} {w w':World} {w0:Wd} {B N:Nat} {lab af:aG} {ρ ρ':Nat->Loc} {σ:S} {a:Act} {X:Type} {d q:Nat} {r:X} {o:Oper}
theorem Ls(az:∀ b,lab b≠some []):Rel q lab (lab.un q):=
 ⟨az,fun b h=>by simp[aG.un,h],fun b k h hk=>by simp[aG.un,h,hk]⟩
theorem RV.cH{tc:TC}{g:Nat}{qn:Bool}{l:List (T tc)}{A:Option Addr}{n c:Nat}(hr:RV w B lab [q] (.sl tc (g+2) qn l) (.slice A n c))(hf:full tc=0):RV w B (lab.un q) [] (.sl tc 0 false l) (.slice A n c)/\n=l.length:=by
 cases hr with
 | aY=>exact⟨.aY _ _ _,rfl⟩
 | bn=>exact⟨.bn _ _ _ _ _ (by omega),rfl⟩
 | bF=>exact⟨.bn _ _ _ _ _ (by omega),rfl⟩
 | av _ _ _ _ _ _ _ _ _ ho=>omega
 | own=>
  rename_i b cs u hl hh hc hr hs hn hm
  have eT:∀ (i:Nat) (h:i<l.length) (j:Nat) (x:V),(enc tc 0 l[i])[j]?=some x->(enc tc g l[i])[j]?=some x/\x.plain=true:=by
   intro i h j x hx
   obtain⟨y,hy,rfl⟩:=oq tc g l[i] j x hx
   have hp:=AY tc g l[i] y (List.mem_of_getElem? hy)
   cases y with
   | sl t' o' q' l'=>
    have:=Nat.le_of_ble_eq_true (show Nat.ble (full t'+2) (full tc)=true from hp)
    omega
   | nil=>
    have:=Es tc g l[i] _ (List.mem_of_getElem? hy)
    cases this
   | _=>exact⟨hy,rfl⟩
  refine⟨.av _ _ _ _ _ b 0 c u (by omega) (by simp[aG.un,hl,aD]) (Array.getElem?_eq_some_iff.1 hh).1 (by omega) hn (fun i h j x hx=>?_) (fun i h j x hx=>?_),rfl⟩
  ·rw[Nat.zero_add,cell_of_row w b _ cs _ _ hh]
   exact hc i h j x (eT i h j x hx).1
  ·exact(hr i h j x (eT i h j x hx).1).qQ (eT i h j x hx).2
theorem Uv{s i j:Nat}{t:TypeId}{x:A}{k:S->Option X}(h:rP P σ q s i j t x k=some r):∃ aa,k aa=some r/\∀ lab ρ a w,Rl w0 N lab ρ σ a w->∀ u v,RA w w0.heap.size lab ρ x u->RA w w0.heap.size lab ρ (.view [q] s i j) v->
  ∃ w' af,(Instr.storeAt t u v).run P w = .ok () w'/\Rl w0 N af ρ aa a w':=by
 unfold rP at h
 split at h
 ·rename_i tc g qn l hm
  cases U:(Nat.beq s (aj tc)&&Nat.beq (full tc) 0)with
  | false=>rw[U]at h;cases h
  | true=>
   rw[U,cond_true]at h
   rw[Bool.and_eq_true]at U
   obtain rfl:=Nat.eq_of_beq_eq_true U.1
   have hf:=Nat.eq_of_beq_eq_true U.2
   obtain⟨aa,h1,hs⟩:=JW (w0:=w0) (N:=N) h
   refine⟨aa,h1,fun lab ρ a w hR u v hu hv=>?_⟩
   have gl:Rel q lab (lab.un q):=Ls hR.qT
   have ke:=hR.rel gl (fun b k hk=>by
    unfold aG.un at hk
    cases hl:lab b with
    | none=>rw[hl]at hk;cases hk
    | some k'=>
     rw[hl]at hk
     simp only at hk
     cases hq:aD q k' with
     | true=>rw[hq]at hk;cases hk
     | false=>
      rw[hq,cond_false]at hk
      injection hk with hk
      subst hk
      exact⟨⟨_,rfl⟩,(hR.bf b k' hl).2.2⟩)
   obtain⟨A,n,c,bA,h3,h4,rfl⟩:=hv
   have bB:=hR.root q _ hm
   generalize he:au.sl (.sl tc (g+2) qn l)=z at bB
   cases bB with
   | blk=>cases he
   | mp=>cases he
   | gh=>cases he
   | sl vq y aq hr=>
    injection he with he
    subst he
    have FZ:vq = .slice A n c:=by
     simp only[aP,aq]at bA
     injection bA
    subst FZ
    obtain⟨h5,h6⟩:=hr.cH hf
    have h7:=(h5.part (by omega) h3 (by omega)).1
    obtain⟨w',aC,fS⟩:=hs _ _ _ _ ke u _ (hu.rel gl) (show RA _ _ _ _ (.lf (.v _)) _ from ⟨rfl,h7⟩)
    exact⟨w',_,aC,fS⟩
 ·cases h
theorem Uw{s i j:Nat}{t:TypeId}{x:A}{k:S->Option X}(h:rP P σ q s i j t x k=some r):∃ τ,k τ=some r/\aS (fun X k=>rP (X:=X) P σ q s i j t x k) τ:=by
 unfold rP at h
 split at h
 ·rename_i tc g qn l hm
  cases U:(Nat.beq s (aj tc)&&Nat.beq (full tc) 0)with
  | false=>rw[U]at h;cases h
  | true=>
   rw[U,cond_true]at h
   obtain⟨τ,h1,h2⟩:=K4 h
   exact⟨τ,h1,fun X k=>by simp only[rP,hm,U,cond_true];exact h2.at_ _⟩
 ·cases h
end
end Go.Proofs.YtjldnlbiefpekaaDoor
namespace Go.Proofs.YtjldnlbiefpekaaDoor
open Go.RowKit
set_option linter.unusedVariables false
def Lf.cH(q:Nat)(y:V):Lf->Lf
 | .own [r]=>bif Nat.beq r q then .v y else .own [r]
 | x=>x.drop q
def A.cH(q:Nat)(y:V):A->A
 | .lf x=>.lf (x.cH q y)
 | .agg cs=>.agg (cs.map (Lf.cH q y))
 | .aU xs=>.aU (xs.map fun p=>(p.1,p.2.map (Lf.cH q y)))
 | x=>x.drop q
def au.cH(q:Nat)(y:V):au->au
 | .blk cs=>.blk (cs.map (Lf.cH q y))
 | .gh xs=>.gh (xs.map (A.cH q y))
 | x=>x.drop q
def S.cH(σ:S)(q:Nat)(y:V):S:=⟨fun k=>(σ.t k).cH q y,fun r=>bif Nat.beq r q then none else (σ.m r).map (au.cH q y)⟩
section
variable {P:Program} {w w':World} {w0:Wd} {B N:Nat} {lab af:aG} {ρ ρ':Nat->Loc} {σ:S} {a:Act} {X:Type} {d q:Nat} {r:X} {o:Oper} {y:V}
theorem bw.cH(aW:Rel q lab (lab.un q))(hq:∀ u,aP w lab ρ [q]=some u->RV w B (lab.un q) [] y u)(hy:y.av=true){x:Lf}{u:Value}(h:bw w B lab ρ x u):bw w B (lab.un q) ρ (x.cH q y) u:=by
 unfold Lf.cH
 split
 ·rename_i r
  cases U:Nat.beq r q with
  | true=>
   obtain rfl:=Nat.eq_of_beq_eq_true U
   exact⟨hy,hq u h.2⟩
  | false=>
   have az:r≠q:=by rintro rfl;simp at U
   have hl:aD q [r]=false:=by simpa [aD]using fun e=>az e
   have h1:bw w B (lab.un q) ρ (bif aD q [r]then .dead else .own [r]) u:=bw.rel aW h
   rw[hl]at h1
   exact h1
 ·exact bw.rel aW h
theorem bH.cH(aW:Rel q lab (lab.un q))(hq:∀ u,aP w lab ρ [q]=some u->RV w B (lab.un q) [] y u)(hy:y.av=true){cs:List Lf}{us:Array Value}(h:bH w B lab ρ cs us):bH w B (lab.un q) ρ (cs.map (Lf.cH q y)) us:=by
 refine⟨by rw[List.length_map];exact h.1,fun j x hx=>?_⟩
 rw[List.getElem?_map]at hx
 cases hz:cs[j]? with
 | none=>rw[hz]at hx;cases hx
 | some z=>
  rw[hz]at hx
  injection hx with hx
  subst hx
  obtain⟨u,h1,h2⟩:=h.2 j z hz
  exact⟨u,h1,h2.cH aW hq hy⟩
theorem RP.cH(aW:Rel q lab (lab.un q))(hq:∀ u,aP w lab ρ [q]=some u->RV w B (lab.un q) [] y u)(hy:y.av=true){p:Bool×List Lf}{u:Value}(h:RP w B lab ρ p u):RP w B (lab.un q) ρ (p.1,p.2.map (Lf.cH q y)) u:=by
 obtain⟨b,cs⟩:=p
 cases b with
 | true=>obtain⟨us,e,h⟩:=h;exact⟨us,e,bH.cH aW hq hy h⟩
 | false=>exact bH.cH aW hq hy h
theorem RA.cH(aW:Rel q lab (lab.un q))(hq:∀ u,aP w lab ρ [q]=some u->RV w B (lab.un q) [] y u)(hy:y.av=true){x:A}{u:Value}(h:RA w B lab ρ x u):RA w B (lab.un q) ρ (x.cH q y) u:=by
 unfold A.cH
 split
 ·exact bw.cH aW hq hy h
 ·exact RP.cH aW hq hy (p:=(true,_)) h
 ·rename_i xs
  obtain⟨us,rfl,h1,h2⟩:=h
  refine⟨us,rfl,by rw[List.length_map];exact h1,fun j p hp=>?_⟩
  rw[List.getElem?_map]at hp
  cases hz:xs[j]? with
  | none=>rw[hz]at hp;cases hp
  | some z=>
   rw[hz]at hp
   injection hp with hp
   subst hp
   obtain⟨v,h3,h4⟩:=h2 j z hz
   exact⟨v,h3,h4.cH aW hq hy⟩
 ·exact RA.rel aW h
theorem bP.cH(aW:Rel q lab (lab.un q))(hq:∀ u,aP w lab ρ [q]=some u->RV w B (lab.un q) [] y u)(hy:y.av=true){r:Nat}(hr:r≠q){x:au}(h:bP w B lab ρ r x):bP w B (lab.un q) ρ r (x.cH q y):=by
 have l8:aD q [r]=false:=by simpa [aD]using fun e=>hr e
 unfold au.cH
 split
 ·cases h with
  | blk b off cells e cs us dA hl hh hs hc=>
   refine .blk b off cells e _ us dA (aW.cZ _ _ hl l8) hh (by rw[List.length_map];exact hs) (fun j x hx=>?_)
   rw[List.getElem?_map]at hx
   rename_i cs
   cases hz:cs[j]? with
   | none=>rw[hz]at hx;cases hx
   | some z=>
    rw[hz]at hx
    injection hx with hx
    subst hx
    exact⟨(hc j z hz).1,(hc j z hz).2.cH aW hq hy⟩
 ·cases h with
  | gh us xs dA hx=>
   refine .gh us _ dA fun j x hj=>?_
   rw[List.getElem?_map]at hj
   rename_i xs
   cases hz:xs[j]? with
   | none=>rw[hz]at hj;cases hj
   | some z=>
    rw[hz]at hj
    injection hj with hj
    subst hj
    exact RA.cH aW hq hy (hx j z hz)
 ·exact bP.rel aW hr h
theorem R.cH{tc:TC}{g:Nat}{qn:Bool}{l:List (T tc)}(hf:full tc=0)(hm:σ.m q=some (.sl (.sl tc (g+2) qn l)))(h:R w0 N σ a w):R w0 N (σ.cH q (.sl tc 0 false l)) a w:=by
 obtain⟨lab,ρ,hR⟩:=h
 have gl:Rel q lab (lab.un q):=Ls hR.qT
 have hq:∀ u,aP w lab ρ [q]=some u->RV w w0.heap.size (lab.un q) [] (.sl tc 0 false l) u:=by
  intro u hu
  have bB:=hR.root q _ hm
  generalize he:au.sl (.sl tc (g+2) qn l)=z at bB
  cases bB with
  | blk=>cases he
  | mp=>cases he
  | gh=>cases he
  | sl vq y aq hr=>
   injection he with he
   subst he
   have FZ:vq=u:=by
    simp only[aP,aq]at hu
    injection hu
   subst FZ
   have hs:=hr.AZ (by simp[V.av])
   cases vq with
   | slice A n c=>exact(hr.cH hf).1
   | _=>cases hs
 refine⟨lab.un q,ρ,hR.below,fun b k hk=>?_,fun r x hx=>?_,fun k=>RA.cH gl hq rfl (hR.tmp k),hR.size,hR.defers,hR.fix,hR.cB⟩
 ·unfold aG.un at hk
  cases hl:lab b with
  | none=>rw[hl]at hk;cases hk
  | some k'=>
   rw[hl]at hk
   simp only at hk
   cases hq:aD q k' with
   | true=>rw[hq]at hk;cases hk
   | false=>
    rw[hq,cond_false]at hk
    injection hk with hk
    subst hk
    exact hR.bf b k' hl
 ·have hx:(bif Nat.beq r q then none else (σ.m r).map (au.cH q (.sl tc 0 false l)))=some x:=hx
  cases U:Nat.beq r q with
  | true=>rw[U]at hx;cases hx
  | false=>
   have Ux:r≠q:=by rintro rfl;simp at U
   rw[U,cond_false]at hx
   cases nL:σ.m r with
   | none=>rw[nL]at hx;cases hx
   | some y=>
    rw[nL]at hx
    injection hx with hx
    subst hx
    exact bP.cH gl hq rfl Ux (hR.root r y nL)
def vz(σ:S)(x:A):S:=match x with
 | .lf (.own [q])=>(match σ.m q with
  | some (.sl (.sl .str (_+2) _ l))=>σ.cH q (.sl .str 0 false l)
  | _=>σ)
 | _=>σ
theorem R.vz{x:A}(h:R w0 N σ a w):R w0 N (Proofs.YtjldnlbiefpekaaDoor.vz σ x) a w:=by
 unfold Proofs.YtjldnlbiefpekaaDoor.vz
 split
 ·rename_i q
  split
  ·rename_i g qn l hm
   exact R.cH rfl hm h
  ·exact h
 ·exact h
end
end Go.Proofs.YtjldnlbiefpekaaDoor
namespace Go.Proofs.YtjldnlbiefpekaaDoor
open Go.RowKit
set_option linter.unusedVariables false
section
variable {P:Program} (w:World)
theorem Uy(base:Nat)(t u ty e:TypeId)(i:TypeInfo)(ht:P.underlying t=some (.slice e))(hu:P.underlying u=some .string)(hi:P.info? e=some i)(hz:i.zero=some (.int .u8 0))
  (wH:i.size=1) (dI:i.bytes=1)
  (v:Value) (n:Nat) (xs:List Value) (er:w.ownsRow base e 1 v n xs) (s:ByteArray)
  (qd:n+s.size<=maxLen) (wI:n+s.size<=140737488355328) (Db:base<=w.heap.size):
  ∃ v' w',(Builtin.append_ #[t,u] ty #[v,.string s]).run P w = .ok v' w'/\w'.ownsRow base e 1 v' (n+s.size) (xs++Lib.strCells s)/\w.grownBy w' v.ownBlock/\
   (v'.ownBlock=v.ownBlock\/v'.ownBlock=some w.heap.size):=by
 obtain⟨v',w',aC,h2,h3,h4⟩:=Lib.run_append_own_string (P:=P) w base t u ty e i ht hu hi hz wH dI v n xs er s qd wI Db
 refine⟨v',w',aC,h2,h3,?_⟩
 have abc:n+s.size<=9223372036854775807:=by simp only[maxLen]at qd;omega
 have Uz:xs.length=n:=by simpa using er.1
 rcases er.2 with ⟨rfl,rfl⟩ | ⟨g,cap,cur,rfl,hbg,hg,gQ,KX,bU,abd⟩
 ·by_cases hm:s.size=0
  ·exact .inl (by rw[h4.2 ⟨rfl,hm⟩])
  ·have hr:=run_append_nil_string (P:=P) w t u ty e i (.int .u8 0) ht hu hi hz s (by omega) (by omega) (by rw[dI];omega)
   rw[aC]at hr
   injection hr with hr
   subst hr
   exact .inr rfl
 ·by_cases UA:n+s.size<=cap
  ·have abe:cur.size=cap:=by simpa using bU
   have hr:=Lib.run_append_room_string (P:=P) w t u ty e i ht hu hi wH g n cap cur hg s UA (by omega)
   rw[aC]at hr
   injection hr with hr
   subst hr
   exact .inl rfl
  ·have holds:∀ j u,xs[j]?=some u->w.cell? ((⟨g,0,none⟩:Addr).add j)=some u:=er.cells (g:=g) rfl
   have hr:=Lib.run_append_grow_string (P:=P) w t u ty e i (.int .u8 0) ht hu hi hz ⟨g,0,none⟩ n cap xs (by rw[wH];simpa using Uz) holds s (by omega) (by omega) (by rw[dI];exact growslice_fits (by omega) (by omega))
   rw[aC]at hr
   injection hr with hr
   subst hr
   exact .inr rfl
end
def pe(s:ByteArray):List Int:=s.data.toList.map fun b=>(b.toNat:Int)
theorem UB(s:ByteArray):(pe s).length=s.size:=by
 rw[pe,List.length_map,Array.length_toList];rfl
theorem UC(s:ByteArray):oG .u8 (pe s) (Lib.strCells s):=by
 intro i hi o j x hx
 have o6:i<(pe s).length:=hi
 rcases j with _ | j
 ·have hx:x = .int .u8 (pe s)[i]:=by cases hx;rfl
  subst hx
  refine⟨.int .u8 (pe s)[i],?_,rfl,fun w' B' af q'=>.int _ _ _⟩
  have hs:i<s.data.toList.length:=by rw[pe,List.length_map]at o6;exact o6
  show (Lib.strCells s)[i*1+0]?=_
  rw[Nat.mul_one,Nat.add_zero,Lib.strCells,List.getElem?_map,List.getElem?_eq_getElem hs]
  simp[pe]
 ·cases hx
def kf(s:ByteArray):List (T .u8):=pe s
theorem F0(s:ByteArray):(kf s).length=s.size:=UB s
theorem UD(s:ByteArray):oG .u8 (kf s) (Lib.strCells s):=UC s
section
variable {P:Program} {w w':World} {w0:Wd} {B N:Nat} {lab af:aG} {ρ ρ':Nat->Loc} {σ:S} {a:Act} {X:Type} {d:Nat} {r:X}
theorem Rl.Lt{t ut e ty:TypeId}{i:TypeInfo}{rr o:Nat}{q:Bool}{l:List (T .u8)}{u:Value}{s:ByteArray}(h:Rl w0 N lab ρ σ a w)(hF:w0.F rr=none)(cK:P.underlying t=some (.slice e))(cE:P.underlying ut=some .string)(ht:tid .u8=e)(hi:P.info? e=some i)(hz:i.zero=some (.int .u8 0))
  (hsz:i.size=1) (dI:i.bytes=1) (hd:RV w w0.heap.size lab [rr] (.sl .u8 (o+2) q l) u) (hlen:l.length+s.size<1073741824):
  ∃ v' w' af,(Builtin.append_ #[t,ut] ty #[u,.string s]).run P w = .ok v' w'/\Rl w0 N af (aH ρ rr (.bS v')) ((σ.drop rr).root rr (.sl (.sl .u8 (o+2) false (l++kf s)))) a w'/\gT v'=true:=by
 subst ht
 obtain⟨xs,er,jX,vi,iN⟩:=hd.owns rfl (B':=0) (fun b _=>Nat.zero_le b)
 have sI:=UD s
 have ez:=F0 s
 obtain⟨v',w',aC,ga,eV,eA⟩:=Uy (P:=P) w 0 t ut ty (tid .u8) i cK cE hi hz hsz dI u l.length xs er s (by unfold maxLen;omega) (by omega) (Nat.zero_le _)
 have oI:(l++kf s).length=l.length+s.size:=by rw[List.length_append,ez]
 rw[<-oI]at ga
 have nj:=iN.append sI er.1
 have dJ:gT v'=true:=by rcases ga.2 with ⟨rfl,_⟩ | ⟨_,_,_,rfl,_⟩ <;>rfl
 have gD:Below 0 w w':=(Below.refl 0 w).grown eV (Nat.zero_le _) (fun _ _=>Nat.zero_le _)
 have c8:eD w0 w w':=⟨gD.os,gD.tape,gD.output,gD.size,fun k hk hL=>eV.block k (Nat.lt_of_lt_of_le hk h.below.size) (fun e'=>by
  rcases(h.bf k _ (jX k e'.symm)).1 with h1 | h1
  ·exact absurd hk (Nat.not_lt.2 h1)
  ·exact h1 hL)⟩
 by_cases jb:v'.ownBlock=some w.heap.size
 ·have aV:w.heap.size<w'.heap.size:=by
   rcases ga.2 with ⟨rfl,_⟩ | ⟨b,cap,cs,rfl,_,hh,_⟩
   ·cases jb
   ·have:b=w.heap.size:=by simpa [Value.ownBlock]using jb
    subst this
    exact(Array.getElem?_eq_some_iff.1 hh).1
  refine⟨v',w',aH lab w.heap.size (some [rr]),aC,h.oB hF c8 ⟨eV.size,fun b U az=>eV.block b U (fun e'=>az (jX b e'.symm)),fun b U=>aQ _ _ _ (by omega),fun b U=>(h.bf b [] U).2.2 rfl⟩ (fun b k U hk=>?_) (fun r hr=>aQ _ _ _ hr) (.sl v' _ (aJ _ _ _) (yj ga nj (fun b U=>?_))),dJ⟩
  ·by_cases e:b=w.heap.size
   ·subst e
    rw[aJ]at hk
    injection hk with hk
    subst hk
    exact⟨aV,by simp⟩
   ·rw[aQ _ _ _ e]at hk
    have:=(h.bf b k hk).2.1
    omega
  ·rw[jb]at U
   injection U with U
   subst U
   exact aJ _ _ _
 ·have yl:v'.ownBlock=u.ownBlock:=by
   rcases eA with eA | eA
   ·exact eA
   ·exact absurd eA jb
  refine⟨v',w',lab,aC,h.oB hF c8 ⟨eV.size,fun b U az=>eV.block b U (fun e'=>az (jX b e'.symm)),fun _ _=>rfl,fun b U=>(h.bf b [] U).2.2 rfl⟩ (fun b k U hk=>?_) (fun r hr=>aQ _ _ _ hr) (.sl v' _ (aJ _ _ _) (yj ga nj (fun b U=>jX b (by rw[<-yl];exact U)))),dJ⟩
  have:=(h.bf b k hk).2.1
  omega
def zh(P:Program)(t ut:TypeId):Bool:=
 (match oD P t with
 | some (e,.u8)=>(match P.info? e with
  | some i=>Nat.beq i.size 1&&Nat.beq i.bytes 1&&(match i.zero with
   | some (.int .u8 0)=>true
   | _=>false)
  | none=>false)
 | _=>false)&&(match P.underlying ut with
 | some .string=>true
 | _=>false)
def rQ{X:Type}(P:Program)(N:Nat)(σ:S)(d:Nat)(t ut:TypeId)(x y:A)(k:S->Option X):Option X:=
 match y with
 | .lf (.v (.str s))=>bif zh P t ut then (match x with
  | .lf (.v .nil)=>bif bz (kf s).length then dR N σ d (.sl (.sl .u8 2 false (kf s))) (.lf (.own [d])) k else none
  | .lf (.own [r])=>(match σ.m r with
   | some (.sl (.sl .u8 (o+2) q l))=>bif Nat.blt d N&&(Nat.blt r N || Nat.ble 60000 r)&&bz (l.length+(kf s).length)then k (((σ.drop r).root r (.sl (.sl .u8 (o+2) false (l++kf s)))).set d (.lf (.own [r])))else none
   | _=>none)
  | _=>none)else none
 | _=>none
theorem UE{t ut:TypeId}(h:zh P t ut=true):∃ e i,P.underlying t=some (.slice e)/\tid .u8=e/\P.info? e=some i/\i.size=1/\i.bytes=1/\i.zero=some (.int .u8 0)/\P.underlying ut=some .string:=by
 unfold zh at h
 rw[Bool.and_eq_true]at h
 obtain⟨h1,h2⟩:=h
 have hu:P.underlying ut=some .string:=by
  split at h2
  ·assumption
  ·cases h2
 split at h1
 ·rename_i e he
  obtain⟨cK,ht,i,hi,hsz,dI⟩:=sH he
  rw[hi]at h1
  simp only[Bool.and_eq_true]at h1
  obtain⟨⟨h3,h4⟩,h5⟩:=h1
  refine⟨e,i,cK,ht,hi,Nat.eq_of_beq_eq_true h3,Nat.eq_of_beq_eq_true h4,?_,hu⟩
  split at h5
  ·assumption
  ·cases h5
 ·cases h1
theorem UF{t ut ty:TypeId}{x y:A}{k:S->Option X}(h:rQ P N σ d t ut x y k=some r):∃ aa,k aa=some r/\∀ lab ρ a w,Rl w0 N lab ρ σ a w->∀ u v,RA w w0.heap.size lab ρ x u->RA w w0.heap.size lab ρ y v->
  ∃ w' af ρ' z,(Builtin.append_ #[t,ut] ty #[u,v]).run P w = .ok z w'/\Rl w0 N af ρ' aa (a.put (some d) z) w':=by
 unfold rQ at h
 split at h
 ·rename_i s
  cases U:zh P t ut with
  | false=>rw[U]at h;cases h
  | true=>
   rw[U,cond_true]at h
   obtain⟨e,i,cK,ht,hi,hsz,dI,hz,cE⟩:=UE U
   split at h
   ·cases hL:bz (kf s).length with
    | false=>rw[hL]at h;cases h
    | true=>
     rw[hL,cond_true]at h
     have hL:(kf s).length<1073741824:=by simpa [bz]using hL
     obtain⟨hd,h3⟩:=ja h
     refine⟨_,h3,fun lab ρ a w hR u v hu hv=>?_⟩
     have hu:u = .slice none 0 0:=by cases hu.2;rfl
     subst hu
     obtain rfl:=hv.2.jU
     obtain⟨v',w',af,aC,aA,dJ⟩:=hR.Lt (ty:=ty) (rr:=d) (o:=0) (q:=false) (l:=[]) (s:=s) (hR.cB d (.inl hd)) cK cE ht hi hz hsz dI (.aY _ _ _) (by rw[F0]at hL;simpa using hL)
     exact⟨w',af,_,v',aC,aA.set ⟨dJ,by simp[aP,aJ]⟩ hd⟩
   ·rename_i rr
    split at h
    ·rename_i o q l hm
     cases hL:(Nat.blt d N&&(Nat.blt rr N || Nat.ble 60000 rr)&&bz (l.length+(kf s).length))with
     | false=>rw[hL]at h;cases h
     | true=>
      rw[hL,cond_true]at h
      rw[Bool.and_eq_true,Bool.and_eq_true,Bool.or_eq_true]at hL
      have qU:l.length+(kf s).length<1073741824:=by simpa [bz]using hL.2
      have hd:d<N:=by have:=Nat.le_of_ble_eq_true hL.1.1;omega
      have gW:rr<N\/60000<=rr:=hL.1.2.imp (fun h=>by have:=Nat.le_of_ble_eq_true h;omega) (fun h=>Nat.le_of_ble_eq_true h)
      refine⟨_,h,fun lab ρ a w hR u v hu hv=>?_⟩
      obtain rfl:=hv.2.jU
      have bB:=hR.root rr _ hm
      generalize he:au.sl (.sl .u8 (o+2) q l)=x at bB
      cases bB with
      | blk=>cases he
      | mp=>cases he
      | gh=>cases he
      | sl uu y aq hr=>
       injection he with he
       subst he
       have sF:uu=u:=by
        have h4:=hu.2
        simp only[aP,aq]at h4
        injection h4
       subst sF
       obtain⟨v',w',af,aC,aA,dJ⟩:=hR.Lt (ty:=ty) (s:=s) (hR.cB rr gW) cK cE ht hi hz hsz dI hr (by rw[F0]at qU;exact qU)
       exact⟨w',af,_,v',aC,aA.set ⟨dJ,by simp[aP,aJ]⟩ hd⟩
    ·cases h
   ·cases h
 ·cases h
theorem UG{t ut:TypeId}{x y:A}{k:S->Option X}(h:rQ P N σ d t ut x y k=some r):∃ τ,k τ=some r/\aS (fun X k=>rQ (X:=X) P N σ d t ut x y k) τ:=by
 unfold rQ at h
 split at h
 ·rename_i s
  cases U:zh P t ut with
  | false=>rw[U]at h;cases h
  | true=>
   rw[U,cond_true]at h
   split at h
   ·cases hL:bz (kf s).length with
    | false=>rw[hL]at h;cases h
    | true=>
     rw[hL,cond_true]at h
     obtain⟨h3,h4⟩:=nI h
     exact⟨_,h3,fun X k=>by simp only[rQ,U,hL,cond_true];exact h4 X k⟩
   ·rename_i rr
    split at h
    ·rename_i o q l hm
     cases hL:(Nat.blt d N&&(Nat.blt rr N || Nat.ble 60000 rr)&&bz (l.length+(kf s).length))with
     | false=>rw[hL]at h;cases h
     | true=>
      rw[hL,cond_true]at h
      exact⟨_,h,fun X k=>by simp only[rQ,U,hm,hL,cond_true]⟩
    ·cases h
   ·cases h
 ·cases h
end
end Go.Proofs.YtjldnlbiefpekaaDoor
namespace Go.Proofs.YtjldnlbiefpekaaDoor
open Go.RowKit
set_option linter.unusedVariables false
def rR(l:List (Int×Bool))(k:Int):Bool:=match l with
 | []=>false
 | p :: ps=>bif k==p.1 then p.2 else rR ps k
def nM(l:List (Int×Bool))(k:Int)(v:Bool):List (Int×Bool):=match l with
 | []=>[(k,v)]
 | p :: ps=>bif k==p.1 then (k,v) :: ps else p :: nM ps k v
def vA(P:Program)(t:TypeId):Bool:=match P.underlying t with
 | some (.map k e)=>(match P.underlying k with
  | some (.int .i64)=>true
  | _=>false)&&(match zeroOf P e with
  | some (.bool false)=>true
  | _=>false)
 | _=>false
def BN{X:Type}(N:Nat)(σ:S)(d:Nat)(k:S->Option X):Option X:=dR N σ d (.mp []) (.pk d jR) k
def zi{X:Type}(P:Program)(σ:S)(t:TypeId)(x i:A)(k:A->Option X):Option X:=
 match x,i with
 | .pk r n,.lf (.v (.int .i64 key))=>bif Nat.beq n jR&&vA P t then (match σ.m r with
  | some (.mp l)=>k (.lf (.v (.bool (rR l key))))
  | _=>none)else none
 | _,_=>none
def zj{X:Type}(P:Program)(σ:S)(t:TypeId)(x i v:A)(k:S->Option X):Option X:=
 match x,i,v with
 | .pk r n,.lf (.v (.int .i64 key)),.lf (.v (.bool b))=>bif Nat.beq n jR&&vA P t then (match σ.m r with
  | some (.mp l)=>k ⟨σ.t,aH σ.m r (some (.mp (nM l key b)))⟩
  | _=>none)else none
 | _,_,_=>none
section
variable {P:Program} {w w':World} {w0:Wd} {B N:Nat} {lab af:aG} {ρ ρ':Nat->Loc} {σ:S} {a:Act} {X:Type} {d:Nat} {r:X} {o:Oper}
theorem Lu{t:TypeId}(h:vA P t=true):∃ k e i,P.underlying t=some (.map k e)/\P.underlying k=some (.int .i64)/\P.info? e=some i/\i.zero=some (.bool false):=by
 unfold vA at h
 split at h
 ·rename_i k e he
  rw[Bool.and_eq_true]at h
  obtain⟨h1,h2⟩:=h
  have hk:P.underlying k=some (.int .i64):=by
   split at h1
   ·assumption
   ·cases h1
  have hz:zeroOf P e=some (.bool false):=by
   split at h2
   ·assumption
   ·cases h2
  unfold zeroOf at hz
  cases hi:P.info? e with
  | none=>rw[hi]at hz;cases hz
  | some i=>
   rw[hi]at hz
   exact⟨k,e,i,he,hk,hi,hz⟩
 ·cases h
theorem Rl.newObj{ob:Obj}{x:au}{ρ':Nat->Loc}(h:Rl w0 N lab ρ σ a w)(hF:w0.F d=none)(aq:∀ r,r≠d->ρ' r=ρ r)
  (hx:bP (w.alloc ob) w0.heap.size (aH lab w.heap.size (some [d])) ρ' d x):Rl w0 N (aH lab w.heap.size (some [d])) ρ' ((σ.drop d).root d x) a (w.alloc ob):=by
 refine h.oB hF (eD.J6 w0 w _ h.below.size) ⟨by simp,fun b U _=>Below.heap_alloc w _ b U,fun b U=>aQ _ _ _ (by omega),fun b U=>(h.bf b [] U).2.2 rfl⟩ (fun b k U hk=>?_) aq hx
 by_cases e:b=w.heap.size
 ·subst e
  rw[aJ]at hk
  injection hk with hk
  subst hk
  exact⟨by simp,by simp⟩
 ·rw[aQ _ _ _ e]at hk
  have:=(h.bf b k hk).2.1
  omega
theorem UH{t:TypeId}{k:S->Option X}(h:BN N σ d k=some r):∃ aa,k aa=some r/\∀ lab ρ a w,Rl w0 N lab ρ σ a w->∃ w' af ρ' v,(Instr.makeMap t none).run P w = .ok v w'/\Rl w0 N af ρ' aa (a.put (some d) v) w':=by
 obtain⟨hd,h⟩:=ja h
 refine⟨_,h,fun lab ρ a w hR=>?_⟩
 have aC:(Instr.makeMap t none).run P w = .ok (.map (some w.heap.size)) (w.alloc (.map #[] 0)):=rfl
 refine⟨_,aH lab w.heap.size (some [d]),aH ρ d (.blk w.heap.size 0),_,aC,(hR.newObj (hR.cB d (.inl hd)) (fun r hr=>aQ _ _ _ hr) ?_).set ⟨w.heap.size,aJ _ _ _,(Eu _).symm⟩ hd⟩
 exact .mp w.heap.size 0 #[] [] (aJ _ _ _) (aJ _ _ _) (heap_alloc_new w _) rfl
theorem UI{k:S->Option X}(h:BN N σ d k=some r):∃ τ,k τ=some r/\aS (fun X k=>BN (X:=X) N σ d k) τ:=by
 obtain⟨h1,h2⟩:=nI h
 exact⟨_,h1,h2⟩
def tu(l:List (Int×Bool)):List (Value×Value):=l.map fun p=>(.int .i64 p.1,.bool p.2)
theorem F1:∀ (es:List MapEntry) (l:List (Int×Bool)) (k:Int) (n:Nat),es.map (fun e=>(e.key,e.val))=tu l->
  (Instr.findNow (.int .i64) (.int .i64 k) es n=some none/\rR l k=false/\∀ v,nM l k v=l++[(k,v)])\/
  (∃ i b,Instr.findNow (.int .i64) (.int .i64 k) es n=some (some (n+i,.bool b))/\rR l k=b/\∃ h:i<es.length,es[i].key = .int .i64 k/\∀ v,tu (nM l k v)=(es.modify i fun e=>{ e with key:=.int .i64 k,val:=.bool v }).map (fun e=>(e.key,e.val)))
 | [],[],k,n,_=>.inl ⟨rfl,rfl,fun v=>rfl⟩
 | [],_ :: _,k,n,h=>by cases h
 | _ :: _,[],k,n,h=>by cases h
 | e :: es,p :: l,k,n,h=>by
  have h:(e.key,e.val) :: es.map (fun e=>(e.key,e.val))=(.int .i64 p.1,.bool p.2) :: tu l:=h
  injection h with h1 h2
  injection h1 with hk hv
  have hs:Instr.sameNow (.int .i64) (.int .i64 k) e.key=some (k==p.1):=by
   rw[hk]
   simp[Instr.sameNow]
  cases U:(k==p.1)with
  | true=>
   have BO:k=p.1:=by simpa using U
   refine .inr ⟨0,p.2,?_,by simp only[rR,U,cond_true],by simp,by simp[hk,BO],fun v=>?_⟩
   ·simp only[Instr.findNow,hs,U,hv]
    rfl
   ·simp only[nM,U,cond_true]
    simp only[List.modify_zero_cons,List.map_cons]
    show (Value.int .i64 k,Value.bool v) :: tu l=_
    rw[h2]
  | false=>
   rcases F1 es l k (n+1) h2 with ⟨a1,a2,a3⟩ | ⟨i,b,a1,a2,hi,a3,a4⟩
   ·refine .inl ⟨?_,by simp only[rR,U,cond_false,a2],fun v=>by simp only[nM,U,cond_false,a3];rfl⟩
    simp only[Instr.findNow,hs,U]
    exact a1
   ·refine .inr ⟨i+1,b,?_,by simp only[rR,U,cond_false,a2],by simpa using hi,by simpa using a3,fun v=>?_⟩
    ·simp only[Instr.findNow,hs,U]
     rw[a1]
     congr 3
     omega
    ·simp only[nM,U,cond_false]
     simp only[List.modify_succ_cons,List.map_cons]
     show (Value.int .i64 p.1,Value.bool p.2) :: tu (nM l k v)=_
     rw[a4,hk,hv]
theorem BP{kt:TypeId}{k:Int}{es:List MapEntry}{z:Option (Nat×Value)}(hk:P.underlying kt=some (.int .i64))(h:Instr.findNow (.int .i64) (.int .i64 k) es 0=some z):(Instr.findKey kt (.int .i64 k) es).run P w = .ok z w:=by
 unfold Instr.findKey
 simp only[Sem.run_bind,run_underlying hk,Result.andThen_ok,h]
 rfl
theorem Lv{t:TypeId}{x i:A}{k:A->Option X}(h:zi P σ t x i k=some r):∃ v,k v=some r/\aS (fun X k=>zi (X:=X) P σ t x i k) v/\∀ lab ρ a w,Rl w0 N lab ρ σ a w->∀ u z,RA w w0.heap.size lab ρ x u->RA w w0.heap.size lab ρ i z->
  ∃ y,(Instr.lookup t u z false).run P w = .ok y w/\RA w w0.heap.size lab ρ v y:=by
 unfold zi at h
 split at h
 ·rename_i rr n key
  cases U:(Nat.beq n jR&&vA P t)with
  | false=>rw[U]at h;cases h
  | true=>
   rw[U,cond_true]at h
   split at h
   ·rename_i l hm
    refine⟨_,h,fun X k=>by simp only[zi,U,cond_true,hm],fun lab ρ a w hR u z hu hz=>?_⟩
    rw[Bool.and_eq_true]at U
    obtain⟨kt,et,ti,ht,tv,hi,Lw⟩:=Lu U.2
    have hn:=Nat.eq_of_beq_eq_true U.1
    subst hn
    obtain⟨b,aq,rfl⟩:=hu
    have hz:z = .int .i64 key:=by
     have h2:=hz.2
     cases h2
     rfl
    subst hz
    have bB:=hR.root rr _ hm
    generalize he:au.mp l=y at bB
    cases bB with
    | blk=>cases he
    | sl=>cases he
    | gh=>cases he
    | mp b' c es l' dK hl hh BQ=>
     injection he with he
     subst he
     rw[aq]at dK
     injection dK with e1 _
     subst e1
     refine⟨.bool (rR l key),?_,rfl,.bool _ _⟩
     rw[Eu]
     unfold Instr.lookup
     simp only[Sem.run_bind,run_underlying ht,Result.andThen_ok,MapKept.run_getObj_map hh,Sem.run_pure]
     rw[MapKept.run_checkKey (k:=.int .i64 key) tv rfl]
     simp only[Result.andThen_ok]
     rcases F1 es.toList l key 0 BQ with ⟨a1,a2,_⟩ | ⟨i,v,a1,a2,_⟩
     ·rw[BP tv a1]
      have Bc:(zeroValue et).run P w = .ok (.bool false) w:=by simp[zeroValue,typeInfo,hi,Lw]
      simp only[Result.andThen_ok,a2,Sem.run_bind,Sem.run_pure,Bc]
      rfl
     ·rw[BP tv a1]
      simp only[Result.andThen_ok,a2,Sem.run_bind,Sem.run_pure]
      rfl
   ·cases h
 ·cases h
theorem Lx{t:TypeId}{x i v:A}{k:S->Option X}(h:zj P σ t x i v k=some r):∃ aa,k aa=some r/\aS (fun X k=>zj (X:=X) P σ t x i v k) aa/\∀ lab ρ a w,Rl w0 N lab ρ σ a w->∀ u z y,RA w w0.heap.size lab ρ x u->RA w w0.heap.size lab ρ i z->RA w w0.heap.size lab ρ v y->
  ∃ w',(Instr.mapUpdate t u z y).run P w = .ok () w'/\Rl w0 N lab ρ aa a w':=by
 unfold zj at h
 split at h
 ·rename_i rr n key bv
  cases U:(Nat.beq n jR&&vA P t)with
  | false=>rw[U]at h;cases h
  | true=>
   rw[U,cond_true]at h
   split at h
   ·rename_i l hm
    refine⟨_,h,fun X k=>by simp only[zj,U,cond_true,hm],fun lab ρ a w hR u z y hu hz hy=>?_⟩
    rw[Bool.and_eq_true]at U
    obtain⟨kt,et,ti,ht,tv,hi,Lw⟩:=Lu U.2
    have hn:=Nat.eq_of_beq_eq_true U.1
    subst hn
    obtain⟨b,aq,rfl⟩:=hu
    have hz:z = .int .i64 key:=by
     have h2:=hz.2
     cases h2
     rfl
    subst hz
    have hy:y = .bool bv:=by
     have h2:=hy.2
     cases h2
     rfl
    subst hy
    have bB:=hR.root rr _ hm
    generalize he:au.mp l=y at bB
    cases bB with
    | blk=>cases he
    | sl=>cases he
    | gh=>cases he
    | mp b' c es l' dK hl hh BQ=>
     injection he with he
     subst he
     rw[aq]at dK
     injection dK with e1 _
     subst e1
     have nK:b<w.heap.size:=(Array.getElem?_eq_some_iff.1 hh).1
     have BC:∀ (vB:Array MapEntry) (c':Nat),vB.toList.map (fun e=>(e.key,e.val))=tu (nM l key bv)->Rl w0 N lab ρ ⟨σ.t,aH σ.m rr (some (.mp (nM l key bv)))⟩ a { w with heap:=w.heap.setIfInBounds b (.map vB c') }:=by
      intro vB c' UJ
      have hW:nh w { w with heap:=w.heap.setIfInBounds b (.map vB c') } b:=by
       refine⟨by simp,rfl,rfl,rfl,fun k hk=>?_⟩
       show (w.heap.setIfInBounds b _)[k]?=_
       rw[Array.getElem?_setIfInBounds_ne (Ne.symm hk)]
      have hC:lI w { w with heap:=w.heap.setIfInBounds b (.map vB c') } lab ρ:=by
       intro k ad v ha hv dJ
       obtain⟨j',i',s',q,rfl,hq,_,_,EA⟩:=qP k ad ha
       have az:ad.block≠b:=by
        intro e
        rw[e,hl]at hq
        injection hq with hq
        obtain⟨v',bT⟩:=EA rr hq.symm
        rw[aq]at bT
        cases bT
       exact(World.cell?_of_block (hW.block _ az)).trans hv
      refine hR.wrote hW hl hC fun r' y hy=>?_
      by_cases gW:r'=rr
      ·subst gW
       rw[aJ]at hy
       injection hy with hy
       subst hy
       refine .mp b c' vB _ aq hl ?_ UJ
       show (w.heap.setIfInBounds b _)[b]?=_
       rw[Array.getElem?_setIfInBounds_self]
       simp[nK]
      ·rw[aQ _ _ _ gW]at hy
       exact(hR.root r' y hy).wrote hW hl hC (Ez gW)
     rw[Eu]
     unfold Instr.mapUpdate
     simp only[Sem.run_bind,run_underlying ht,Result.andThen_ok,MapKept.run_getObj_map hh,Sem.run_pure]
     rw[MapKept.run_checkKey (k:=.int .i64 key) tv rfl]
     simp only[Result.andThen_ok]
     rcases F1 es.toList l key 0 BQ with ⟨a1,a2,a3⟩ | ⟨i,v,a1,a2,o6,a3,a4⟩
     ·rw[BP tv a1]
      simp only[Result.andThen_ok]
      rw[MapKept.run_setObj_map _ hh]
      refine⟨_,rfl,BC _ _ ?_⟩
      rw[a3]
      simp only[Array.toList_push,List.map_append,BQ,tu]
      rfl
     ·rw[BP tv a1]
      simp only[Result.andThen_ok,Nat.zero_add]
      have oC:(es[i]?.map (·.key)).getD (.int .i64 key) = .int .i64 key:=by
       have h1:i<es.size:=by simpa using o6
       rw[Array.getElem?_eq_getElem h1]
       simpa using a3
      rw[oC]
      have eM:(Instr.keyThatStays (.int .i64 key) (.int .i64 key)).run P w = .ok (.int .i64 key) w:=by
       unfold Instr.keyThatStays
       simp[Instr.sameBits]
      simp only[Sem.run_bind]
      rw[eM]
      simp only[Result.andThen_ok]
      rw[MapKept.run_setObj_map _ hh]
      refine⟨_,rfl,BC _ _ ?_⟩
      rw[a4]
      simp
   ·cases h
 ·cases h
end
end Go.Proofs.YtjldnlbiefpekaaDoor
namespace Go.Proofs.YtjldnlbiefpekaaDoor
open Go.RowKit
set_option linter.unusedVariables false
def zk(t:TypeId)(d:Nat):Bool:=[].any fun(p:Nat×Nat)=>Nat.beq p.1 t&&Nat.beq p.2 d
def tw(dst:Option Tmp)(t:TypeId):Bool:=match dst with
 | some d=>zk t d
 | none=>false
def tA{X:Type}(P:Program)(N:Nat)(σ:S)(d:Nat)(t:TypeId)(x y:A)(k:S->Option X):Option X:=
 match oD P t with
 | some (e,tc)=>bif Nat.beq (full tc) 0&&(zeroOf P e).any (fun z=>Nat.beq z.cells.size (aj tc))then jT σ y fun yv=>(match yv.Ba tc with
  | none=>none
  | some l2=>match x with
   | .lf (.own [r])=>(match σ.m r with
    | some (.sl (.sl t' (o+2) true l))=>if h:t'=tc then (bif !sL l2&&bz (l.length+l2.length)then dR N σ d (.sl (.sl tc (o+2) false ((h ▸ l)++l2))) (.lf (.own [d])) k else none)else none
    | _=>none)
   | _=>none)else none
 | none=>none
section
variable {P:Program} {w w':World} {w0:Wd} {B N:Nat} {lab af:aG} {ρ ρ':Nat->Loc} {σ:S} {a:Act} {X:Type} {d:Nat} {r:X}
theorem Rl.UK{t e ty:TypeId}{tc:TC}{i:TypeInfo}{z:Value}{rr o g:Nat}{qn:Bool}{l l2:List (T tc)}{u v:Value}{q':List Nat}{Bx:Nat}{EX:aG}(h:Rl w0 N lab ρ σ a w)(hF:w0.F d=none)(cK:P.underlying t=some (.slice e))(ht:tid tc=e)(hi:P.info? e=some i)(hz:i.zero=some z)
  (hsz:i.size=aj tc) (dI:i.bytes<=65536) (dy:z.cells.size=aj tc) (hf:full tc=0) (hd:RV w w0.heap.size lab [rr] (.sl tc (o+2) true l) u) (hs:RV w Bx EX q' (.sl tc g qn l2) v) (az:l2≠[]) (hlen:l.length+l2.length<1073741824):
  ∃ v' w' af,(Builtin.append_ #[t,t] ty #[u,v]).run P w = .ok v' w'/\Rl w0 N af (aH ρ d (.bS v')) ((σ.drop d).root d (.sl (.sl tc (o+2) false (l++l2)))) a w'/\gT v'=true:=by
 subst ht
 obtain⟨xs,er,jX,vi,iN⟩:=hd.owns hf (B':=0) (fun b _=>Nat.zero_le b)
 obtain⟨A,c,news,rfl,oH,gB,sI⟩:=hs.reads hf
 have ew:(l.length+l2.length)*i.bytes<=140737488355328:=by
  have h1:(l.length+l2.length)*i.bytes<=1073741824*65536:=Nat.mul_le_mul (by omega) dI
  omega
 have yR:0<l2.length:=List.length_pos_iff.2 az
 obtain⟨v',w',aC,ga,eV,eA⟩:=Da (P:=P) w 0 t ty (tid tc) i z (aj tc) i.bytes cK hi hz hsz rfl dy (lF tc) u l.length xs er _ A l2.length c news oH gB (by unfold maxLen;omega) ew (Nat.zero_le _)
 have oI:(l++l2).length=l.length+l2.length:=List.length_append
 have hex:∃ b,u = .slice (some ⟨b,0,none⟩) l.length l.length:=by
  cases hd with
  | av _ _ _ _ _ _ _ _ _ ho=>omega
  | bF _ _ _ _ _ ho=>omega
  | own _ _ _ _ _ b cap cs us hl hh hs hn hm hc hr=>exact⟨b,by rw[hm.2 rfl]⟩
 obtain⟨b,rfl⟩:=hex
 obtain⟨b',lA,rfl,_,bU⟩:=oH.2 yR
 have UL:∀ j x,news[j]?=some x->w.cell? ((⟨b',lA,none⟩:Addr).add j)=some x:=by
  intro j x hx
  have wJ:(⟨b',lA,none⟩:Addr).add j=⟨b',lA+j,none⟩:=by unfold Addr.add;split <;>simp_all
  rw[wJ]
  exact bU j x hx
 have Ly:=run_append_grow (P:=P) w t ty (tid tc) i z cK hi hz ⟨b,0,none⟩ l.length l.length xs (by rw[hsz];exact er.1) (er.cells (g:=b) rfl) ⟨b',lA,none⟩ l2.length c news (by rw[hsz];exact oH.1) UL (by omega) (by omega) (growslice_fits (by omega) ew)
 rw[aC]at Ly
 injection Ly with e1 e2
 have hold:∀ k,k<w.heap.size->w'.heap[k]?=w.heap[k]?:=by
  intro k hk
  rw[e2]
  exact heap_alloc_old w.drew _ hk
 have UM:v'.ownBlock=some w.heap.size:=by rw[e1];rfl
 have aV:w.heap.size<w'.heap.size:=by rw[e2];simp
 rw[<-oI]at ga
 have nj:=iN.append sI er.1
 have dJ:gT v'=true:=by rw[e1];rfl
 have gD:Below 0 w w':=(Below.refl 0 w).grown eV (Nat.zero_le _) (fun _ _=>Nat.zero_le _)
 have c8:eD w0 w w':=⟨gD.os,gD.tape,gD.output,gD.size,fun k hk hL=>hold k (Nat.lt_of_lt_of_le hk h.below.size)⟩
 refine⟨v',w',aH lab w.heap.size (some [d]),aC,h.oB hF c8 ⟨eV.size,fun b U _=>hold b U,fun b U=>aQ _ _ _ (by omega),fun b U=>(h.bf b [] U).2.2 rfl⟩ (fun b k U hk=>?_) (fun r hr=>aQ _ _ _ hr) (.sl v' _ (aJ _ _ _) (yj ga nj (fun b U=>?_))),dJ⟩
 ·by_cases e:b=w.heap.size
  ·subst e
   rw[aJ]at hk
   injection hk with hk
   subst hk
   exact⟨aV,by simp⟩
  ·rw[aQ _ _ _ e]at hk
   have:=(h.bf b k hk).2.1
   omega
 ·rw[UM]at U
  injection U with U
  subst U
  exact aJ _ _ _
theorem UN{t ty:TypeId}{x y:A}{k:S->Option X}(h:tA P N σ d t x y k=some r):∃ aa,k aa=some r/\∀ lab ρ a w,Rl w0 N lab ρ σ a w->∀ u v,RA w w0.heap.size lab ρ x u->RA w w0.heap.size lab ρ y v->
  ∃ w' af ρ' z,(Builtin.append_ #[t,t] ty #[u,v]).run P w = .ok z w'/\Rl w0 N af ρ' aa (a.put (some d) z) w':=by
 unfold tA at h
 split at h
 ·rename_i e tc dS
  obtain⟨cK,ht,i,hi,hsz,dI⟩:=sH dS
  cases hc:(Nat.beq (full tc) 0&&(zeroOf P e).any (fun z=>Nat.beq z.cells.size (aj tc)))with
  | false=>rw[hc]at h;cases h
  | true=>
   rw[hc,cond_true]at h
   rw[Bool.and_eq_true]at hc
   have hf:=Nat.eq_of_beq_eq_true hc.1
   obtain⟨z,hz,dy⟩:=(Option.any_eq_true _ _).1 hc.2
   have dy:=Nat.eq_of_beq_eq_true dy
   have kM:i.zero=some z:=by unfold zeroOf at hz;simpa [hi]using hz
   obtain⟨yv,Bf,h2⟩:=J8 (w0:=w0) (N:=N) h
   clear h
   split at h2
   ·cases h2
   ·rename_i l2 ez
    split at h2
    ·rename_i rr
     split at h2
     ·rename_i t' o l hm
      split at h2
      ·rename_i di
       subst di
       cases hL:(!sL l2&&bz (l.length+l2.length))with
       | false=>rw[hL]at h2;cases h2
       | true=>
        rw[hL,cond_true]at h2
        rw[Bool.and_eq_true]at hL
        have az:l2≠[]:=by rintro rfl;cases hL.1
        have qU:l.length+l2.length<1073741824:=by simpa [bz]using hL.2
        obtain⟨hd,h3⟩:=ja h2
        refine⟨_,h3,fun lab ρ a w hR u v hu hv=>?_⟩
        obtain⟨q',_,_,bT⟩:=Bf lab ρ a w hR v hv
        obtain⟨g,qn,bT⟩:=EY ez bT
        have bB:=hR.root rr _ hm
        generalize he:au.sl (.sl t' (o+2) true l)=x at bB
        cases bB with
        | blk=>cases he
        | mp=>cases he
        | gh=>cases he
        | sl uu y aq hr=>
         injection he with he
         subst he
         have sF:uu=u:=by
          have h4:=hu.2
          simp only[aP,aq]at h4
          injection h4
         subst sF
         obtain⟨v',w',af,aC,aA,dJ⟩:=hR.UK (ty:=ty) (d:=d) (hR.cB d (.inl hd)) cK ht hi kM hsz dI dy hf hr bT az qU
         exact⟨w',af,_,v',aC,aA.set ⟨dJ,by simp[aP,aJ]⟩ hd⟩
      ·cases h2
     ·cases h2
    ·cases h2
 ·cases h
theorem UO{t:TypeId}{x y:A}{k:S->Option X}(h:tA P N σ d t x y k=some r):∃ τ,k τ=some r/\aS (fun X k=>tA (X:=X) P N σ d t x y k) τ:=by
 unfold tA at h
 split at h
 ·rename_i e tc dS
  cases hc:(Nat.beq (full tc) 0&&(zeroOf P e).any (fun z=>Nat.beq z.cells.size (aj tc)))with
  | false=>rw[hc]at h;cases h
  | true=>
   rw[hc,cond_true]at h
   obtain⟨yv,h2,hd⟩:=FN h
   clear h
   split at h2
   ·cases h2
   ·rename_i l2 ez
    split at h2
    ·rename_i rr
     split at h2
     ·rename_i t' o l hm
      split at h2
      ·rename_i di
       subst di
       cases hL:(!sL l2&&bz (l.length+l2.length))with
       | false=>rw[hL]at h2;cases h2
       | true=>
        rw[hL,cond_true]at h2
        obtain⟨h3,h4⟩:=nI h2
        exact⟨_,h3,fun X k=>by
         simp only[tA,dS,hc,cond_true]
         exact(hd.at_ _).trans (by simp only[ez,hm,dif_pos,hL,cond_true];exact h4 X k)⟩
      ·cases h2
     ·cases h2
    ·cases h2
 ·cases h
end
end Go.Proofs.YtjldnlbiefpekaaDoor
namespace Go.Proofs.YtjldnlbiefpekaaDoor
open Go.RowKit
set_option linter.unusedVariables false
abbrev b5:=Nat->Option mA
def dn(P:Program)(Φ:b5):Prop:=∀ f c,Φ f=some c->enters P f/\Ll P f c
def ck{X:Type}(o:Oper)(k:Nat->Option X):Option X:=
 match o.dst with
 | some d=>k d
 | none=>none
def cP:Op->Bool
 | .move _ | .assign _ | .pick .. | .build .. | .load .. | .binOp .. | .unOp .. | .convert .. | .fieldAddr .. | .field .. | .indexAddr .. | .index .. | .extract .. | .nilCheck _=>true
 | .call ⟨.builtin .len,_,_⟩ | .call ⟨.builtin .max,_,_⟩ | .call ⟨.builtin .min,_,_⟩=>true
 | .slice _ _ _ _ none=>true
 | _=>false
def aX{X:Type}(P:Program)(σ:S)(op:Op)(k:A->Option X):Option X:=
 match op with
 | .move x=>k (ah σ x)
 | .assign x=>k (ah σ x)
 | .pick c x y=>(match ah σ c with
  | .lf (.v (.bool b))=>bif b then k (ah σ x)else k (ah σ y)
  | _=>none)
 | .build t parts=>nq P σ t parts.toList k
 | .load t x=>eF P σ t (ah σ x) k
 | .binOp op t x y _=>gb P σ op t (ah σ x) (ah σ y) k
 | .unOp op _ x=>vK (ah σ x) fun a=>vc op a fun z=>k (.lf (.v z))
 | .convert s d x=>jc P σ s d (ah σ x) k
 | .fieldAddr s x f=>l7 P s (ah σ x) f k
 | .field s x f=>oK P s (ah σ x) f k
 | .indexAddr t x i=>jv P σ t (ah σ x) (ah σ i) k
 | .index t x i=>qW P t (ah σ x) (ah σ i) k
 | .extract x i=>sD (ah σ x) i k
 | .nilCheck x=>BH (ah σ x) k
 | .call ⟨.builtin .len,⟨[x]⟩,⟨[t]⟩⟩=>gY P σ t (ah σ x) k
 | .call ⟨.builtin .max,⟨[x,y]⟩,⟨[_,_]⟩⟩=>sK true (ah σ x) (ah σ y) k
 | .call ⟨.builtin .min,⟨[x,y]⟩,⟨[_,_]⟩⟩=>sK false (ah σ x) (ah σ y) k
 | .slice t x lo hi none=>jY P σ t (ah σ x) (lo.map (ah σ)) (hi.map (ah σ)) k
 | _=>none
def dV{X:Type}(P:Program)(N:Nat)(Φ:b5)(σ:S)(o:Oper)(k:S->Option X):Option X:=
 match o.op with
 | .alloc e=>ck o fun d=>lO P N σ d e k
 | .box e x=>ck o fun d=>s7 N σ d (ah σ x) k
 | .buildSlice t len parts=>ck o fun d=>bif jf t then rM P N σ d t len parts.toList k else sJ P N σ d t len parts.toList k
 | .store t x y=>(match o.dst with
  | none=>bif s9 (ah σ x) (ah σ y)then s8 P σ t (ah σ x) (ah σ y) k else iK P σ t (ah σ x) (ah σ y) k
  | some _=>none)
 | .makeSlice t l c=>ck o fun d=>sG P N σ d t (ah σ l) (ah σ c) k
 | .call ⟨.value (.func f),args,_⟩=>(match Φ f with
  | some (.p c)=>ck o fun d=>oR N σ d c args.toList k
  | some (.m c)=>gF N σ o.dst c args.toList k
  | some (.v c)=>ck o fun d=>tj N σ d c args.toList k
  | some (.n F)=>ck o fun d=>(match args.toList with
   | [x]=>th N σ d F (ah σ x) k
   | _=>none)
  | some (.i c)=>tq N σ o.dst c (args.toList.map (ah σ)++[]) k
  | some (.d c)=>s4 N σ o.dst c args.toList k
  | some (.q c)=>ck o fun d=>rA N σ d c args.toList k
  | some (.c c)=>tr N σ o.dst c args.toList k
  | none=>none)
 | .call ⟨.builtin .append,⟨[x,y]⟩,⟨[t,t']⟩⟩=>bif Nat.beq t t' then ck o fun d=>bif jf t then rN P N σ d t (ah σ x) (ah σ y) k else bif zk t d then tA P N σ d t (ah σ x) (ah σ y) k else jW P N σ d t (ah σ x) (ah σ y) k else ck o fun d=>rQ P N σ d t t' (ah σ x) (ah σ y) k
 | .makeMap _ none=>ck o fun d=>BN N σ d k
 | .lookup t x i false=>zi P σ t (ah σ x) (ah σ i) fun v=>eK N σ o.dst v k
 | .mapUpdate t x i v=>(match o.dst with
  | none=>zj P σ t (ah σ x) (ah σ i) (ah σ v) k
  | some _=>none)
 | .call ⟨.value (.tmp t),args,_⟩=>(match BL (ah σ (.tmp t))with
  | some (f,ex)=>(match Φ f with
   | some (.i c)=>tq N σ o.dst c (args.toList.map (ah σ)++ex) k
   | _=>none)
  | none=>none)
 | .makeFunc (.func f) ⟨[]⟩ zl=>(match ze σ zl.toList with
  | some ps=>eK N σ o.dst (.fn f ps) k
  | none=>none)
 | _=>none
def bC{X:Type}(P:Program)(N:Nat)(Φ:b5)(σ:S)(o:Oper)(k:S->Option X):Option X:=
 bif cP o.op then aX P σ o.op fun v=>eK N σ o.dst v k else dV P N Φ σ o k
def kg{X:Type}(P:Program)(N:Nat)(Φ:b5)(σ:S)(o:Oper)(k:S->Option X):Option X:=
 match o.op,o.dst with
 | .store t x y,none=>(match ah σ y with
  | .view [q] s i j=>rP P σ q s i j t (ah σ x) k
  | _=>bC P N Φ σ o k)
 | .slice _ x _ _ none,some _=>bC P N Φ (vz σ (ah σ x)) o k
 | _,_=>bC P N Φ σ o k
def cQ(σ:S)(ops:Array Oper)(o:Oper):Option Bool:=
 match o.guard with
 | none=>some true
 | some (j,want)=>match (ops[j]?).bind (·.dst)with
  | some t=>(match σ.t t with
   | .lf (.v (.bool b))=>some (b==want)
   | .skip=>some false
   | _=>none)
  | none=>none
def BR(ops:Array Oper)(j:Nat):Bool:=ops.toList.any fun o=>match o.guard with
 | some (i,_)=>Nat.beq i j
 | none=>false
def splitK{X:Type}(σ:S)(dst:Option Tmp)(g:Bool)(k:S->Option X):Option X:=
 bif g then (match dst with
  | some d=>(match σ.t d with
   | .lf (.v (.bool b))=>bif b then k (σ.set d (.lf (.v (.bool true))))else k (σ.set d (.lf (.v (.bool false))))
   | _=>k σ)
  | none=>k σ)else k σ
def nN{X:Type}(P:Program)(N:Nat)(Φ:b5)(ops:Array Oper):Nat->List Oper->S->(S->Option X)->Option X
 | _,[],σ,k=>k σ
 | j,o :: rest,σ,k=>match cQ σ ops o with
  | some true=>kg P N Φ σ o fun aa=>splitK aa o.dst (BR ops j) fun nO=>nN P N Φ ops (j+1) rest nO k
  | some false=>eK N σ o.dst .skip fun aa=>nN P N Φ ops (j+1) rest aa k
  | none=>none
/-! Regions whose order is open: what is listed is a set of bits. -/
def bL{X:Type}(P:Program)(N:Nat)(Φ:b5)(ops:Array Oper)(σ:S)(o:Oper)(k:S->Option X):Option X:=
 match cQ σ ops o with
 | some true=>bC P N Φ σ o k
 | some false=>eK N σ o.dst .skip k
 | none=>none
def gH(ops:Array Oper)(L j:Nat):Bool:=!L.testBit j&&(match ops[j]? with
 | some o=>o.after.toList.all fun e=>!Region.binds .any e || L.testBit e.on
 | none=>false)
def zm(ops:Array Oper)(i W j:Nat):Bool:=(match ops[j]? with
 | some o=>o.after.toList.any fun e=>Region.binds .any e&&(Nat.beq e.on i || W.testBit e.on)
 | none=>false)
def waits(ops:Array Oper)(i:Nat):Nat->Nat->Nat->Nat
 | 0,_,W=>W
 | n+1,j,W=>waits ops i n (j+1) (bif zm ops i W j then W ||| 2 ^ j else W)
def cu(o:Oper)(n:Nat):Bool:=match o.dst with
 | some d=>(match o.op with
  | .alloc _ | .box .. | .buildSlice .. | .makeSlice ..=>Nat.beq n d
  | .call ⟨.value (.func _),_,_⟩=>Nat.ble (1000000000100000+1000*d) n
  | .call ⟨.builtin .append,_,_⟩=>Nat.beq n d
  | _=>false)
 | none=>false
def BS(Φ:b5)(op:Op):Bool:=cP op || (match op with
 | .alloc _ | .box .. | .buildSlice .. | .makeSlice ..=>true
 | .call ⟨.value (.func f),_,_⟩=>(match Φ f with
  | some (.p _)=>true
  | _=>false)
 | _=>false)
def dW(g:Oper->Bool)(ops:Array Oper)(i L W:Nat):Nat->Nat->Bool
 | 0,_=>false
 | f+1,j=>(!(Nat.beq j i || L.testBit j || W.testBit j)&&(match ops[j]? with
  | some oj=>g oj
  | none=>false)) || dW g ops i L W f (j+1)
def vC(g:Oper->Bool)(ops:Array Oper)(oi:Oper)(i L W:Nat):Nat->Nat->Bool
 | 0,_=>true
 | n+1,j=>(Nat.beq j i || L.testBit j || (bif W.testBit j then zm ops i W j else (match ops[j]? with
  | some oj=>g oj&&oi.apart ops oj
  | none=>true)))&&vC g ops oi i L W n (j+1)
def BT(c:gE):Bool:=c.ps.all fun p=>match p with
 | .v _ _=>true
 | .p _ g _=>Nat.beq g 0
 | .s _ _=>false
def kU(ok:Nat->Nat->Bool)(σ:S):List PK->List Operand->Bool
 | .p _ _ _ :: ps,.tmp t :: xs=>(match σ.t t with
  | .aE r _=>ok t r
  | _=>false)&&kU ok σ ps xs
 | .v _ _ :: ps,_ :: xs=>kU ok σ ps xs
 | [],[]=>true
 | _,_=>false
def ec(σ:S):List PK->List Operand->List Nat
 | .p _ _ _ :: ps,x :: xs=>(match ah σ x with
  | .aE r _=>r :: ec σ ps xs
  | _=>ec σ ps xs)
 | _ :: ps,_ :: xs=>ec σ ps xs
 | _,_=>[]
def jE(Φ:b5)(σ:S)(o:Oper):List Nat:=match o.op with
 | .call ⟨.value (.func f),args,_⟩=>(match Φ f with
  | some (.m c)=>ec σ c.ps args.toList
  | _=>[])
 | _=>[]
def fJ(t:Nat)(o:Oper):Bool:=match o.dst with
 | some d=>Nat.beq d t
 | none=>false
def nP(o:Oper):Bool:=(match o.op with
 | .alloc _=>true
 | _=>false)&&o.guard.isNone&&(match o.dst with
 | some d=>Nat.blt d 20000
 | none=>false)
def iT(o:Oper):Bool:=(match o.op with
 | .alloc _=>true
 | .buildSlice t _ _=>!jf t
 | .makeSlice ..=>true
 | _=>false)&&(match o.dst with
 | some d=>Nat.blt d 20000
 | none=>false)
def isApp(o:Oper):Bool:=match o.op with
 | .call ⟨.builtin .append,⟨[_,_]⟩,⟨[t,t']⟩⟩=>!jf t&&Nat.beq t t' && !tw o.dst t
 | _=>false
def F2(Φ:b5)(ops:Array Oper)(i L W:Nat)(σ:S)(o:Oper):Bool:=match o.op with
 | .call ⟨.value (.func f),args,_⟩=>(match Φ f with
  | some (.m c)=>BT c&&kU (fun t r=>!dW (fJ t) ops i L W ops.size 0 && !dW (fun ok=>cu ok r) ops i L W ops.size 0 && !dW isApp ops i L W ops.size 0) σ c.ps args.toList
  | _=>false)
 | _=>false
def A.fK(p pb:Nat->Bool):A->Bool
 | .lf x=>x.nr p
 | .agg cs=>cs.all (Lf.nr p)
 | .aU xs=>xs.all fun q=>q.2.all (Lf.nr p)
 | .ptr k=>cg p k
 | .aE r _=>!pb r
 | .pk r _=>!pb r
 | .view k _ _ _=>cg p k
 | .fn _ cap=>cap.all fun q=>!pb q.1
 | _=>true
def rS(σ:S)(o:Oper):List Nat:=match o.op with
 | .store _ (.tmp t) _=>(match σ.t t with
  | .aE r _=>[r]
  | _=>[])
 | .call ⟨.builtin .append,⟨[.tmp t,_]⟩,⟨[_,_]⟩⟩=>(match σ.t t with
  | .lf (.own [r])=>[r]
  | _=>[])
 | _=>[]
def BU(σ:S)(o:Oper):List Nat:=match o.op with
 | .call ⟨.builtin .append,⟨[.tmp t,_]⟩,⟨[_,_]⟩⟩=>(match σ.t t with
  | .lf (.own [r])=>[r]
  | _=>[])
 | _=>[]
def UP(t:Nat)(o:Oper):Bool:=match o.op with
 | .store _ (.tmp t') _=>Nat.beq t' t
 | _=>false
def UQ(ops:Array Oper)(i L W:Nat)(σ:S)(o:Oper):List Nat:=match o.op,o.dst with
 | .fieldAddr _ (.tmp x) _,some t=>bif dW (UP t) ops i L W ops.size 0 then (match σ.t x with
  | .aE r _=>[r]
  | _=>[])else []
 | _,_=>[]
def rT(Φ:b5)(ops:Array Oper)(i L W:Nat)(σ:S)(n:Nat):Bool:=
 dW (fun o=>cu o n) ops i L W ops.size 0 || dW (fun o=>aM n (jE Φ σ o) || aM n (rS σ o)) ops i L W ops.size 0
def nQ(Φ:b5)(ops:Array Oper)(i L W:Nat)(σ:S)(n:Nat):Bool:=
 rT Φ ops i L W σ n || dW (fun o=>aM n (UQ ops i L W σ o)) ops i L W ops.size 0
def pg(σ:S)(ops:Array Oper)(i L W:Nat)(n:Nat):Bool:=dW (fun o=>cu o n) ops i L W ops.size 0 || dW (fun o=>aM n (BU σ o)) ops i L W ops.size 0
def rU(Φ:b5)(o:Oper):Bool:=match o.op with
 | .call ⟨.value (.func f),_,_⟩=>(match Φ f with
  | some (.p _)=>true
  | _=>false)
 | _=>false
def iq(Φ:b5)(ops:Array Oper)(i L W:Nat)(t:Nat):Bool:=!dW (fun ok=>fJ t ok && !(iT ok || isApp ok || rU Φ ok)) ops i L W ops.size 0
def F3(Φ:b5)(ops:Array Oper)(i L W:Nat)(o:Oper):Bool:=match o.op with
 | .call ⟨.builtin .append,⟨[.tmp t,_]⟩,⟨[ty,UR]⟩⟩=>iq Φ ops i L W t&&(!jf ty&&Nat.beq ty UR && !tw o.dst ty)
 | _=>false
def ir(Φ:b5)(ops:Array Oper)(i L W:Nat)(σ:S)(x:Nat):Bool:=!dW (fJ x) ops i L W ops.size 0&&(match σ.t x with
 | .aE r _=>nQ Φ ops i L W σ r
 | .dO _=>true
 | _=>false)
def BV(Φ:b5)(ops:Array Oper)(i L W:Nat)(σ:S)(o:Oper):Bool:=match o.op with
 | .fieldAddr _ (.tmp x) _=>ir Φ ops i L W σ x
 | _=>false
def BW(Φ:b5)(ops:Array Oper)(i L W:Nat)(σ:S)(t:Nat):Bool:=!dW (fun ok=>fJ t ok && !(nP ok || BV Φ ops i L W σ ok)) ops i L W ops.size 0
def xY(Φ:b5)(ops:Array Oper)(i L W:Nat)(σ:S)(o:Oper):Bool:=match o.op with
 | .store _ (.tmp t) _=>o.dst.isNone&&BW Φ ops i L W σ t&&(match σ.t t with
  | .ptr _=>false
  | _=>true)
 | _=>false
def F4(σ:S)(p:Nat->Bool)(o:Oper):Bool:=o.op.operands.toList.all fun x=>(ah σ x).nr p
def F5(σ:S)(p pb:Nat->Bool)(o:Oper):Bool:=(o.op.operands.toList.all fun x=>(ah σ x).fK p pb)&&(match o.op with
 | .load _ x=>(match ah σ x with
  | .aE r _=>!p r
  | _=>true)
 | _=>true)
def Lz(Φ:b5)(ops:Array Oper)(L:Nat)(σ:S)(i:Nat):Bool:=match ops[i]? with
 | some oi=>(cP oi.op || (match cQ σ ops oi with
  | some b=>!b
  | none=>false))&&Nat.beq ((L ||| 2 ^ i) &&& waits ops i ops.size 0 0) 0&&vC (fun oj=>BS Φ oj.op || F2 Φ ops i L (waits ops i ops.size 0 0) σ oj || xY Φ ops i L (waits ops i ops.size 0 0) σ oj || F3 Φ ops i L (waits ops i ops.size 0 0) oj) ops oi i L (waits ops i ops.size 0 0) ops.size 0&&F5 σ (nQ Φ ops i L (waits ops i ops.size 0 0) σ) (pg σ ops i L (waits ops i ops.size 0 0)) oi
 | none=>false
def rV{X:Type}(P:Program)(N:Nat)(Φ:b5)(ops:Array Oper)(L i:Nat)(σ:S)(o:Oper)(k:S->Option X):Option X:=
 match cQ σ ops o with
 | some true=>aX P σ o.op fun v=>bif v.fK (nQ Φ ops i L (waits ops i ops.size 0 0) σ) (pg σ ops i L (waits ops i ops.size 0 0))then eK N σ o.dst v k else none
 | some false=>eK N σ o.dst .skip k
 | none=>none
/-! A call may be taken first where all that is free beside it are new blocks. -/
def A.cP:A->Bool
 | .lf (.v _)=>true
 | .agg cs=>cs.all fun l=>match l with
  | .v _=>true
  | _=>false
 | _=>false
def F6(ops:Array Oper)(i L W:Nat)(σ:S)(o:Oper):Bool:=iT o&&(match cQ σ ops o with
 | some b=>b
 | none=>false)&&(o.op.operands.toList.all fun x=>(ah σ x).cP&&(match x with
  | .tmp t=>!dW (fJ t) ops i L W ops.size 0
  | _=>true))&&(match o.guard with
 | some (g,_)=>(match (ops[g]?).bind (·.dst)with
  | some t=>!dW (fJ t) ops i L W ops.size 0
  | none=>true)
 | none=>true)
def iU(Φ:b5)(o:Oper):Bool:=match o.op with
 | .call ⟨.value (.func f),_,_⟩=>(match Φ f with
  | some (.p _)=>true
  | some (.m _)=>true
  | _=>false)
 | _=>false
def zn(o:Oper):Bool:=(match o.op with
 | .store _ (.tmp _) _=>true
 | _=>false)&&o.dst.isNone
def pn(σ:S)(o:Oper):Bool:=match o.op with
 | .store _ (.tmp t) _=>(match σ.t t with
  | .aE _ _=>true
  | _=>false)
 | _=>true
def zo(Φ:b5)(o:Oper):Bool:=iU Φ o || iT o || isApp o || zn o
def pq(σ:S)(p:Nat->Bool)(r:Nat):Bool:=match σ.m r with
 | some (.blk cs)=>cs.all (Lf.nr p)
 | _=>true
def vD(o:Oper)(n:Nat):Bool:=fJ n o
def LA(Φ:b5)(ops:Array Oper)(L:Nat)(σ:S)(i:Nat):Bool:=match ops[i]? with
 | some oi=>zo Φ oi&&Nat.beq ((L ||| 2 ^ i) &&& waits ops i ops.size 0 0) 0&&vC (F6 ops i L (waits ops i ops.size 0 0) σ) ops oi i L (waits ops i ops.size 0 0) ops.size 0 &&
   F4 σ (fun n=>dW (fun o=>vD o n) ops i L (waits ops i ops.size 0 0) ops.size 0) oi&&(jE Φ σ oi).all (pq σ (fun n=>dW (fun o=>vD o n) ops i L (waits ops i ops.size 0 0) ops.size 0))&&pn σ oi
 | none=>false
def gI{X:Type}(P:Program)(N:Nat)(Φ:b5)(ops:Array Oper):Nat->Nat->S->(S->Option X)->Option X
 | 0,L,σ,k=>(match (List.range ops.size).filter (gH ops L)with
  | []=>k σ
  | _=>none)
 | f+1,L,σ,k=>(match (List.range ops.size).filter (gH ops L)with
  | []=>k σ
  | [i]=>(match ops[i]? with
   | some o=>bL P N Φ ops σ o fun aa=>splitK aa o.dst (BR ops i) fun nO=>gI P N Φ ops f (L ||| 2 ^ i) nO k
   | none=>none)
  | rs=>(match rs.find? (Lz Φ ops L σ)with
   | some i=>(match ops[i]? with
    | some o=>rV P N Φ ops L i σ o fun aa=>splitK aa o.dst (BR ops i) fun nO=>gI P N Φ ops f (L ||| 2 ^ i) nO k
    | none=>none)
   | none=>(match rs.find? (LA Φ ops L σ)with
    | some i=>(match ops[i]? with
     | some o=>bL P N Φ ops σ o fun aa=>splitK aa o.dst (BR ops i) fun nO=>gI P N Φ ops f (L ||| 2 ^ i) nO k
     | none=>none)
    | none=>none)))
/-! A new slice of constants may come first,beside values and calls of contents. -/
def BX:Op->Bool
 | .move _ | .assign _ | .load .. | .binOp .. | .unOp .. | .field .. | .fieldAddr .. | .index ..=>true
 | .call ⟨.builtin .len,_,_⟩=>true
 | _=>false
def F7(Φ:b5)(o:Oper):Bool:=BX o.op || (match o.op with
 | .call ⟨.value (.func f),_,_⟩=>(match Φ f with
  | some (.p _)=>true
  | _=>false)
 | _=>false)
def early(Φ:b5)(ops:Array Oper)(i:Nat):Bool:=match ops[i]? with
 | some o=>(match o.op with
  | .buildSlice ..=>true
  | _=>false)&&iT o&&o.guard.isNone&&gH ops 0 i&&(o.op.operands.toList.all fun x=>match x with
  | .const _=>true
  | _=>false)&&Nat.beq ((0 ||| 2 ^ i) &&& waits ops i ops.size 0 0) 0&&vC (F7 Φ) ops o i 0 (waits ops i ops.size 0 0) ops.size 0
 | none=>false
def pz{X:Type}(P:Program)(N:Nat)(Φ:b5)(ops:Array Oper)(σ:S)(k:S->Option X):Option X:=
 match (List.range ops.size).find? (early Φ ops)with
 | some i=>(match ops[i]? with
  | some o=>(match o.dst with
   | some e=>bL P N Φ ops (σ.drop e) o fun aa=>gI P N Φ ops (ops.size-1) (0 ||| 2 ^ i) aa k
   | none=>none)
  | none=>none)
 | none=>gI P N Φ ops ops.size 0 σ k
structure eg where
 run:(X:Type)->S->(Exit->S->Option X)->Option X
abbrev jg:=Nat->Option eg
def dF{X:Type}(P:Program)(N:Nat)(Φ:b5)(Λ:jg):Code->S->(Exit->S->Option X)->Option X
 | .skip,σ,k=>k .normal σ
 | .label _,σ,k=>k .normal σ
 | .ret,σ,k=>k .ret σ
 | .exit id,σ,k=>k (.exit id) σ
 | .region _ ops false,σ,k=>nN P N Φ ops 0 ops.toList σ fun aa=>k .normal aa
 | .region _ ops true,σ,k=>bif P.follows .mixedOrders then pz P N Φ ops σ fun aa=>k .normal aa else none
 | .seq x y,σ,k=>dF P N Φ Λ x σ fun e aa=>match e with
  | .normal=>dF P N Φ Λ y aa k
  | e=>k e aa
 | .cond c x y,σ,k=>match ah σ c with
  | .lf (.v (.bool b))=>bif b then dF P N Φ Λ x σ k else dF P N Φ Λ y σ k
  | _=>none
 | .block id c,σ,k=>match Λ id with
  | some b=>b.run X σ k
  | none=>dF P N Φ Λ c σ fun e aa=>match e with
   | .exit kV=>if kV=id then k .normal aa else k (.exit kV) aa
   | e=>k e aa
 | _,_,_=>none
def AW(P:Program)(w0:Wd)(N:Nat)(c:Code)(σ:S)(K:Exit->S->Prop):Prop:=
 ∀ a w,R w0 N σ a w->c.wp P (fun e a' w'=>∃ aa,K e aa/\R w0 N aa a' w') a w
def occs:Code->List (Nat×Code)
 | .seq x y=>occs x++occs y
 | .cond _ x y=>occs x++occs y
 | .block id c=>(id,c) :: occs c
 | _=>[]
def fe(P:Program)(N:Nat)(c:Code)(b:eg):Prop:=∀ (X:Type) σ k (r:X) w0,b.run X σ k=some r->AW P w0 N c σ fun e aa=>k e aa=some r
def nR(P:Program)(N:Nat)(Λ:jg)(l:List (Nat×Code)):Prop:=∀ p∈l,∀ b,Λ p.1=some b->fe P N (.block p.1 p.2) b
section
variable {P:Program} {w w':World} {w0:Wd} {B N:Nat} {lab af:aG} {ρ ρ':Nat->Loc} {σ:S} {a:Act} {X:Type} {d:Nat} {r:X} {o:Oper} {Φ:b5} {Λ:jg}
theorem gz.mem{aa:S}(hd:o.dst=some d)(h:∀ lab ρ a w,Rl w0 N lab ρ σ a w->∃ w' af ρ' v,(execOp a.eval o).run P w = .ok (.value v) w'/\Rl w0 N af ρ' aa (a.put (some d) v) w'):gz P w0 N o σ aa:=by
 intro a w K Q hR hK
 obtain⟨lab,ρ,hR⟩:=hR
 obtain⟨w',af,ρ',v,aC,aA⟩:=h lab ρ a w hR
 unfold Oper.wp
 rw[aC,Oper.upon_value,hd]
 exact hK _ _ ⟨af,ρ',aA⟩
theorem c9{k:Nat->Option X}(h:ck o k=some r):∃ d,o.dst=some d/\k d=some r:=by
 unfold ck at h
 split at h
 ·rename_i d hd;exact⟨d,hd,h⟩
 ·cases h
theorem iu{s:Sem Value}{v:Value}(h:s.run P w = .ok v w'):(do pure (.value (<-s)):Sem Next).run P w = .ok (.value v) w':=by
 rw[Sem.run_bind,h];rfl
theorem vE{op:Op}{k:A->Option X}(h:aX P σ op k=some r):∃ v,k v=some r/\aS (fun X k=>aX (X:=X) P σ op k) v/\∀ lab ρ a w (o:Oper),o.op=op->Rl w0 N lab ρ σ a w->∃ u,(execOp a.eval o).run P w = .ok (.value u) w/\RA w w0.heap.size lab ρ v u:=by
 unfold aX at h
 split at h
 ·rename_i x
  exact⟨_,h,fun X k=>rfl,fun lab ρ a w o ho hR=>⟨a.eval x,by simp[execOp,ho],hR.ah x⟩⟩
 ·rename_i x
  exact⟨_,h,fun X k=>rfl,fun lab ρ a w o ho hR=>⟨a.eval x,by simp[execOp,ho],hR.ah x⟩⟩
 ·rename_i c x y
  split at h
  ·rename_i b U
   refine⟨bif b then ah σ x else ah σ y,by cases b <;>exact h,fun X k=>by simp only[aX,U];cases b <;>rfl,fun lab ρ a w o ho hR=>?_⟩
   have hc:=hR.ah c
   rw[U]at hc
   have hv:=hc.2.qR
   cases b with
   | true=>exact⟨a.eval x,by simp[execOp,ho,hv,asBool],hR.ah x⟩
   | false=>exact⟨a.eval y,by simp[execOp,ho,hv,asBool],hR.ah y⟩
  ·cases h
 ·rename_i t parts
  obtain⟨y,h1,hd⟩:=TU h
  obtain⟨y',h1',hs⟩:=Su (w0:=w0) (N:=N) (k:=fun z=>some z) (r:=y) (hd.at_ _)
  injection h1' with h1'
  subst h1'
  refine⟨_,h1,fun X k=>hd.at_ _,fun lab ρ a w o ho hR=>?_⟩
  obtain⟨v,aC,aA⟩:=hs lab ρ a w hR
  exact⟨v,by simp only[execOp,ho];exact iu aC,aA⟩
 ·rename_i t x
  obtain⟨y,h1,hd⟩:=yW h
  obtain⟨y',h1',hs⟩:=JU (w0:=w0) (N:=N) (k:=fun z=>some z) (r:=y) (hd.at_ _)
  injection h1' with h1'
  subst h1'
  refine⟨_,h1,fun X k=>hd.at_ _,fun lab ρ a w o ho hR=>?_⟩
  obtain⟨v,aC,aA⟩:=hs lab ρ a w hR _ (hR.ah x)
  exact⟨v,by simp only[execOp,ho];exact iu aC,aA⟩
 ·rename_i op t x y yt
  obtain⟨z,h1,hd⟩:=TP h
  obtain⟨z',h1',hs⟩:=SH (w0:=w0) (N:=N) (k:=fun z=>some z) (r:=z) (hd.at_ _)
  injection h1' with h1'
  subst h1'
  refine⟨_,h1,fun X k=>hd.at_ _,fun lab ρ a w o ho hR=>?_⟩
  obtain⟨t',aC,hr⟩:=hs lab ρ a w hR x y _ _ (hR.ah x) (hR.ah y)
  exact⟨t',by simp only[execOp,ho];exact iu aC,hr⟩
 ·rename_i op t x
  obtain⟨u,h1,sM⟩:=vu h
  obtain⟨z,h3,s6⟩:=K0 h1
  obtain⟨u',hx,h1'⟩:=A6 (k:=fun z=>some z) (r:=u) (sM.at_ _)
  injection h1' with h1'
  subst h1'
  obtain⟨z',sO,hp,hs⟩:=R2 (P:=P) (k:=fun z=>some z) (r:=z) (s6.at_ _)
  injection sO with sO
  subst sO
  refine⟨_,h3,fun X k=>(sM.at_ _).trans (s6.at_ _),fun lab ρ a w o ho hR=>?_⟩
  have h1:=hR.ah x
  rw[hx]at h1
  obtain⟨t',aC,hr⟩:=hs w _ lab [] _ h1.2
  exact⟨t',by simp only[execOp,ho];exact iu aC,V.yc hp,hr⟩
 ·rename_i s d' x
  obtain⟨y,h1,hd⟩:=TY h
  obtain⟨y',h1',hs⟩:=SD (w0:=w0) (N:=N) (k:=fun z=>some z) (r:=y) (hd.at_ _)
  injection h1' with h1'
  subst h1'
  refine⟨_,h1,fun X k=>hd.at_ _,fun lab ρ a w o ho hR=>?_⟩
  obtain⟨v,aC,aA⟩:=hs lab ρ a w hR _ (hR.ah x)
  exact⟨v,by simp only[execOp,ho];exact iu aC,aA⟩
 ·rename_i s x f
  obtain⟨y,h1,hd⟩:=TQ h
  obtain⟨y',h1',hs⟩:=R6 (k:=fun z=>some z) (r:=y) (hd.at_ _)
  injection h1' with h1'
  subst h1'
  refine⟨_,h1,fun X k=>hd.at_ _,fun lab ρ a w o ho hR=>?_⟩
  obtain⟨v,aC,aA⟩:=hs w _ lab ρ _ (hR.ah x)
  exact⟨v,by simp only[execOp,ho];exact iu aC,aA⟩
 ·rename_i s x f
  obtain⟨y,h1,hd⟩:=TV h
  obtain⟨y',h1',hs⟩:=SE (k:=fun z=>some z) (r:=y) (hd.at_ _)
  injection h1' with h1'
  subst h1'
  refine⟨_,h1,fun X k=>hd.at_ _,fun lab ρ a w o ho hR=>?_⟩
  obtain⟨v,aC,aA⟩:=hs w _ lab ρ _ (hR.ah x)
  exact⟨v,by simp only[execOp,ho];exact iu aC,aA⟩
 ·rename_i t x i
  obtain⟨y,h1,hd⟩:=TR h
  obtain⟨y',h1',hs⟩:=R7 (w0:=w0) (N:=N) (k:=fun z=>some z) (r:=y) (hd.at_ _)
  injection h1' with h1'
  subst h1'
  refine⟨_,h1,fun X k=>hd.at_ _,fun lab ρ a w o ho hR=>?_⟩
  obtain⟨v,aC,aA⟩:=hs lab ρ a w hR _ _ (hR.ah x) (hR.ah i)
  exact⟨v,by simp only[execOp,ho];exact iu aC,aA⟩
 ·rename_i t x i
  obtain⟨y,h1,hd⟩:=TW h
  obtain⟨y',h1',hs⟩:=SC (k:=fun z=>some z) (r:=y) (hd.at_ _)
  injection h1' with h1'
  subst h1'
  refine⟨_,h1,fun X k=>hd.at_ _,fun lab ρ a w o ho hR=>?_⟩
  obtain⟨v,aC,aA⟩:=hs w _ lab ρ _ _ (hR.ah x) (hR.ah i)
  exact⟨v,by simp only[execOp,ho];exact iu aC,aA⟩
 ·rename_i x i
  obtain⟨y,h1,hd⟩:=TT h
  obtain⟨y',h1',hs⟩:=R9 (P:=P) (k:=fun z=>some z) (r:=y) (hd.at_ _)
  injection h1' with h1'
  subst h1'
  refine⟨_,h1,fun X k=>hd.at_ _,fun lab ρ a w o ho hR=>?_⟩
  obtain⟨v,aC,aA⟩:=hs w _ lab ρ _ (hR.ah x)
  exact⟨v,by simp only[execOp,ho];exact iu aC,aA⟩
 ·rename_i x
  obtain⟨h1,hd,hs⟩:=K8 (w:=default) (B:=0) (lab:=fun _=>none) (ρ:=fun _=>.bS undef) h
  refine⟨_,h1,fun X k=>hd.at_ _,fun lab ρ a w o ho hR=>?_⟩
  obtain⟨_,_,hs⟩:=K8 (w:=w) (B:=w0.heap.size) (lab:=lab) (ρ:=ρ) h
  obtain⟨ad,hu⟩:=hs _ (hR.ah x)
  refine⟨a.eval x,?_,hR.ah x⟩
  simp only[execOp,ho,hu]
  rfl
 ·rename_i x t
  obtain⟨y,h1,hd⟩:=TS h
  refine⟨_,h1,fun X k=>hd.at_ _,fun lab ρ a w o ho hR=>?_⟩
  obtain⟨y',h1',hs⟩:=R8 (w0:=w0) (N:=N) (ty:=o.type) (k:=fun z=>some z) (r:=y) (hd.at_ _)
  injection h1' with h1'
  subst h1'
  obtain⟨v,aC,aA⟩:=hs lab ρ a w hR _ (hR.ah x)
  exact⟨v,by simp only[execOp,ho,resolve,Sem.run_bind,Sem.run_pure,Result.andThen_ok,invoke,builtin,List.map_toArray,List.map_cons,List.map_nil];rw[aC];rfl,aA⟩
 ·rename_i x y t t'
  obtain⟨z,h1,hd⟩:=K1 h
  obtain⟨z',h1',hs⟩:=Kg (P:=P) (k:=fun z=>some z) (r:=z) (hd.at_ _)
  injection h1' with h1'
  subst h1'
  refine⟨_,h1,fun X k=>hd.at_ _,fun lab ρ a w o ho hR=>?_⟩
  obtain⟨v,aC,aA⟩:=hs w _ lab ρ t o.type _ _ (hR.ah x) (hR.ah y)
  refine⟨v,?_,aA⟩
  simp only[execOp,ho,resolve,Sem.run_bind,Sem.run_pure,Result.andThen_ok,invoke,builtin,List.map_toArray,List.map_cons,List.map_nil]
  have aC:(Builtin.max_ #[t,t'] o.type #[a.eval x,a.eval y]).run P w = .ok v w:=aC
  rw[aC];rfl
 ·rename_i x y t t'
  obtain⟨z,h1,hd⟩:=K1 h
  obtain⟨z',h1',hs⟩:=Kg (P:=P) (k:=fun z=>some z) (r:=z) (hd.at_ _)
  injection h1' with h1'
  subst h1'
  refine⟨_,h1,fun X k=>hd.at_ _,fun lab ρ a w o ho hR=>?_⟩
  obtain⟨v,aC,aA⟩:=hs w _ lab ρ t o.type _ _ (hR.ah x) (hR.ah y)
  refine⟨v,?_,aA⟩
  simp only[execOp,ho,resolve,Sem.run_bind,Sem.run_pure,Result.andThen_ok,invoke,builtin,List.map_toArray,List.map_cons,List.map_nil]
  have aC:(Builtin.min_ #[t,t'] o.type #[a.eval x,a.eval y]).run P w = .ok v w:=aC
  rw[aC];rfl
 ·rename_i t x lo hi
  obtain⟨y,h1,hd⟩:=TZ h
  obtain⟨y',h1',hs⟩:=SJ (w0:=w0) (N:=N) (k:=fun z=>some z) (r:=y) (hd.at_ _)
  injection h1' with h1'
  subst h1'
  refine⟨_,h1,fun X k=>hd.at_ _,fun lab ρ a w o ho hR=>?_⟩
  have ob:∀ z:Option Operand,(∀ b,z.map (ah σ)=some b->∃ v,z.map a.eval=some v/\RA w w0.heap.size lab ρ b v)/\(z.map (ah σ)=none->z.map a.eval=none):=by
   intro z
   cases z with
   | none=>exact⟨fun b U=>(by cases U),fun _=>rfl⟩
   | some z=>exact⟨fun b U=>(by cases U;exact⟨_,rfl,hR.ah z⟩),fun U=>(by cases U)⟩
  obtain⟨v,aC,hr⟩:=hs lab ρ a w hR _ _ _ (hR.ah x) (ob lo).1 (ob lo).2 (ob hi).1 (ob hi).2
  exact⟨v,by simp only[execOp,ho];exact iu aC,hr⟩
 ·cases h
theorem US{k:S->Option X}(aI:dn P Φ)(h:dV P N Φ σ o k=some r):∃ aa,k aa=some r/\gz P w0 N o σ aa:=by
 unfold dV at h
 split at h
 ·rename_i e ho
  obtain⟨d,hd,h⟩:=c9 h
  obtain⟨aa,h,hs⟩:=Sj (w0:=w0) h
  refine⟨aa,h,.mem hd fun lab ρ a w hR=>?_⟩
  obtain⟨w',af,ρ',v,aC,aA⟩:=hs lab ρ a w hR
  exact⟨w',af,ρ',v,by simp only[execOp,ho];exact iu aC,aA⟩
 ·rename_i e x ho
  obtain⟨d,hd,h⟩:=c9 h
  obtain⟨aa,h,hs⟩:=T5 (w0:=w0) (e:=e) h
  refine⟨aa,h,.mem hd fun lab ρ a w hR=>?_⟩
  obtain⟨w',af,ρ',v,aC,aA⟩:=hs lab ρ a w hR _ (hR.ah x)
  exact⟨w',af,ρ',v,by simp only[execOp,ho];exact iu aC,aA⟩
 ·rename_i t len parts ho
  obtain⟨d,hd,h⟩:=c9 h
  cases hn:jf t with
  | true=>
   rw[hn,cond_true]at h
   obtain⟨aa,h,hs⟩:=T6 (w0:=w0) h
   refine⟨aa,h,.mem hd fun lab ρ a w hR=>?_⟩
   obtain⟨w',af,ρ',v,aC,aA⟩:=hs lab ρ a w hR
   exact⟨w',af,ρ',v,by simp only[execOp,ho];exact iu aC,aA⟩
  | false=>
   rw[hn,cond_false]at h
   obtain⟨aa,h,hs⟩:=Sz (w0:=w0) h
   refine⟨aa,h,.mem hd fun lab ρ a w hR=>?_⟩
   obtain⟨w',af,ρ',v,aC,aA⟩:=hs lab ρ a w hR
   exact⟨w',af,ρ',v,by simp only[execOp,ho];exact iu aC,aA⟩
 ·rename_i t x y ho
  split at h
  ·rename_i hd
   cases hn:s9 (ah σ x) (ah σ y)with
   | true=>
    rw[hn,cond_true]at h
    obtain⟨aa,h,hs⟩:=Ue (w0:=w0) (N:=N) h
    refine⟨aa,h,fun a w K Q hR hK=>?_⟩
    obtain⟨lab,ρ,hR⟩:=hR
    obtain⟨w',af,aC,aA⟩:=hs lab ρ a w hR _ _ (hR.ah x) (hR.ah y)
    have:(execOp a.eval o).run P w = .ok .skip w':=by
     simp only[execOp,ho]
     rw[Sem.run_bind,aC];rfl
    unfold Oper.wp
    rw[this,Oper.upon_skip,hd]
    exact hK _ _ ⟨af,ρ,aA⟩
   | false=>
    rw[hn,cond_false]at h
    obtain⟨aa,h,hs⟩:=JW (w0:=w0) (N:=N) h
    refine⟨aa,h,fun a w K Q hR hK=>?_⟩
    obtain⟨lab,ρ,hR⟩:=hR
    obtain⟨w',aC,aA⟩:=hs lab ρ a w hR _ _ (hR.ah x) (hR.ah y)
    have:(execOp a.eval o).run P w = .ok .skip w':=by
     simp only[execOp,ho]
     rw[Sem.run_bind,aC];rfl
    unfold Oper.wp
    rw[this,Oper.upon_skip,hd]
    exact hK _ _ ⟨lab,ρ,aA⟩
  ·cases h
 ·rename_i t l c ho
  obtain⟨d,hd,h⟩:=c9 h
  obtain⟨aa,h,hs⟩:=Sn (w0:=w0) h
  refine⟨aa,h,.mem hd fun lab ρ a w hR=>?_⟩
  obtain⟨w',af,ρ',v,aC,aA⟩:=hs lab ρ a w hR _ _ (hR.ah l) (hR.ah c)
  exact⟨w',af,ρ',v,by simp only[execOp,ho];exact iu aC,aA⟩
 ·rename_i f args bD ho
  split at h
  ·rename_i c hc
   obtain⟨d,hd,h⟩:=c9 h
   obtain⟨he,bJ⟩:=aI f _ hc
   exact SO ho hd he bJ h
  ·rename_i c hc
   obtain⟨he,bJ⟩:=aI f _ hc
   exact Tq ho he bJ h
  ·rename_i c hc
   obtain⟨d,hd,h⟩:=c9 h
   obtain⟨he,bJ⟩:=aI f _ hc
   exact Uk ho hd he bJ h
  ·rename_i F hc
   obtain⟨d,hd,h⟩:=c9 h
   obtain⟨he,bJ⟩:=aI f _ hc
   split at h
   ·rename_i x hx
    exact Uh ho hx hd he bJ h
   ·cases h
  ·rename_i c hc
   obtain⟨he,bJ⟩:=aI f _ hc
   exact Lp (ex:=[]) ho rfl he bJ h
  ·rename_i c hc
   obtain⟨he,bJ⟩:=aI f _ hc
   exact Tw ho he bJ h
  ·rename_i c hc
   obtain⟨d,hd,h⟩:=c9 h
   obtain⟨he,bJ⟩:=aI f _ hc
   exact SP ho hd he bJ h
  ·rename_i c hc
   obtain⟨he,bJ⟩:=aI f _ hc
   exact Ut ho he bJ h
  ·cases h
 ·rename_i x y t t' ho
  cases di:Nat.beq t t' with
  | false=>
   rw[di,cond_false]at h
   obtain⟨d,hd,h⟩:=c9 h
   obtain⟨aa,h,hs⟩:=UF (w0:=w0) (ty:=o.type) h
   refine⟨aa,h,.mem hd fun lab ρ a w hR=>?_⟩
   obtain⟨w',af,ρ',v,aC,aA⟩:=hs lab ρ a w hR _ _ (hR.ah x) (hR.ah y)
   refine⟨w',af,ρ',v,?_,aA⟩
   simp only[execOp,ho,resolve,Sem.run_bind,Sem.run_pure,Result.andThen_ok,invoke,builtin,List.map_toArray,List.map_cons,List.map_nil]
   rw[aC];rfl
  | true=>
   rw[di,cond_true]at h
   obtain rfl:=Nat.eq_of_beq_eq_true di
   obtain⟨d,hd,h⟩:=c9 h
   have hh:∃ aa,k aa=some r/\∀ lab ρ a w,Rl w0 N lab ρ σ a w->∀ u v,RA w w0.heap.size lab ρ (ah σ x) u->RA w w0.heap.size lab ρ (ah σ y) v->
     ∃ w' af ρ' z,(Builtin.append_ #[t,t] o.type #[u,v]).run P w = .ok z w'/\Rl w0 N af ρ' aa (a.put (some d) z) w':=by
    cases hn:jf t with
    | true=>rw[hn,cond_true]at h;exact Ub h
    | false=>
     rw[hn,cond_false]at h
     cases hk:zk t d with
     | true=>rw[hk,cond_true]at h;exact UN h
     | false=>rw[hk,cond_false]at h;exact Sp h
   obtain⟨aa,h,hs⟩:=hh
   refine⟨aa,h,.mem hd fun lab ρ a w hR=>?_⟩
   obtain⟨w',af,ρ',v,aC,aA⟩:=hs lab ρ a w hR _ _ (hR.ah x) (hR.ah y)
   refine⟨w',af,ρ',v,?_,aA⟩
   simp only[execOp,ho,resolve,Sem.run_bind,Sem.run_pure,Result.andThen_ok,invoke,builtin,List.map_toArray,List.map_cons,List.map_nil]
   rw[aC];rfl
 ·rename_i t ho
  obtain⟨d,hd,h⟩:=c9 h
  obtain⟨aa,h,hs⟩:=UH (w0:=w0) (t:=t) (P:=P) h
  refine⟨aa,h,.mem hd fun lab ρ a w hR=>?_⟩
  obtain⟨w',af,ρ',v,aC,aA⟩:=hs lab ρ a w hR
  exact⟨w',af,ρ',v,by simp only[execOp,ho];exact iu aC,aA⟩
 ·rename_i t x i ho
  obtain⟨v,h1,_,hs⟩:=Lv (w0:=w0) (N:=N) h
  refine gz.val h1 fun lab ρ a w hR=>?_
  obtain⟨y,aC,aA⟩:=hs lab ρ a w hR _ _ (hR.ah x) (hR.ah i)
  exact⟨y,by simp only[execOp,ho];exact iu aC,aA⟩
 ·rename_i t x i v ho
  split at h
  ·rename_i hd
   obtain⟨aa,h,_,hs⟩:=Lx (w0:=w0) (N:=N) h
   refine⟨aa,h,fun a w K Q hR hK=>?_⟩
   obtain⟨lab,ρ,hR⟩:=hR
   obtain⟨w',aC,aA⟩:=hs lab ρ a w hR _ _ _ (hR.ah x) (hR.ah i) (hR.ah v)
   have:(execOp a.eval o).run P w = .ok .skip w':=by
    simp only[execOp,ho]
    rw[Sem.run_bind,aC];rfl
   unfold Oper.wp
   rw[this,Oper.upon_skip,hd]
   exact hK _ _ ⟨lab,ρ,aA⟩
  ·cases h
 ·rename_i t args bD ho
  split at h
  ·rename_i f cap bV
   split at h
   ·rename_i c hc
    obtain⟨he,bJ⟩:=aI f _ hc
    exact Lp ho bV he bJ h
   ·cases h
  ·cases h
 ·rename_i f zl ho
  split at h
  ·rename_i ps dD
   obtain⟨h1,h2⟩:=Lq (w0:=w0) (N:=N) _ _ dD
   refine gz.val h fun lab ρ a w hR=>⟨.func (.func f) #[] (zl.map a.eval),by simp[execOp,ho,Instr.makeFunc],_,rfl,by simp[h1],fun j p hp=>?_⟩
   obtain⟨b,off,e1,e2⟩:=h2 lab ρ a w hR j p hp
   exact⟨b,off,e1,by simpa using e2⟩
  ·cases h
 ·cases h
theorem BY{k:S->Option X}(aI:dn P Φ)(h:bC P N Φ σ o k=some r):∃ aa,k aa=some r/\gz P w0 N o σ aa:=by
 unfold bC at h
 cases hv:cP o.op with
 | true=>
  rw[hv,cond_true]at h
  obtain⟨v,h1,_,hs⟩:=vE (w0:=w0) (N:=N) h
  exact gz.val h1 fun lab ρ a w hR=>hs lab ρ a w o rfl hR
 | false=>
  rw[hv,cond_false]at h
  exact US aI h
theorem UT{k:S->Option X}(aI:dn P Φ)(h:kg P N Φ σ o k=some r):∃ aa,k aa=some r/\gz P w0 N o σ aa:=by
 unfold kg at h
 split at h
 ·rename_i t x y ho hd
  split at h
  ·rename_i q s i j hy
   obtain⟨aa,h1,hs⟩:=Uv (w0:=w0) (N:=N) h
   refine⟨aa,h1,fun a w K Q hR hK=>?_⟩
   obtain⟨lab,ρ,hR⟩:=hR
   have hv:=hR.ah y
   rw[hy]at hv
   obtain⟨w',af,aC,aA⟩:=hs lab ρ a w hR _ _ (hR.ah x) hv
   have:(execOp a.eval o).run P w = .ok .skip w':=by
    simp only[execOp,ho]
    rw[Sem.run_bind,aC];rfl
   unfold Oper.wp
   rw[this,Oper.upon_skip,hd]
   exact hK _ _ ⟨af,ρ,aA⟩
  ·exact BY aI h
 ·obtain⟨aa,h1,hs⟩:=BY (w0:=w0) aI h
  exact⟨aa,h1,fun a w K Q hR hK=>hs a w K Q hR.vz hK⟩
 ·exact BY aI h
end
end Go.Proofs.YtjldnlbiefpekaaDoor
