/-
  Running the program over pure contents, and that it follows (part 3). Nothing here is a claim.
-/
import Derived.Lib.AppendStr
import Derived.MapKept
import Derived.Test.YtmffpkippmkjbaaGreatDoorV2
set_option linter.unusedSimpArgs false
namespace Go.Proofs.YtmffpkippmkjbaaGreatDoor
open Go.RowKit
set_option linter.unusedVariables false
def dT:Nat:=89999
def mR(lab:aQ)(k:List Nat):aQ:=fun b=>match lab b with
 | some q=>bif k.isSuffixOf q then some (q.take (q.length-k.length)++[dT])else bif aM dT q then none else some q
 | none=>none
def Ft(σ:S)(c:gN)(args:List Operand)(q:Nat):Bool:=match gU σ c.ps args with
 | some ay=>!bg q ((iN 0 ay).map (·.1))&&ay.any fun mu=>Nat.beq mu.root dT
 | none=>false
def we{X:Type}(N:Nat)(σ:S)(dst:Option Tmp)(c:gN)(args:List Operand)(k:S->Option X):Option X:=
 match args with
 | .tmp t :: _=>(match σ.t t with
  | .lf (.own [j,i,s,q])=>(match σ.m q with
   | some (.sl (.sl tc (o+2) qn l))=>if s=aq tc then (if hi:i<l.length then (match (enc tc o l[i])[j]? with
    | some y=>bif Nat.ble N 20000&&Nat.ble 20000 q&&Nat.blt q 60000&&Ft ((σ.aP [q,dT] [dT] [(dT,.sl y)]).set t (.lf (.own [dT]))) c args q then jP N ((σ.aP [q,dT] [dT] [(dT,.sl y)]).set t (.lf (.own [dT]))) dst c args fun τ=>(match τ.m dT with
      | some (.sl y')=>(match dec tc o (dZ (enc tc o l[i]) j [y'])with
       | some e=>k ((τ.drop dT).root q (.sl (.sl tc (o+2) qn (l.set i e))))
       | none=>none)
      | _=>none)else none
    | none=>none)else none)else none
   | _=>none)
  | _=>none)
 | _=>none
section
variable {P:Program} {w w':World} {w0:Wd} {B N:Nat} {lab cI aj:aQ} {ρ dI ρ':Nat->Loc} {σ:S} {a:Act} {X:Type} {d:Nat} {r:X} {o:Oper} {K:List Nat}
theorem Fu{b:Nat}(h:lab b=none):mR lab K b=none:=by simp[mR,h]
theorem acQ{b:Nat}{p:List Nat}(h:lab b=some (p++K)):mR lab K b=some (p++[dT]):=by
 have h1:K.isSuffixOf (p++K)=true:=List.isSuffixOf_iff_suffix.2 ⟨p,rfl⟩
 simp[mR,h,h1]
theorem K5{b:Nat}{k:List Nat}(h:lab b=some k)(h1:¬ K <:+ k)(h2:aM dT k=false):mR lab K b=some k:=by
 have h1:K.isSuffixOf k=false:=by
  cases hk:K.isSuffixOf k with
  | false=>rfl
  | true=>exact absurd (List.isSuffixOf_iff_suffix.1 hk) h1
 simp[mR,h,h1,h2]
theorem RV.cut{k:List Nat}{x:V}{v:Value}(h:RV w B lab k x v):∀ p,k=p++K\/x.ah=true->RV w B (mR lab K) (p++[dT]) x v:=by
 induction h with
 | int=>exact fun _ _=>.int _ _ _
 | bool=>exact fun _ _=>.bool _ _
 | str=>exact fun _ _=>.str _ _
 | nil=>exact fun _ _=>.nil _
 | bO=>exact fun _ _=>.bO _ _ _
 | bY=>exact fun _ _=>.bY _ _ _ _ _ (by first | assumption | omega)
 | cy=>exact fun _ _=>.cy _ _ _ _ _ (by first | assumption | omega)
 | ah k t o qn l b off cap u ho hl hb h1 hcap hc hr ih=>
  exact fun p _=>.ah _ _ _ _ _ _ _ _ u ho (Fu hl) hb h1 hcap hc (fun i h j x hx=>(ih i h j x hx [] (.inr (hG t o l[i] ho j x hx))).key (hG t o l[i] ho j x hx))
 | own k t o qn l b cap cs u hl hh hs hn hm hc hr ih=>
  intro p hp
  have hp:k=p++K:=by
   rcases hp with hp | hp
   ·exact hp
   ·simp[V.ah]at hp;omega
  subst hp
  exact .own _ _ _ _ _ _ _ cs u (acQ hl) hh hs hn hm hc (fun i h j x hx=>ih i h j x hx (j :: i :: aq t :: p) (.inl rfl))
theorem RV.acR{k:List Nat}{x:V}{v:Value}(h:RV w B lab k x v)(aK:∀ b,lab b≠some [])(hk:((∀ p,¬ K <:+ p++k)/\aM dT k=false)\/x.ah=true):RV w B (mR lab K) k x v:=by
 induction h with
 | int=>exact .int _ _ _
 | bool=>exact .bool _ _
 | str=>exact .str _ _
 | nil=>exact .nil _
 | bO=>exact .bO _ _ _
 | bY=>exact .bY _ _ _ _ _ (by first | assumption | omega)
 | cy=>exact .cy _ _ _ _ _ (by first | assumption | omega)
 | ah k t o qn l b off cap u ho hl hb h1 hcap hc hr ih=>
  exact .ah _ _ _ _ _ _ _ _ u ho (Fu hl) hb h1 hcap hc (fun i h j x hx=>ih i h j x hx (.inr (hG t o l[i] ho j x hx)))
 | own k t o qn l b cap cs u hl hh hs hn hm hc hr ih=>
  have hk:(∀ p,¬ K <:+ p++k)/\aM dT k=false:=by
   rcases hk with hk | hk
   ·exact hk
   ·simp[V.ah]at hk;omega
  refine .own _ _ _ _ _ _ _ cs u (K5 hl (hk.1 []) hk.2) hh hs hn hm hc (fun i h j x hx=>ih i h j x hx (.inl ⟨fun p=>?_,?_⟩))
  ·have:=hk.1 (p++[j,i,aq t])
   rwa [List.append_assoc]at this
  ·have BF:k≠[]:=by rintro rfl;exact aK b hl
   rw[EY BF]
   exact hk.2
theorem Rl.acS{t:Nat}{x:A}(h:Rl w0 N lab ρ σ a w)(hx:RA w w0.heap.size lab ρ x (a.tmps.getD t undef)):Rl w0 N lab ρ (σ.set t x) a w:=by
 refine⟨h.below,h.bV,h.root,fun k=>?_,h.size,h.defers,h.fix,h.dM⟩
 show RA w w0.heap.size lab ρ (aX σ.t t x k) (a.tmps.getD k undef)
 by_cases hk:k=t
 ·subst hk
  rw[aZ]
  exact hx
 ·rw[bB _ _ _ hk]
  exact h.tmp k
theorem Rl.acT{q:Nat}{x:ax}(h:Rl w0 N lab ρ σ a w)(hx:cX w w0.heap.size lab ρ q x):Rl w0 N lab ρ (σ.root q x) a w:=by
 refine⟨h.below,h.bV,fun r y hy=>?_,h.tmp,h.size,h.defers,h.fix,h.dM⟩
 have hy:aX σ.m q (some x) r=some y:=hy
 by_cases hr:r=q
 ·subst hr
  rw[aZ]at hy
  injection hy with hy
  subst hy
  exact hx
 ·rw[bB _ _ _ hr]at hy
  exact h.root r y hy
theorem gv.acU(h:Rl w0 N lab ρ σ a w):gv w0 w w:=⟨rfl,rfl,rfl,Nat.le_refl _,fun _ _ _=>rfl⟩
theorem acV{f:Nat}{args:Array Operand}{cA:Array TypeId}{c:gN}{k:S->Option X}(ho:o.op = .call { callee:=.value (.func f),args,argTypes:=cA })(he:enters P f)(hc:kF P f c)(h:we N σ o.dst c args.toList k=some r):∃ af,k af=some r/\iJ P w0 N o σ af:=by
 unfold we at h
 split at h
 ·rename_i t rest eW
  split at h
  ·rename_i j i s q ht
   split at h
   ·rename_i tc oo qn l hm
    split at h
    ·rename_i hs
     subst hs
     split at h
     ·rename_i hi
      split at h
      ·rename_i y hy
       generalize acW:((σ.aP [q,dT] [dT] [(dT,.sl y)]).set t (.lf (.own [dT])))=lT at h
       cases hb:(Nat.ble N 20000&&Nat.ble 20000 q&&Nat.blt q 60000&&Ft lT c args.toList q)with
       | false=>rw[hb]at h;cases h
       | true=>
        rw[hb,cond_true]at h
        simp only[Bool.and_eq_true]at hb
        obtain⟨⟨⟨hN,mS⟩,oC⟩,Fv⟩:=hb
        have hN:=Nat.le_of_ble_eq_true hN
        have mS:=Nat.le_of_ble_eq_true mS
        have oC:q<60000:=Nat.le_of_ble_eq_true oC
        obtain⟨τ,ay,cn,hk,nS,oB,uA,Bp⟩:=QV (w0:=w0) ho he hc h
        clear h
        unfold Ft at Fv
        rw[nS]at Fv
        simp only[Bool.and_eq_true,Bool.not_eq_true']at Fv
        obtain⟨yF,hdT⟩:=Fv
        obtain⟨mu,fh,K6⟩:=List.any_eq_true.1 hdT
        have K6:=Nat.eq_of_beq_eq_true K6
        have acX:bg dT cn=false:=by rw[<-K6];exact uA mu fh
        have acY:bg q cn=false:=by
         cases hx:bg q cn with
         | false=>rfl
         | true=>have:=oB q hx;omega
        have K7:q≠dT:=by unfold dT;omega
        split at hk
        ·rename_i y' dH
         split at hk
         ·rename_i e K8
          refine⟨_,hk,fun a w KK Q hR hK=>?_⟩
          obtain⟨lab,ρ,hR⟩:=hR
          have aK:=hR.tX
          have acZ:w0.F dT=none:=hR.dM dT (.inr (by decide))
          have bZ:=hR.root q _ hm
          generalize hx:ax.sl (.sl tc (oo+2) qn l)=x at bZ
          cases bZ with
          | blk=>cases hx
          | mp=>cases hx
          | gh=>cases hx
          | sl v yq av hr=>
           injection hx with hx
           subst hx
           cases hr with
           | bO=>simp at hi
           | bY=>simp at hi
           | cy=>simp at hi
           | ah _ _ _ _ _ _ _ _ _ ho=>omega
           | own _ _ _ _ _ b cap cs u hl hh hs hn vD K9 ji=>
            have hKv:qf σ.m [j,i,aq tc,q] y:=.elem j i [q] tc oo qn l y (.root q _ hm) hi hy
            obtain⟨u0,jF,ac0⟩:=hKv.ok hR.root
            have o7:=hR.tmp t
            rw[ht]at o7
            have ec:a.tmps.getD t undef=u0:=by
             have h2:=o7.2
             rw[jF]at h2
             injection h2 with h2
             exact h2.symm
            have ac1:u0=u i j:=by
             have h3:bC w lab ρ [j,i,aq tc,q]=some (u i j):=by
              rw[ET,vz j i (aq tc) (q:=[q]) (show bC w lab ρ [q]=some (.slice (some ⟨b,0,none⟩) l.length cap) by simp only[bC,av]) hl]
              show w.cell? _=_
              rw[cell_of_row w b _ cs _ _ hh]
              exact K9 i hi j y hy
             rw[jF]at h3
             injection h3
            have fD:iT u0=true:=by rw[<-ec];exact o7.1
            -- the state that the callee's caller sees
            have Bm:∀ k:List Nat,bG k [q,dT]=false->aM q k=false/\aM dT k=false:=by
             intro k hk
             unfold bG at hk
             unfold aM
             split at hk
             ·rename_i z hz
              rw[hz]
              have:=QF hk
              simp only[List.mem_cons,List.not_mem_nil,or_false,not_or]at this
              exact⟨by simpa using this.1,by simpa using this.2⟩
             ·rename_i hz
              rw[hz]
              exact⟨rfl,rfl⟩
            have hKq:∀ k:List Nat,[j,i,aq tc,q] <:+ k->aM q k=true:=by
             rintro k ⟨p,rfl⟩
             simp[aM]
            have qp:nQ w w lab (mR lab [j,i,aq tc,q]) ρ (aX ρ dT (.cS u0)) [q,dT] [dT]:=by
             refine⟨Nat.le_refl _,fun b' iU dm=>⟨rfl,?_⟩,fun n hn=>?_,fun b' k dm=>(hR.bV b' k dm).2⟩
             ·cases cL:lab b' with
              | none=>exact Fu cL
              | some k=>
               obtain⟨g1,g2⟩:=Bm k (dm k cL)
               exact K5 cL (fun kj=>by rw[hKq k kj]at g1;cases g1) g2
             ·refine bB _ _ _ ?_
              rintro rfl
              simp[bg]at hn
            have dn:∀ b' k,mR lab [j,i,aq tc,q] b'=some k->(∃ k',lab b'=some k')/\k≠[]:=by
             intro b' k dm
             cases cL:lab b' with
             | none=>rw[Fu cL]at dm;cases dm
             | some k'=>
              refine⟨⟨k',rfl⟩,?_⟩
              unfold mR at dm
              rw[cL]at dm
              simp only at dm
              cases h1:List.isSuffixOf [j,i,aq tc,q] k' with
              | true=>
               rw[h1,cond_true]at dm
               injection dm with dm
               rw[<-dm]
               simp
              | false=>
               rw[h1,cond_false]at dm
               cases h2:aM dT k' with
               | true=>rw[h2,cond_true]at dm;cases dm
               | false=>
                rw[h2,cond_false]at dm
                injection dm with dm
                rw[<-dm]
                exact(hR.bV b' k' cL).2.2
            have mT:Rl w0 N (mR lab [j,i,aq tc,q]) (aX ρ dT (.cS u0)) (σ.aP [q,dT] [dT] [(dT,.sl y)]) a w:=by
             refine hR.gD qp (gv.acU hR) (fun b' k dm=>?_) (fun n hn=>?_) (fun n z hz=>?_)
             ·obtain⟨⟨k',cL⟩,BF⟩:=dn b' k dm
              have:=hR.bV b' k' cL
              exact⟨this.1,this.2.1,BF⟩
             ·have:n=dT:=by simpa [bg]using hn
              rw[this]
              exact acZ
             ·have hn:n=dT/\z = .sl y:=by
               rw[List.lookup_cons]at hz
               cases wg:(n==dT)with
               | false=>rw[wg]at hz;cases hz
               | true=>
                rw[wg]at hz
                injection hz with hz
                exact⟨by simpa using wg,hz.symm⟩
              obtain⟨rfl,rfl⟩:=hn
              exact .sl u0 y (aZ _ _ _) (ac0.cut [] (.inl rfl))
            have iM:Rl w0 N (mR lab [j,i,aq tc,q]) (aX ρ dT (.cS u0)) lT a w:=by
             rw[<-acW]
             refine mT.acS ?_
             rw[ec]
             exact⟨fD,by simp only[bC,aZ]⟩
            refine Bp a w KK Q _ _ iM fun vv w' cI dI qC BE rV ep sq=>?_
            -- behind the call
            have sk:90000<=fR o.dst:=by unfold fR;split <;>omega
            have ac2:qC dT = .cS u0:=by
             rw[sq dT (by unfold dT;omega),rV.dj dT acX,aZ]
            have ac3:qC q = .cS (.slice (some ⟨b,0,none⟩) l.length cap):=by
             rw[sq q (by omega),rV.dj q acY,bB _ _ _ K7,av]
            have bZ:=BE.root dT _ dH
            generalize hx:ax.sl y'=x at bZ
            cases bZ with
            | blk=>cases hx
            | mp=>cases hx
            | gh=>cases hx
            | sl v' y'' fF cw=>
             injection hx with hx
             subst hx
             rw[ac2]at fF
             injection fF with fF
             subst fF
             have La:=BE.tX
             have ja:Rel dT cI (cI.fO dT [j,i,aq tc,q]):=A9 La
             have Q3:aM dT [q]=false:=by simpa [aM]using fun e=>K7 e
             have yO:mR lab [j,i,aq tc,q] b=some [q]:=K5 hl (fun kj=>by have:=kj.length_le;simp at this) Q3
             have ac4:bG [q] ((iN 0 ay).map (·.1))=false:=yF
             obtain⟨g1,g2⟩:=rV.same b (rV.lab b _ yO).1 (fun k dm=>by rw[yO]at dm;injection dm with dm;subst dm;exact ac4)
             have ac5:cI b=some [q]:=g2.trans yO
             have ac6:cI.fO dT [j,i,aq tc,q] b=some [q]:=ja.dL b _ ac5 Q3
             have hR4:=BE.rel ja (fun b' k dm=>by
              unfold aQ.fO at dm
              cases cL:cI b' with
              | none=>rw[cL]at dm;cases dm
              | some k'=>
               rw[cL]at dm
               injection dm with dm
               subst dm
               exact⟨⟨k',rfl⟩,P3 (by simp) (fun e=>La b' (by rw[cL,e]))⟩)
             refine hK _ _ ⟨_,qC,hR4.acT (.sl _ _ ac3 ?_)⟩
             have hj:j<aq tc:=by
              have:=(List.getElem?_eq_some_iff.1 hy).1
              rwa [jB]at this
             refine RV.EU (w':=w') (cs:=cs) (xs:=[y']) (u:=u) (us:=u) ac6 (g1.trans hh) hs hn vD hi (show j+1<=aq tc from hj) K8 (fun i' pz j' x hx BG=>⟨K9 i' pz j' x hx,?_⟩) (fun n x hx=>?_)
             ·have rI:=ji i' pz j' x hx
              have ac7:¬ (i'=i/\j'=j):=fun e=>BG ⟨e.1,by simp;omega⟩
              have Q4:aM dT [j',i',aq tc,q]=false:=by simpa [aM]using fun e=>K7 e
              have a1:=rI.acR (K:=[j,i,aq tc,q]) aK (.inl ⟨fun p kj=>?_,Q4⟩)
              ·have a2:=a1.gD rV (.inl (by simpa [bG]using yF))
               exact a2.rel ja (.inl Q4)
              ·have e1:[j,i,aq tc,q]=[j',i',aq tc,q]:=J4 kj ⟨p,rfl⟩ rfl
               injection e1 with e1 e2
               injection e2 with e2 e3
               exact ac7 ⟨e2.symm,e1.symm⟩
             ·cases n with
              | zero=>
               simp only[List.getElem?_cons_zero,Option.some.injEq]at hx
               subst hx
               refine⟨K9 i hi j y hy,?_⟩
               have:=cw.fO (q:=dT) (nk:=[j,i,aq tc,q]) La
               rw[P2,ac1]at this
               exact this
              | succ n=>simp at hx
         ·cases hk
        ·cases hk
      ·cases h
     ·cases h
    ·cases h
   ·cases h
  ·cases h
 ·cases h
theorem ac8{dst:Option Tmp}{c:gN}{args:List Operand}{k:S->Option X}(Q5:∀ {X:Type} {σ:S} {k:S->Option X} {r:X},jP N σ dst c args k=some r->∃ τ,k τ=some r/\∀ (X:Type) (k:S->Option X),jP N σ dst c args k=k τ)(h:we N σ dst c args k=some r):
  ∃ τ,k τ=some r/\∀ (X:Type) (k:S->Option X),we N σ dst c args k=k τ:=by
 unfold we at h
 split at h
 ·rename_i t rest
  split at h
  ·rename_i j i s q ht
   split at h
   ·rename_i tc oo qn l hm
    split at h
    ·rename_i hs
     split at h
     ·rename_i hi
      split at h
      ·rename_i y hy
       generalize hb:(Nat.ble N 20000&&Nat.ble 20000 q&&Nat.blt q 60000&&Ft ((σ.aP [q,dT] [dT] [(dT,.sl y)]).set t (.lf (.own [dT]))) c (.tmp t :: rest) q)=b at h
       cases b with
       | false=>cases h
       | true=>
        rw[cond_true]at h
        obtain⟨τ,h1,h2⟩:=Q5 h
        split at h1
        ·rename_i y' dH
         split at h1
         ·rename_i e K8
          exact⟨_,h1,fun X k=>by
           simp only[we,ht,hm,hs,if_true,hi,dif_pos,hy]
           subst hs
           rw[hb,cond_true,h2]
           simp only[dH,K8]⟩
         ·cases h1
        ·cases h1
      ·cases h
     ·cases h
    ·cases h
   ·cases h
  ·cases h
 ·cases h
end
end Go.Proofs.YtmffpkippmkjbaaGreatDoor
namespace Go.Proofs.YtmffpkippmkjbaaGreatDoor
open Go.RowKit
set_option linter.unusedVariables false
def bD{α:Type}(f:(X:Type)->(α->Option X)->Option X)(y:α):Prop:=∀ (X:Type) (k:α->Option X),f X k=k y
section
variable {P:Program} {N:Nat} {σ:S} {X:Type} {r:X} {d:Nat} {m:Nat->Option ax}
theorem oD:∀ (q:List Nat) (k:V->Option X),eF m q k=some r->∃ y,k y=some r/\qf m q y/\bD (fun X k=>eF (X:=X) m q k) y
 | [],_,h=>by simp[eF]at h
 | [x],k,h=>by
  simp only[eF]at h
  split at h
  ·rename_i y hy;exact⟨y,h,.root x y hy,fun X k=>by simp only[eF,hy]⟩
  ·cases h
 | [_,_],_,h=>by simp[eF]at h
 | j :: i :: s :: q,k,h=>by
  simp only[eF]at h
  obtain⟨y,h2,hg,hd⟩:=oD q _ h
  clear h
  split at h2
  ·split at h2
   ·rename_i hs
    subst hs
    split at h2
    ·rename_i hi
     split at h2
     ·rename_i z hz
      exact⟨z,h2,.elem j i q _ _ _ _ z hg hi hz,fun X k=>by
       simp only[eF]
       exact(hd X _).trans (by simp only[if_true,dif_pos hi,hz])⟩
     ·cases h2
    ·cases h2
   ·cases h2
  ·cases h2
theorem uB{x:Lf}{k:V->Option X}(h:fE σ x k=some r):∃ y,k y=some r/\bD (fun X k=>fE (X:=X) σ x k) y:=by
 cases x with
 | v z=>exact⟨z,h,fun X k=>rfl⟩
 | own q=>obtain⟨y,h1,_,h2⟩:=oD q k h;exact⟨y,h1,h2⟩
 | dead=>cases h
theorem Q6{q:List Nat}{s i j:Nat}{k:V->Option X}(h:ot σ q s i j k=some r):∃ y,k y=some r/\bD (fun X k=>ot (X:=X) σ q s i j k) y:=by
 obtain⟨y,h1,_,h2⟩:=oD q _ h
 split at h1
 ·rename_i z hz
  exact⟨z,h1,fun X k=>by
   simp only[ot]
   exact(h2 X _).trans (by simp only[hz])⟩
 ·cases h1
theorem Lb{x:A}{k:V->Option X}(h:mK σ x k=some r):∃ y,k y=some r/\bD (fun X k=>mK (X:=X) σ x k) y:=by
 unfold mK at h
 split at h
 ·exact uB h
 ·exact Q6 h
 ·cases h
theorem yP{x:A}{k:V->Option X}(h:vK x k=some r):∃ y,k y=some r/\bD (fun X k=>vK (X:=X) x k) y:=by
 obtain⟨y,rfl,h⟩:=EV h
 exact⟨y,h,fun X k=>rfl⟩
theorem Q7{ty:TypeId}{op:BinOp}{x y:V}{k:V->Option X}(h:jE P ty op x y k=some r):∃ z,k z=some r/\bD (fun X k=>jE (X:=X) P ty op x y k) z:=by
 unfold jE at h
 split at h
 ·rename_i kx a ky b
  split at h
  ·split at h
   ·cases h
   ·rename_i hb;exact⟨_,h,fun X k=>by simp only[jE,if_neg hb]⟩
  ·split at h
   ·cases h
   ·rename_i hb;exact⟨_,h,fun X k=>by simp only[jE,if_neg hb]⟩
  ·rename_i h1 h2
   split at h
   ·rename_i hk
    subst hk
    cases op
    case shl=>exact absurd rfl h1
    case shr=>exact absurd rfl h2
    case quo=>
     by_cases hb:b=0
     ·simp only[hb,if_true]at h;cases h
     ·simp only[hb,if_false]at h;exact⟨_,h,fun X k=>by simp only[jE,if_true,if_neg hb]⟩
    case rem=>
     by_cases hb:b=0
     ·simp only[hb,if_true]at h;cases h
     ·simp only[hb,if_false]at h;exact⟨_,h,fun X k=>by simp only[jE,if_true,if_neg hb]⟩
    all_goals first
     | (refine⟨_,h,fun X k=>?_⟩;simp only[jE,if_true];done)
     | cases h
   ·cases h
 ·split at h
  ·rename_i A4
   split at h
   ·exact⟨_,h,fun X k=>by simp only[jE,A4]⟩
   ·exact⟨_,h,fun X k=>by simp only[jE,A4]⟩
   ·cases h
  ·cases h
 ·rename_i a b
  split at h
  ·cases hL:aV (a.size+b.size)with
   | false=>rw[hL]at h;cases h
   | true=>rw[hL]at h;exact⟨_,h,fun X k=>by simp only[jE,hL,cond_true]⟩
  ·exact⟨_,h,fun X k=>by simp only[jE]⟩
  ·exact⟨_,h,fun X k=>by simp only[jE]⟩
  ·cases h
 ·cases h
theorem ac9{op:BinOp}{t:TypeId}{x y:A}{k:A->Option X}(h:iY P σ op t x y k=some r):∃ z,k z=some r/\bD (fun X k=>iY (X:=X) P σ op t x y k) z:=by
 unfold iY at h
 split at h
 ·rename_i ng cs ds eg
  split at h
  ·rename_i xs ys eS iV
   generalize hg:(P.eqGuardType P.depth t || !isStr P t)=g at h
   cases g with
   | true=>cases h
   | false=>
    rw[cond_false]at h
    split at h
    ·rename_i b hb
     exact⟨_,h,fun X k=>by simp only[iY,eg,eS,iV,hg,cond_false,hb]⟩
    ·cases h
  ·cases h
 ·rename_i ng l eg
  split at h
  ·rename_i e he
   obtain⟨z,h2,hd⟩:=uB h
   clear h
   split at h2
   ·exact⟨_,h2,fun X k=>by
     simp only[iY,eg,he]
     exact hd X _⟩
   ·exact⟨_,h2,fun X k=>by
     simp only[iY,eg,he]
     exact hd X _⟩
   ·rename_i t' o' l'
    cases hl:rU l' with
    | true=>rw[hl]at h2;cases h2
    | false=>
     rw[hl,cond_false]at h2
     exact⟨_,h2,fun X k=>by
      simp only[iY,eg,he]
      exact(hd X _).trans (by simp only[hl,cond_false])⟩
   ·cases h2
  ·cases h
 ·rename_i x' y' _ _ _ h1 Bo
  obtain⟨u0,k1,vO⟩:=yP h
  obtain⟨v0,k2,iw⟩:=yP k1
  obtain⟨z,k3,wh⟩:=Q7 k2
  refine⟨_,k3,fun X k=>?_⟩
  have e1:iY P σ op t x' y' k=vK x' fun a=>vK y' fun b=>jE P t op a b fun z=>k (.lf (.v z)):=by
   unfold iY
   split
   ·rename_i ng cs ds eg;exact(h1 ng cs ds eg rfl rfl).elim
   ·rename_i ng l eg;exact(Bo ng l eg rfl rfl).elim
   ·rfl
  exact e1.trans ((vO _ _).trans ((iw _ _).trans (wh _ _)))
theorem Q8{op:UnOp}{x:V}{k:V->Option X}(h:yA op x k=some r):∃ z,k z=some r/\bD (fun X k=>yA (X:=X) op x k) z:=by
 unfold yA at h
 split at h
 ·exact⟨_,h,fun X k=>rfl⟩
 ·exact⟨_,h,fun X k=>rfl⟩
 ·cases h
theorem sr{t:TypeId}{cs:List Lf}{k:A->Option X}(h:ic P t cs k=some r):∃ y,k y=some r/\bD (fun X k=>ic (X:=X) P t cs k) y:=by
 unfold ic at h
 split at h
 ·rename_i n hn
  split at h
  ·rename_i hl
   split at h
   ·rename_i hr;exact⟨_,h,fun X k=>by simp only[ic,hn,if_pos hl,hr]⟩
   ·rename_i hr
    split at h
    ·exact⟨_,h,fun X k=>by simp only[ic,hn,if_pos hl,hr]⟩
    ·cases h
   ·cases h
  ·cases h
 ·cases h
theorem BH{t:TypeId}{x:A}{k:A->Option X}(h:gw P σ t x k=some r):∃ y,k y=some r/\bD (fun X k=>gw (X:=X) P σ t x k) y:=by
 unfold gw at h
 split at h
 ·cases h
 ·rename_i n hn
  split at h
  ·split at h
   ·rename_i cs cC
    obtain⟨y,h1,h2⟩:=sr h
    exact⟨y,h1,fun X k=>by simp only[gw,hn,cC];exact h2 X k⟩
   ·cases h
  ·obtain⟨y,h1,h2⟩:=sr h
   exact⟨y,h1,fun X k=>by simp only[gw,hn];exact h2 X k⟩
  ·rename_i j i s q
   obtain⟨z,h2,_,hd⟩:=oD _ _ h
   clear h
   split at h2
   ·split at h2
    ·rename_i hs
     split at h2
     ·rename_i hi
      obtain⟨y,h3,h4⟩:=sr h2
      exact⟨y,h3,fun X k=>by
       simp only[gw,hn]
       exact(hd X _).trans (by simp only[if_pos hs,dif_pos hi];exact h4 X k)⟩
     ·cases h2
    ·cases h2
   ·cases h2
  ·cases h
theorem ada{s:TypeId}{x:A}{f:Nat}{k:A->Option X}(h:oX P s x f k=some r):∃ y,k y=some r/\bD (fun X k=>oX (X:=X) P s x f k) y:=by
 unfold oX at h
 split at h
 ·cases h
 ·rename_i fd lK
  split at h
  ·rename_i n hn
   split at h
   ·exact⟨_,h,fun X k=>by simp only[oX,lK,hn]⟩
   ·exact⟨_,h,fun X k=>by simp only[oX,lK,hn]⟩
   ·exact⟨_,h,fun X k=>by simp only[oX,lK,hn]⟩
   ·cases h
  ·cases h
theorem adb{t:TypeId}{x i:A}{k:A->Option X}(h:lJ P σ t x i k=some r):∃ y,k y=some r/\bD (fun X k=>lJ (X:=X) P σ t x i k) y:=by
 unfold lJ at h
 split at h
 ·cases h
 ·rename_i e he
  split at h
  ·rename_i n kk iv hn
   split at h
   ·rename_i t' g qn l
    split at h
    ·rename_i jy
     cases hg:Nat.blt g 2 with
     | false=>rw[hg]at h;cases h
     | true=>
      rw[hg,cond_true]at h
      split at h
      ·rename_i hb
       exact⟨_,h,fun X k=>by simp only[lJ,he,hn,if_pos jy,hg,cond_true,dif_pos hb]⟩
      ·cases h
    ·cases h
   ·rename_i q
    obtain⟨z,h2,_,hd⟩:=oD _ _ h
    clear h
    split at h2
    ·split at h2
     ·rename_i jy
      split at h2
      ·rename_i hb
       rename_i t' g qn l _
       cases qi:Nat.blt g 2 with
       | true=>
        rw[qi,cond_true]at h2
        exact⟨_,h2,fun X k=>by
         simp only[lJ,he,hn]
         exact(hd X _).trans (by simp only[if_pos jy,dif_pos hb,qi,cond_true])⟩
       | false=>
        rw[qi,cond_false]at h2
        exact⟨_,h2,fun X k=>by
         simp only[lJ,he,hn]
         exact(hd X _).trans (by simp only[if_pos jy,dif_pos hb,qi,cond_false])⟩
      ·cases h2
     ·cases h2
    ·cases h2
   ·cases h
  ·cases h
theorem ade{t:TypeId}{x:A}{k:A->Option X}(h:kr P σ t x k=some r):∃ y,k y=some r/\bD (fun X k=>kr (X:=X) P σ t x k) y:=by
 unfold kr at h
 split at h
 ·obtain⟨z,h2,hd⟩:=uB h
  clear h
  split at h2
  ·split at h2
   ·rename_i he
    exact⟨_,h2,fun X k=>by simp only[kr];exact(hd X _).trans (by simp only[he])⟩
   ·cases h2
  ·split at h2
   ·rename_i he
    exact⟨_,h2,fun X k=>by simp only[kr];exact(hd X _).trans (by simp only[he])⟩
   ·cases h2
  ·split at h2
   ·rename_i he
    exact⟨_,h2,fun X k=>by simp only[kr];exact(hd X _).trans (by simp only[he])⟩
   ·cases h2
  ·cases h2
 ·cases h
theorem adf{x:A}{i:Nat}{k:A->Option X}(h:vG x i k=some r):∃ y,k y=some r/\bD (fun X k=>vG (X:=X) x i k) y:=by
 unfold vG at h
 split at h
 ·split at h
  ·rename_i y hy;exact⟨y,h,fun X k=>by simp only[vG,hy]⟩
  ·cases h
 ·cases h
theorem adg{t:TypeId}{parts:List (Nat×Operand)}{k:A->Option X}(h:ql P σ t parts k=some r):∃ y,k y=some r/\bD (fun X k=>ql (X:=X) P σ t parts k) y:=by
 unfold ql at h
 split at h
 ·rename_i z pl hz gH
  split at h
  ·rename_i cs cC;exact⟨_,h,fun X k=>by simp only[ql,hz,gH,cC]⟩
  ·cases h
 ·cases h
theorem adh{s:TypeId}{x:A}{f:Nat}{k:A->Option X}(h:rQ P s x f k=some r):∃ y,k y=some r/\bD (fun X k=>rQ (X:=X) P s x f k) y:=by
 unfold rQ at h
 split at h
 ·rename_i fd cs lK
  split at h
  ·rename_i n hn hr
   split at h
   ·rename_i hle;exact⟨_,h,fun X k=>by simp only[rQ,lK,hn,hr,if_pos hle]⟩
   ·cases h
  ·rename_i n hn hr
   split at h
   ·rename_i y hy;exact⟨_,h,fun X k=>by simp only[rQ,lK,hn,hr,hy]⟩
   ·cases h
  ·cases h
 ·cases h
theorem Q9{mx:Bool}{x y:A}{k:A->Option X}(h:vN mx x y k=some r):∃ z,k z=some r/\bD (fun X k=>vN (X:=X) mx x y k) z:=by
 unfold vN at h
 split at h
 ·exact⟨_,h,fun X k=>rfl⟩
 ·cases h
theorem adi{t:TypeId}{x i:A}{k:A->Option X}(h:ua P t x i k=some r):∃ z,k z=some r/\bD (fun X k=>ua (X:=X) P t x i k) z:=by
 unfold ua at h
 split at h
 ·split at h
  ·rename_i hu
   split at h
   ·rename_i hb;exact⟨_,h,fun X k=>by simp only[ua,hu,dif_pos hb]⟩
   ·cases h
  ·cases h
 ·cases h
theorem adj{src dst:TypeId}{z:V}{k:A->Option X}(h:rS P src dst z k=some r):∃ y,k y=some r/\bD (fun X k=>rS (X:=X) P src dst z k) y:=by
 unfold rS at h
 split at h
 ·cases ht:ud P src dst with
  | false=>rw[ht]at h;cases h
  | true=>rw[ht,cond_true]at h;exact⟨_,h,fun X k=>by simp only[rS,ht,cond_true]⟩
 ·cases ht:ud P src dst with
  | false=>rw[ht]at h;cases h
  | true=>rw[ht,cond_true]at h;exact⟨_,h,fun X k=>by simp only[rS,ht,cond_true]⟩
 ·cases h
theorem adk{src dst:TypeId}{x:A}{k:A->Option X}(h:kW P σ src dst x k=some r):∃ z,k z=some r/\bD (fun X k=>kW (X:=X) P σ src dst x k) z:=by
 unfold kW at h
 split at h
 ·split at h
  ·rename_i d1 kd h1 h2;exact⟨_,h,fun X k=>by simp only[kW,h1,h2]⟩
  ·cases h
 ·rename_i y hy
  obtain⟨z,h2,hd⟩:=uB h
  obtain⟨y',h3,iw⟩:=adj h2
  refine⟨_,h3,fun X k=>?_⟩
  have:kW P σ src dst (.lf y) k=fE σ y fun z=>rS P src dst z k:=by
   unfold kW
   split
   ·rename_i n e;injection e with e;exact(hy _ _ e).elim
   ·rename_i e;injection e with e;subst e;rfl
   ·rename_i h' ;exact absurd rfl (h' _)
  show kW P σ src dst (.lf y) k=k y'
  rw[this]
  exact(hd X _).trans (iw X k)
 ·cases h
end
end Go.Proofs.YtmffpkippmkjbaaGreatDoor
namespace Go.Proofs.YtmffpkippmkjbaaGreatDoor
open Go.RowKit
set_option linter.unusedVariables false
section
variable {P:Program} {N:Nat} {σ:S} {X:Type} {r:X} {d:Nat} {m:Nat->Option ax} {o:Oper}
theorem bD.at_{α:Type}{f:(X:Type)->(α->Option X)->Option X}{y:α}(h:bD f y){X:Type}(k:α->Option X):f X k=k y:=h X k
theorem arV{dst:Option Tmp}{x:A}{k:S->Option X}(h:fN N σ dst x k=some r):∃ τ,k τ=some r/\bD (fun X k=>fN (X:=X) N σ dst x k) τ:=by
 unfold fN at h
 split at h
 ·exact⟨_,h,fun X k=>rfl⟩
 ·rename_i d
  cases hN:Nat.blt d N with
  | false=>rw[hN]at h;cases h
  | true=>rw[hN]at h;exact⟨_,h,fun X k=>by simp only[fN,hN,cond_true]⟩
theorem qD{x:ax}{y:A}{k:S->Option X}(h:fP N σ d x y k=some r):k (((σ.drop d).root d x).set d y)=some r/\bD (fun X k=>fP (X:=X) N σ d x y k) (((σ.drop d).root d x).set d y):=by
 unfold fP at h
 cases hN:Nat.blt d N with
 | false=>rw[hN]at h;cases h
 | true=>rw[hN]at h;exact⟨h,fun X k=>by simp only[fP,hN,cond_true]⟩
theorem Ra{e:TypeId}{k:S->Option X}(h:oy P N σ d e k=some r):∃ x y,k (((σ.drop d).root d x).set d y)=some r/\y = .az d 0/\(∀ (af:S),bD (fun X k=>oy (X:=X) P N af d e k) (((af.drop d).root d x).set d y)):=by
 unfold oy at h
 split at h
 ·rename_i z hz
  obtain⟨h1,_⟩:=qD h
  refine⟨_,_,h1,rfl,fun af X k=>?_⟩
  obtain⟨hN,_⟩:=kV h
  have hb:Nat.blt d N=true:=Nat.ble_eq_true_of_le hN
  simp only[oy,hz,fP,hb,cond_true]
 ·cases h
theorem Lc{t:TypeId}{l c:A}{k:S->Option X}(h:vI P N σ d t l c k=some r):∃ y,k (((σ.drop d).root d (.sl y)).set d (.lf (.own [d])))=some r/\(∀ (af:S),bD (fun X k=>vI (X:=X) P N af d t l c k) (((af.drop d).root d (.sl y)).set d (.lf (.own [d])))):=by
 unfold vI at h
 split at h
 ·rename_i e tc kl n kc c fQ
  split at h
  ·cases h
  ·rename_i z hz
   split at h
   ·rename_i hb
    obtain⟨h1,_⟩:=qD h
    refine⟨_,h1,fun af X k=>?_⟩
    obtain⟨hN,_⟩:=kV h
    have eK:Nat.blt d N=true:=Nat.ble_eq_true_of_le hN
    simp only[vI,fQ,hz,if_pos hb,fP,eK,cond_true]
   ·cases h
 ·cases h
theorem Ld{t:TypeId}{len:Nat}{parts:List (Nat×Operand)}{k:S->Option X}(h:vM P N σ d t len parts k=some r):∃ y,k (((σ.drop d).root d (.sl y)).set d (.lf (.own [d])))=some r/\
  (∀ (af:S),(∀ p∈parts,ak af p.2=ak σ p.2)->bD (fun X k=>vM (X:=X) P N af d t len parts k) (((af.drop d).root d (.sl y)).set d (.lf (.own [d])))):=by
 unfold vM at h
 split at h
 ·rename_i e tc fQ
  split at h
  ·rename_i z hz
   cases hc:(Nat.beq (full tc) 0&&Nat.beq z.cells.size (aq tc)&&Nat.blt (len*aq tc) 16777217)with
   | false=>rw[hc]at h;cases h
   | true=>
    rw[hc,cond_true]at h
    split at h
    ·rename_i cs cC
     split at h
     ·rename_i vs eT
      split at h
      ·rename_i l hl
       obtain⟨h1,_⟩:=qD h
       refine⟨_,h1,fun af BI X k=>?_⟩
       obtain⟨hN,_⟩:=kV h
       have eK:Nat.blt d N=true:=Nat.ble_eq_true_of_le hN
       have e:(parts.map fun p=>(p.1,ak af p.2))=parts.map fun p=>(p.1,ak σ p.2):=List.map_congr_left fun p hp=>by rw[BI p hp]
       simp only[vM,fQ,hz,hc,cond_true,e,cC,eT,hl,fP,eK]
      ·cases h
     ·cases h
    ·cases h
  ·cases h
 ·cases h
theorem adl{t:TypeId}{x:A}{lo hi:Option A}{k:A->Option X}(h:mO P σ t x lo hi k=some r):∃ y,k y=some r/\bD (fun X k=>mO (X:=X) P σ t x lo hi k) y:=by
 unfold mO at h
 split at h
 ·rename_i q
  unfold ug at h
  split at h
  ·rename_i e he
   split at h
   ·rename_i n hn
    obtain⟨y,h1,_,hd⟩:=oD q _ h
    obtain⟨tc,g,qn,xs,l,m,rfl,jy,e1,e2,b1,b2,b3,h3,hf⟩:=Qr h1
    refine⟨_,h3,fun X k=>?_⟩
    simp only[mO,ug,he,hn]
    exact(hd X _).trans (hf X k)
   ·cases h
  ·cases h
 ·rename_i hx
  obtain⟨y,h1,hd,_⟩:=Qp h
  refine⟨y,h1,fun X k=>?_⟩
  simp only[mO]
  exact hd X k
theorem adm{t:TypeId}{x y:A}{k:S->Option X}(h:mM P N σ d t x y k=some r):∃ τ,k τ=some r/\bD (fun X k=>mM (X:=X) P N σ d t x y k) τ:=by
 unfold mM at h
 split at h
 ·rename_i e tc fQ
  cases hc:(Nat.beq (full tc) 0&&(zeroOf P e).any (fun z=>Nat.beq z.cells.size (aq tc)))with
  | false=>rw[hc]at h;cases h
  | true=>
   rw[hc,cond_true]at h
   obtain⟨yv,h2,hd⟩:=Lb h
   clear h
   split at h2
   ·cases h2
   ·rename_i l2 fY
    split at h2
    ·cases hL:aV l2.length with
     | false=>rw[hL]at h2;cases h2
     | true=>
      rw[hL,cond_true]at h2
      obtain⟨h3,h4⟩:=qD h2
      exact⟨_,h3,fun X k=>by
       simp only[mM,fQ,hc,cond_true]
       exact(hd.at_ _).trans (by simp only[fY,hL,cond_true];exact h4 X k)⟩
    ·rename_i rr
     split at h2
     ·rename_i t' o q l hm
      split at h2
      ·rename_i eL
       cases hL:(Nat.blt d N&&(Nat.blt rr N || Nat.ble 60000 rr)&&aV (l.length+l2.length))with
       | false=>rw[hL]at h2;cases h2
       | true=>
        rw[hL,cond_true]at h2
        exact⟨_,h2,fun X k=>by
         simp only[mM,fQ,hc,cond_true]
         exact(hd.at_ _).trans (by simp only[fY,hm,dif_pos eL,hL,cond_true])⟩
      ·cases h2
     ·cases h2
    ·cases h2
 ·cases h
theorem Rb:∀ (q:List Nat) (y:V) (k:(Nat->Option ax)->Option X),lI m q y k=some r->∃ m',k m'=some r/\bD (fun X k=>lI (X:=X) m q y k) m'
 | [],_,_,h=>by simp[lI]at h
 | [x],y,k,h=>by
  simp only[lI]at h
  split at h
  ·rename_i y0 hy;exact⟨_,h,fun X k=>by simp only[lI,hy]⟩
  ·cases h
 | [_,_],_,_,h=>by simp[lI]at h
 | j :: i :: s :: q,y,k,h=>by
  simp only[lI]at h
  obtain⟨z,h2,_,hd⟩:=oD q _ h
  clear h
  split at h2
  ·split at h2
   ·rename_i hs
    split at h2
    ·rename_i hi
     split at h2
     ·rename_i hj
      split at h2
      ·rename_i e he
       obtain⟨m',h3,h4⟩:=Rb q _ k h2
       exact⟨m',h3,fun X k=>by
        simp only[lI]
        exact(hd.at_ _).trans (by simp only[if_pos hs,dif_pos hi,if_pos hj,he];exact h4 X k)⟩
      ·cases h2
     ·cases h2
    ·cases h2
   ·cases h2
  ·cases h2
theorem Rc{t:TypeId}{x y:A}{k:S->Option X}(h:ko P σ t x y k=some r):∃ τ,k τ=some r/\bD (fun X k=>ko (X:=X) P σ t x y k) τ:=by
 unfold ko at h
 split at h
 ·rename_i n xs hn eS
  split at h
  ·rename_i hlen
   split at h
   ·rename_i r' j
    split at h
    ·rename_i cs cC
     split at h
     ·rename_i hj
      cases hl:xs.all Lf.live with
      | false=>rw[hl]at h;cases h
      | true=>rw[hl]at h;exact⟨_,h,fun X k=>by simp only[ko,hn,eS,if_pos hlen,cC,if_pos hj,hl,cond_true]⟩
     ·cases h
    ·cases h
   ·rename_i j i s q
    split at h
    ·cases h
    ·rename_i vs eT
     obtain⟨y0,h2,hg0,hd⟩:=oD _ _ h
     clear h
     split at h2
     ·rename_i t' o' qn l
      split at h2
      ·rename_i hs
       split at h2
       ·rename_i hi
        split at h2
        ·rename_i hj
         cases hold:(((enc t' o' l[i]).drop j).take vs.length).all V.plain with
         | false=>rw[hold]at h2;cases h2
         | true=>
          rw[hold,cond_true]at h2
          split at h2
          ·rename_i e he
           obtain⟨m',h3,h4⟩:=Rb q _ _ h2
           exact⟨_,h3,fun X k=>by
            simp only[ko,hn,eS,if_pos hlen,eT]
            exact(hd.at_ _).trans (by simp only[if_pos hs,dif_pos hi,if_pos hj,hold,cond_true,he];exact h4.at_ _)⟩
          ·cases h2
        ·cases h2
       ·cases h2
      ·cases h2
     ·cases h2
   ·cases h
  ·cases h
 ·cases h
theorem BJ:∀ (xs:List Lf) (k:List V->Option X),kz σ xs k=some r->∃ vs,k vs=some r/\bD (fun X k=>kz (X:=X) σ xs k) vs
 | [],k,h=>⟨[],h,fun X k=>rfl⟩
 | x :: xs,k,h=>by
  unfold kz at h
  obtain⟨y,h2,hd⟩:=uB h
  obtain⟨ys,h3,iw⟩:=BJ xs _ h2
  exact⟨_,h3,fun X k=>by
   simp only[kz]
   exact(hd.at_ _).trans (iw.at_ _)⟩
theorem Rd{x:A}{k:Pt->Option X}(h:jH σ x k=some r):∃ p,k p=some r/\bD (fun X k=>jH (X:=X) σ x k) p:=by
 unfold jH at h
 split at h
 ·obtain⟨vs,h2,hd⟩:=BJ _ _ h;exact⟨_,h2,fun X k=>by simp only[jH];exact hd.at_ _⟩
 ·obtain⟨vs,h2,hd⟩:=BJ _ _ h;exact⟨_,h2,fun X k=>by simp only[jH];exact hd.at_ _⟩
 ·obtain⟨y,h2,hd⟩:=Q6 h;exact⟨_,h2,fun X k=>by simp only[jH];exact hd.at_ _⟩
 ·exact⟨_,h,fun X k=>rfl⟩
 ·cases h
theorem Le:∀ (xs:List Operand) (k:List Pt->Option X),gT σ xs k=some r->∃ ps,k ps=some r/\bD (fun X k=>gT (X:=X) σ xs k) ps
 | [],k,h=>⟨[],h,fun X k=>rfl⟩
 | x :: xs,k,h=>by
  unfold gT at h
  obtain⟨p,h2,hd⟩:=Rd h
  obtain⟨ps,h3,iw⟩:=Le xs _ h2
  exact⟨_,h3,fun X k=>by
   simp only[gT]
   exact(hd.at_ _).trans (iw.at_ _)⟩
theorem adn{x:A}{k:Pt->Option X}(h:rX σ x k=some r):∃ p,k p=some r/\bD (fun X k=>rX (X:=X) σ x k) p:=by
 unfold rX at h
 split at h
 ·exact⟨_,h,fun X k=>rfl⟩
 ·exact⟨_,h,fun X k=>rfl⟩
 ·split at h
  ·rename_i cs hm
   obtain⟨vs,h2,hd⟩:=BJ _ _ h
   split at h2
   ·exact⟨_,h2,fun X k=>by simp only[rX,hm];exact hd.at_ _⟩
   ·cases h2
  ·cases h
 ·split at h
  ·rename_i cs hm
   obtain⟨vs,h2,hd⟩:=BJ _ _ h
   split at h2
   ·exact⟨_,h2,fun X k=>by simp only[rX,hm];exact hd.at_ _⟩
   ·cases h2
  ·cases h
 ·rename_i y h1 h2 h3 h4
  obtain⟨p,h5,hd⟩:=Rd h
  exact⟨p,h5,fun X k=>by
   unfold rX
   split
   ·exact absurd rfl (h1 _ _)
   ·exact absurd rfl (h2 _ _ _)
   ·exact absurd rfl (h3 _ _)
   ·exact absurd rfl (h4 _ _ _)
   ·exact hd.at_ _⟩
theorem Re:∀ (xs:List Operand) (k:List Pt->Option X),uk σ xs k=some r->∃ ps,k ps=some r/\bD (fun X k=>uk (X:=X) σ xs k) ps
 | [],k,h=>⟨[],h,fun X k=>rfl⟩
 | x :: xs,k,h=>by
  unfold uk at h
  obtain⟨p,h2,hd⟩:=adn h
  obtain⟨ps,h3,iw⟩:=Re xs _ h2
  exact⟨_,h3,fun X k=>by
   simp only[uk]
   exact(hd.at_ _).trans (iw.at_ _)⟩
theorem ado{f:Nat}{c:aI}{args:List Operand}{k:S->Option X}(hc:aG P f c)(h:um N σ d c args k=some r):∃ τ,k τ=some r/\bD (fun X k=>um (X:=X) N σ d c args k) τ:=by
 unfold um at h
 cases hN:Nat.blt d N with
 | false=>rw[hN]at h;cases h
 | true=>
  rw[hN,cond_true]at h
  obtain⟨ps,h2,hd⟩:=Re _ _ h
  obtain⟨res,h3,iw,_⟩:=hc X ps _ r h2
  cases res with
  | one p=>
   simp only at h3
   split at h3
   ·rename_i y hy
    refine⟨_,h3,fun X k=>?_⟩
    simp only[um,hN,cond_true]
    refine(hd.at_ _).trans ((iw X _).trans ?_)
    simp only[hy]
   ·cases h3
  | bJ lO=>
   refine⟨_,h3,fun X k=>?_⟩
   simp only[um,hN,cond_true]
   exact(hd.at_ _).trans (iw X _)
def qE(d:Nat)(res:eM)(σ:S):Option S:=match res with
 | .one p=>match ox (p.1,ig (1000000000100000+1000*d) p.2)with
  | some y=>some ((eV (1000000000100000+1000*d) σ p.2).set d y)
  | none=>none
 | .bJ ps=>some ((gC (1000000000100000+1000*d) σ ps).set d (.bJ (iZ (1000000000100000+1000*d) ps)))
theorem yQ{f:Nat}{c:aI}{args:List Operand}{k:S->Option X}(hc:aG P f c)(h:rY N σ d c args k=some r):∃ res τ,qE d res σ=some τ/\k τ=some r/\
  (∀ af eU,(∀ (X:Type) (k:List Pt->Option X),gT af args k=gT σ args k)->qE d res af=some eU->bD (fun X k=>rY (X:=X) N af d c args k) eU):=by
 unfold rY at h
 cases hN:Nat.blt d N with
 | false=>rw[hN]at h;cases h
 | true=>
  rw[hN,cond_true]at h
  obtain⟨ps,h2,hd⟩:=Le _ _ h
  obtain⟨res,h3,iw,_⟩:=hc X ps _ r h2
  have step:∀ af eU,(∀ (X:Type) (k:List Pt->Option X),gT af args k=gT σ args k)->qE d res af=some eU->bD (fun X k=>rY (X:=X) N af d c args k) eU:=by
   intro af eU ha dx X k
   simp only[rY,hN,cond_true]
   rw[ha]
   refine(hd.at_ _).trans ((iw X _).trans ?_)
   unfold qE at dx
   cases res with
   | one p=>
    simp only at dx ⊢
    split at dx
    ·rename_i y hy
     injection dx with dx
     subst dx
     simp only[hy]
    ·cases dx
   | bJ lO=>
    injection dx with dx
    subst dx
    rfl
  cases res with
  | one p=>
   simp only at h3
   split at h3
   ·rename_i y hy
    exact⟨.one p,_,by simp only[qE,hy],h3,step⟩
   ·cases h3
  | bJ lO=>exact⟨.bJ lO,_,rfl,h3,step⟩
/-! Keys that do not end in certain names. -/
def dy(p:Nat->Bool)(k:List Nat):Bool:=match k.getLast? with
 | some r=>!p r
 | none=>true
def Lf.nr(p:Nat->Bool):Lf->Bool
 | .own k=>dy p k
 | _=>true
def A.nr(p:Nat->Bool):A->Bool
 | .lf x=>x.nr p
 | .agg cs=>cs.all (Lf.nr p)
 | .bJ xs=>xs.all fun q=>q.2.all (Lf.nr p)
 | .ptr k=>dy p k
 | .az r _=>!p r
 | .pk r _=>!p r
 | .view k _ _ _=>dy p k
 | .fn _ cap=>cap.all fun q=>!p q.1
 | _=>true
theorem pE{p:Nat->Bool}{k:List Nat}{n:Nat}(h:dy p k=true)(hn:p n=true):aM n k=false:=by
 unfold dy at h
 unfold aM
 split at h
 ·rename_i r hr
  rw[hr]
  have:r≠n:=by rintro rfl;simp[hn]at h
  simpa using this
 ·rename_i hr;rw[hr];rfl
theorem Lf.jm{p:Nat->Bool}{x:Lf}{n:Nat}(h:x.nr p=true)(hn:p n=true):x.drop n=x:=by
 cases x with
 | own k=>
  have e:Lf.drop n (.own k)=(bif aM n k then .dead else .own k):=rfl
  rw[e,pE h hn]
  rfl
 | v x=>rfl
 | dead=>rfl
theorem fG.jm{p:Nat->Bool}{xs:List Lf}{n:Nat}(h:xs.all (Lf.nr p)=true)(hn:p n=true):xs.map (Lf.drop n)=xs:=by
 conv=>rhs;rw[<-List.map_id xs]
 exact List.map_congr_left fun x hx=>Lf.jm (List.all_eq_true.1 h x hx) hn
theorem A.jm{p:Nat->Bool}{x:A}{n:Nat}(h:x.nr p=true)(hn:p n=true):x.drop n=x:=by
 cases x with
 | lf x=>exact congrArg A.lf (Lf.jm h hn)
 | agg cs=>exact congrArg A.agg (fG.jm h hn)
 | bJ xs=>
  refine congrArg A.bJ ?_
  conv=>rhs;rw[<-List.map_id xs]
  refine List.map_congr_left fun q hq=>?_
  have:=fG.jm (List.all_eq_true.1 h q hq) hn
  simp only[id]
  rw[this]
 | ptr k=>
  have e:A.drop n (.ptr k)=(bif aM n k then .undef else .ptr k):=rfl
  rw[e,pE h hn];rfl
 | view k s i j=>
  have e:A.drop n (.view k s i j)=(bif aM n k then .undef else .view k s i j):=rfl
  rw[e,pE h hn];rfl
 | pk r j=>
  have e:A.drop n (.pk r j)=(bif Nat.beq r n then .undef else .pk r j):=rfl
  have:Nat.beq r n=false:=by
   cases hb:Nat.beq r n with
   | false=>rfl
   | true=>
    obtain rfl:=Nat.eq_of_beq_eq_true hb
    have h:(!p r)=true:=h
    rw[hn]at h;cases h
  rw[e,this];rfl
 | az r j=>
  have e:A.drop n (.az r j)=(bif Nat.beq r n then .undef else .az r j):=rfl
  have:Nat.beq r n=false:=by
   cases hb:Nat.beq r n with
   | false=>rfl
   | true=>
    obtain rfl:=Nat.eq_of_beq_eq_true hb
    have h:(!p r)=true:=h
    rw[hn]at h;cases h
  rw[e,this];rfl
 | fn f cap=>
  have e:A.drop n (.fn f cap)=(bif cap.any (fun p=>Nat.beq p.1 n)then .undef else .fn f cap):=rfl
  have:cap.any (fun p=>Nat.beq p.1 n)=false:=by
   rw[List.any_eq_false]
   intro q hq hb
   obtain hb:=Nat.eq_of_beq_eq_true hb
   have:=List.all_eq_true.1 h q hq
   rw[hb,hn]at this;cases this
  rw[e,this];rfl
 | _=>rfl
theorem S.ext'{σ τ:S}(h1:∀ k,σ.t k=τ.t k)(h2:∀ r,σ.m r=τ.m r):σ=τ:=by
 cases σ;cases τ
 simp only[S.mk.injEq]
 exact⟨funext h1,funext h2⟩
theorem S.set_set{e d:Nat}(h:e≠d)(v u:A):(σ.set d v).set e u=(σ.set e u).set d v:=by
 refine S.ext' (fun k=>?_) fun _=>rfl
 show aX (aX σ.t d v) e u k=aX (aX σ.t e u) d v k
 by_cases h1:k=e
 ·subst h1;rw[aZ,bB _ _ _ h,aZ]
 ·by_cases h2:k=d
  ·subst h2;rw[bB _ _ _ h1,aZ,aZ]
  ·rw[bB _ _ _ h1,bB _ _ _ h2,bB _ _ _ h2,bB _ _ _ h1]
theorem S.drop_set(n:Nat){v:A}(hv:v.drop n=v):(σ.set d v).drop n=(σ.drop n).set d v:=by
 refine S.ext' (fun k=>?_) fun _=>rfl
 show (aX σ.t d v k).drop n=aX (fun k=>(σ.t k).drop n) d v k
 by_cases h:k=d
 ·subst h;rw[aZ,aZ,hv]
 ·rw[bB _ _ _ h,bB _ _ _ h]
theorem BK(v:A):∀ (xs:List V) (c:Nat) (σ:S),(∀ n,c<=n->v.drop n=v)->eV c (σ.set d v) xs=(eV c σ xs).set d v
 | [],c,σ,h=>rfl
 | x :: xs,c,σ,h=>by
  simp only[eV]
  cases hf:x.ah with
  | true=>
   simp only[cond_true]
   exact BK v xs (c+1) σ (fun n hn=>h n (by omega))
  | false=>
   simp only[cond_false]
   rw[S.drop_set c (h c (Nat.le_refl _))]
   exact BK v xs (c+1) ((σ.drop c).root c (.sl x)) (fun n hn=>h n (by omega))
theorem Lg(v:A):∀ (ps:List Pt) (c:Nat) (σ:S),(∀ n,c<=n->v.drop n=v)->gC c (σ.set d v) ps=(gC c σ ps).set d v
 | [],c,σ,h=>rfl
 | p :: ps,c,σ,h=>by
  simp only[gC]
  rw[BK v p.2 c σ h]
  exact Lg v ps _ _ (fun n hn=>h n (by omega))
end
end Go.Proofs.YtmffpkippmkjbaaGreatDoor
namespace Go.Proofs.YtmffpkippmkjbaaGreatDoor
open Go.RowKit
set_option linter.unusedVariables false
def wj{X:Type}(N:Nat)(σ:S)(d:Nat)(x:A)(k:S->Option X):Option X:=
 match x.tW with
 | some xs=>bif xs.all Lf.live then fP N σ d (.blk (xs.map (Lf.drop d))) (.az d 0) k else none
 | none=>none
def Fw{X:Type}(x:A)(k:A->Option X):Option X:=
 match x with
 | .az r j=>k (.az r j)
 | .ptr q=>k (.ptr q)
 | .fL cs=>k (.fL cs)
 | _=>none
section
variable {P:Program} {w w':World} {w0:Wd} {B N:Nat} {lab aj:aQ} {ρ ρ':Nat->Loc} {σ:S} {a:Act} {X:Type} {d:Nat} {r:X} {o:Oper}
theorem adp{e:TypeId}{x:A}{k:S->Option X}(h:wj N σ d x k=some r):∃ af,k af=some r/\∀ lab ρ a w,Rl w0 N lab ρ σ a w->∀ u,RA w w0.heap.size lab ρ x u->
  ∃ w' aj ρ' v,(Instr.box e u).run P w = .ok v w'/\Rl w0 N aj ρ' af (a.put (some d) v) w':=by
 unfold wj at h
 split at h
 ·rename_i xs eS
  cases gA:xs.all Lf.live with
  | false=>rw[gA]at h;cases h
  | true=>
   rw[gA,cond_true]at h
   obtain⟨hd,h⟩:=kV h
   refine⟨_,h,fun lab ρ a w hR u hu=>?_⟩
   obtain⟨hl,_⟩:=A7 eS gA hu
   have aL:(Instr.box e u).run P w = .ok (.pointer (some ⟨w.heap.size,0,none⟩)) (w.alloc (.cells u.cells e)):=by
    simp[Instr.box,newVar,newRow]
   refine⟨_,aX lab w.heap.size (some [d]),aX ρ d (.blk w.heap.size 0),_,aL,(hR.yE (hR.dM d (.inl hd)) (fun r hr=>bB _ _ _ hr) ?_).set ⟨w.heap.size,0,aZ _ _ _,rfl⟩ hd⟩
   have h1:cG (w.alloc (.cells u.cells e)) w0.heap.size (aX lab w.heap.size (some [d])) ρ xs u.cells:=
    hl.dL (by simp) (fun b hb=>⟨Below.heap_alloc w _ b hb,bB _ _ _ (by omega)⟩) (fun b k hb=>(hR.bV b k hb).2.1)
   have h2:=h1.dj (ρ':=aX ρ d (.blk w.heap.size 0)) (d:=d) (fun r hr=>bB _ _ _ hr)
   refine .blk w.heap.size 0 u.cells e _ (fun j=>u.cells.getD j undef) (aZ _ _ _) (aZ _ _ _) (heap_alloc_new w _) (by rw[h2.1];omega) fun j y hy=>?_
   obtain⟨v,hv,hr⟩:=h2.2 j y hy
   have hg:u.cells.getD j undef=v:=by rw[Array.getD_eq_getD_getElem?,hv];rfl
   rw[hg,Nat.zero_add]
   exact⟨hv,hr⟩
 ·cases h
theorem Rf{x:A}{k:S->Option X}(h:wj N σ d x k=some r):∃ y u,k (((σ.drop d).root d y).set d u)=some r/\(∀ (af:S),bD (fun X k=>wj (X:=X) N af d x k) (((af.drop d).root d y).set d u)):=by
 unfold wj at h
 split at h
 ·rename_i xs eS
  cases gA:xs.all Lf.live with
  | false=>rw[gA]at h;cases h
  | true=>
   rw[gA,cond_true]at h
   obtain⟨h1,_⟩:=qD h
   refine⟨_,_,h1,fun af X k=>?_⟩
   obtain⟨hN,_⟩:=kV h
   have hb:Nat.blt d N=true:=Nat.ble_eq_true_of_le hN
   simp only[wj,eS,gA,fP,hb,cond_true]
 ·cases h
theorem Rg{x:A}{k:A->Option X}(h:Fw x k=some r):k x=some r/\bD (fun X k=>Fw (X:=X) x k) x/\∀ u,RA w B lab ρ x u->∃ ad,u = .pointer (some ad):=by
 unfold Fw at h
 split at h
 ·exact⟨h,fun X k=>rfl,fun u hu=>by obtain⟨b,off,_,rfl⟩:=hu;exact⟨_,rfl⟩⟩
 ·exact⟨h,fun X k=>rfl,fun u hu=>by obtain⟨ad,rfl,_⟩:=hu;exact⟨_,rfl⟩⟩
 ·exact⟨h,fun X k=>rfl,fun u hu=>by obtain⟨b,off,rfl,_⟩:=hu;exact⟨_,rfl⟩⟩
 ·cases h
end
end Go.Proofs.YtmffpkippmkjbaaGreatDoor
namespace Go.Proofs.YtmffpkippmkjbaaGreatDoor
open Go.RowKit
set_option linter.unusedVariables false
def kZ(t:TypeId):Bool:=[999999,999999,999999,84,999999,89,999999,999999,999999,999999,999999,999999,999999,999999,999999,999999,999999,999999,999999,999999,999999,999999,999999,999999].any (Nat.beq t)
def uC{X:Type}(P:Program)(N:Nat)(σ:S)(d:Nat)(t:TypeId)(len:Nat)(parts:List (Nat×Operand))(k:S->Option X):Option X:=
 match rJ P t with
 | some (e,tc)=>match zeroOf P e with
  | some z=>bif Nat.beq z.cells.size (aq tc)&&Nat.blt (len*aq tc) 16777217 then (match tZ (fun i=>some (i*aq tc,aq tc)) (List.replicate len (z.cells.toList.map gl)).flatten (parts.map fun p=>(p.1,ak σ p.2))with
   | some cs=>bif Nat.beq len 0 then fP N σ d (.sl (.sl tc (full tc+2) true [])) (.lf (.own [d])) k else fP N σ d (.blk (cs.map (Lf.drop d))) (.pk d len) k
   | none=>none)else none
  | none=>none
 | none=>none
def su{X:Type}(N:Nat)(σ:S)(d r ry:Nat)(tc:TC)(n:Nat)(k:S->Option X):Option X:=
 match σ.m ry,σ.m r with
 | some (.blk cs),some (.sl (.sl t' (o+2) q l))=>if h:t'=tc then (match nG r (fun j=>(j % aq tc) :: (l.length+j / aq tc) :: aq tc :: [r]) cs.length 0 cs σ with
  | some (vs,τ)=>(match Be tc o n vs with
   | some l2=>bif Nat.blt d N&&aV (l.length+l2.length)then k (((τ.drop r).root r (.sl (.sl tc (o+2) false ((h ▸ l)++l2)))).set d (.lf (.own [r])))else none
   | none=>none)
  | none=>none)else none
 | _,_=>none
def uD{X:Type}(P:Program)(N:Nat)(σ:S)(d:Nat)(t:TypeId)(x y:A)(k:S->Option X):Option X:=
 match rJ P t,y with
 | some (e,tc),.pk ry n=>bif (zeroOf P e).any (fun z=>Nat.beq z.cells.size (aq tc))&&(Nat.blt d N&&Nat.blt n mJ)then (match x with
  | .lf (.v .nil)=>su N ((σ.drop d).root d (.sl (.sl tc (full tc+2) false []))) d d ry tc n k
  | .lf (.own [r])=>bif Nat.blt r N || Nat.ble 60000 r then su N σ d r ry tc n k else none
  | _=>none)else none
 | _,_=>none
def wm{X:Type}(P:Program)(σ:S)(t:TypeId)(x y:A)(k:S->Option X):Option X:=
 match ia P t,y.tW,x with
 | some n,some xs,.ptr [j,i,s,r]=>if xs.length=n then (bif xs.all Lf.live then (match nG r (fun m=>(j+m) :: i :: s :: [r]) xs.length 0 xs σ with
  | some (vs,τ)=>(match τ.m r with
   | some (.sl (.sl t' (o+2) qn l))=>if s=aq t' then (if h:i<l.length then (if j+n<=aq t' then (match dec t' o (dZ (enc t' o l[i]) j vs)with
    | some e=>k (τ.aP [r] [] [(r,.sl (.sl t' (o+2) qn (l.set i e)))])
    | none=>none)else none)else none)else none
   | _=>none)
  | none=>none)else none)else none
 | _,_,_=>none
def wo(x y:A):Bool:=match x,y.tW with
 | .ptr _,some xs=>(rE xs).isNone
 | _,_=>false
section
variable {P:Program} {w w':World} {w0:Wd} {B N:Nat} {lab aj:aQ} {ρ ρ':Nat->Loc} {σ:S} {a:Act} {X:Type} {d:Nat} {r:X} {o:Oper}
theorem Rh{place:Nat->Option (Nat×Nat)}:∀ (parts:List (Nat×A)) (cells out:List Lf),tZ place cells parts=some out->out.length=cells.length
 | [],cells,out,h=>by injection h with h;rw[h]
 | (i,x) :: rest,cells,out,h=>by
  unfold tZ at h
  split at h
  ·rename_i off n xs hp hx
   split at h
   ·rename_i hc
    cases hl:xs.all Lf.live with
    | true=>
     rw[hl,cond_true]at h
     rw[Rh rest _ _ h,vA _ _ _ (by omega)]
    | false=>rw[hl]at h;cases h
   ·cases h
  ·cases h
theorem adq{t:TypeId}{len:Nat}{parts:Array (Nat×Operand)}{k:S->Option X}(h:uC P N σ d t len parts.toList k=some r):∃ af,k af=some r/\∀ lab ρ a w,Rl w0 N lab ρ σ a w->
  ∃ w' aj ρ' v,(Instr.buildSlice t len (parts.map fun(i,x)=>(i,a.eval x))).run P w = .ok v w'/\Rl w0 N aj ρ' af (a.put (some d) v) w':=by
 unfold uC at h
 split at h
 ·rename_i e tc fQ
  obtain⟨dX,ht,i,hi,hsz,ez⟩:=vJ fQ
  split at h
  ·rename_i z hz
   cases hc:(Nat.beq z.cells.size (aq tc)&&Nat.blt (len*aq tc) 16777217)with
   | false=>rw[hc]at h;cases h
   | true=>
    rw[hc,cond_true]at h
    rw[Bool.and_eq_true]at hc
    have ee:=Nat.eq_of_beq_eq_true hc.1
    have hsm:len*aq tc<16777217:=by have:=Nat.le_of_ble_eq_true hc.2;omega
    have nI:i.zero=some z:=by unfold zeroOf at hz;simpa [hi]using hz
    split at h
    ·rename_i cs cC
     have key:∀ lab ρ (a:Act) w,Rl w0 N lab ρ σ a w->∃ eC,(Instr.buildSlice t len (parts.map fun(i,x)=>(i,a.eval x))).run P w = .ok (.slice (some ⟨w.heap.size,0,none⟩) len len) (w.alloc (.cells eC e))/\cG w w0.heap.size lab ρ cs eC/\eC.size=cs.length:=fun lab ρ a w hR=>by
      have Kt:cG w w0.heap.size lab ρ (List.replicate len (z.cells.toList.map gl)).flatten (madeCells z.cells (len*aq tc)):=by
       have e1:(List.replicate len (z.cells.toList.map gl)).flatten=((List.replicate len z.cells.toList).flatten).map gl:=by
        rw[List.map_flatten,List.map_replicate]
       rw[e1,<-Qh z.cells (aq tc) len ee (nA tc)]
       refine⟨by simp,fun j x hx=>?_⟩
       rw[List.getElem?_map]at hx
       cases hv:(madeCells z.cells (len*aq tc)).toList[j]? with
       | none=>rw[hv]at hx;cases hx
       | some v=>
        rw[hv]at hx
        injection hx with hx
        subst hx
        exact⟨v,by simpa using hv,E1 v⟩
      obtain⟨eC,rT,hl⟩:=E5 (w:=w) (B:=w0.heap.size) (lab:=lab) (ρ:=ρ) _ _ _ (parts.toList.map fun p=>(p.1,a.eval p.2)) cs cC Kt (by simp) (fun j p q hp hq=>by
       rw[List.getElem?_map]at hp hq
       cases hx:parts.toList[j]? with
       | none=>rw[hx]at hp;cases hp
       | some x=>
        rw[hx]at hp hq
        injection hp with hp
        injection hq with hq
        subst hp hq
        exact⟨rfl,hR.ak x.2⟩)
      have aL:(Instr.buildSlice t len (parts.map fun(i,x)=>(i,a.eval x))).run P w = .ok (.slice (some ⟨w.heap.size,0,none⟩) len len) (w.alloc (.cells eC e)):=by
       have Bf:(parts.map fun(i,x)=>(i,a.eval x)).toList=parts.toList.map fun p=>(p.1,a.eval p.2):=by simp
       by_cases h0:len*aq tc=0
       ·have hm:madeCells z.cells (len*aq tc) = #[]:=by rw[h0];simp[madeCells]
        rw[hm]at rT
        have Ku:len*i.size=0:=by rw[hsz];exact h0
        rw[<-hsz]at rT
        have e0:∀ f:Nat->Value,Array.map f (Array.range 0) = #[]:=fun f=>by simp
        simp only[Instr.buildSlice,Sem.run_bind,run_underlying dX,Result.andThen_ok,sizeOf,typeInfo]
        simp[hi,Ku]
        rw[e0,rT]
        simp[newRow]
       ·exact run_buildSlice (P:=P) w t e len _ eC i z dX hi nI (by rw[hsz];omega) (by rw[hsz];exact h0) (by rw[hsz,Bf];exact rT)
      exact⟨eC,aL,hl,hl.1⟩
     cases gJ:Nat.beq len 0 with
     | true=>
      rw[gJ,cond_true]at h
      have hln:=Nat.eq_of_beq_eq_true gJ
      subst hln
      obtain⟨hd,h⟩:=kV h
      refine⟨_,h,fun lab ρ a w hR=>?_⟩
      obtain⟨eC,aL,hl,hcz⟩:=key lab ρ a w hR
      have sk:cs.length=0:=by
       have h1:=Rh _ _ _ cC
       rw[h1]
       simp
      refine⟨_,aX lab w.heap.size (some [d]),aX ρ d (.cS (.slice (some ⟨w.heap.size,0,none⟩) 0 0)),_,aL,(hR.yE (hR.dM d (.inl hd)) (fun r hr=>bB _ _ _ hr) (.sl _ _ (aZ _ _ _) ?_)).set ⟨rfl,by simp[bC,aZ]⟩ hd⟩
      exact RV.own (w:=w.alloc (.cells eC e)) (B:=w0.heap.size) (lab:=aX lab w.heap.size (some [d])) [d] tc (full tc) true [] w.heap.size 0 eC (fun _ _=>undef)
       (aZ _ _ _) (by rw[ht];exact heap_alloc_new w _) (by omega) (Nat.le_refl _) ⟨by unfold maxLen;omega,fun _=>rfl⟩ (fun i' h'=>absurd h' (by simp)) (fun i' h'=>absurd h' (by simp))
     | false=>
     rw[gJ,cond_false]at h
     obtain⟨hd,h⟩:=kV h
     refine⟨_,h,fun lab ρ a w hR=>?_⟩
     obtain⟨eC,aL,hl,_⟩:=key lab ρ a w hR
     refine⟨_,aX lab w.heap.size (some [d]),aX ρ d (.blk w.heap.size 0),_,aL,(hR.yE (hR.dM d (.inl hd)) (fun r hr=>bB _ _ _ hr) ?_).set ⟨w.heap.size,aZ _ _ _,(JW (by have:=Nat.le_mul_of_pos_right len (nA tc);unfold mJ;omega)).symm⟩ hd⟩
     have h1:cG (w.alloc (.cells eC e)) w0.heap.size (aX lab w.heap.size (some [d])) ρ cs eC:=
      hl.dL (by simp) (fun b hb=>⟨Below.heap_alloc w _ b hb,bB _ _ _ (by omega)⟩) (fun b k hb=>(hR.bV b k hb).2.1)
     have h2:=h1.dj (ρ':=aX ρ d (.blk w.heap.size 0)) (d:=d) (fun r hr=>bB _ _ _ hr)
     refine .blk w.heap.size 0 eC e _ (fun j=>eC.getD j undef) (aZ _ _ _) (aZ _ _ _) (heap_alloc_new w _) (by rw[h2.1];omega) fun j y hy=>?_
     obtain⟨v,hv,hr⟩:=h2.2 j y hy
     have hg:eC.getD j undef=v:=by rw[Array.getD_eq_getD_getElem?,hv];rfl
     rw[hg,Nat.zero_add]
     exact⟨hv,hr⟩
    ·cases h
  ·cases h
 ·cases h
theorem Ri{t:TypeId}{len:Nat}{parts:List (Nat×Operand)}{k:S->Option X}(h:uC P N σ d t len parts k=some r):∃ y u,k (((σ.drop d).root d y).set d u)=some r/\
  (∀ (af:S),(∀ p∈parts,ak af p.2=ak σ p.2)->bD (fun X k=>uC (X:=X) P N af d t len parts k) (((af.drop d).root d y).set d u)):=by
 unfold uC at h
 split at h
 ·rename_i e tc fQ
  split at h
  ·rename_i z hz
   cases hc:(Nat.beq z.cells.size (aq tc)&&Nat.blt (len*aq tc) 16777217)with
   | false=>rw[hc]at h;cases h
   | true=>
    rw[hc,cond_true]at h
    split at h
    ·rename_i cs cC
     cases gJ:Nat.beq len 0 with
     | true=>
      rw[gJ,cond_true]at h
      obtain⟨h1,_⟩:=qD h
      refine⟨_,_,h1,fun af BI X k=>?_⟩
      obtain⟨hN,_⟩:=kV h
      have eK:Nat.blt d N=true:=Nat.ble_eq_true_of_le hN
      have e:(parts.map fun p=>(p.1,ak af p.2))=parts.map fun p=>(p.1,ak σ p.2):=List.map_congr_left fun p hp=>by rw[BI p hp]
      simp only[uC,fQ,hz,hc,cond_true,e,cC,fP,eK,gJ]
     | false=>
      rw[gJ,cond_false]at h
      obtain⟨h1,_⟩:=qD h
      refine⟨_,_,h1,fun af BI X k=>?_⟩
      obtain⟨hN,_⟩:=kV h
      have eK:Nat.blt d N=true:=Nat.ble_eq_true_of_le hN
      have e:(parts.map fun p=>(p.1,ak af p.2))=parts.map fun p=>(p.1,ak σ p.2):=List.map_congr_left fun p hp=>by rw[BI p hp]
      simp only[uC,fQ,hz,hc,cond_true,e,cC,fP,eK,gJ,cond_false]
    ·cases h
  ·cases h
 ·cases h
theorem Rj{t e ty:TypeId}{tc:TC}{i:TypeInfo}{z:Value}{rr ry n:Nat}{k:S->Option X}(dX:P.underlying t=some (.slice e))(ht:tid tc=e)(hi:P.info? e=some i)(hz:i.zero=some z)
  (hsz:i.size=aq tc) (ez:i.bytes<=65536) (ee:z.cells.size=aq tc) (h:su N σ d rr ry tc n k=some r):∃ af,k af=some r/\∀ lab ρ a w,Rl w0 N lab ρ σ a w->w0.F rr=none->∀ u v b,ρ rr = .cS u->ρ ry = .blk b 0->v = .slice (some ⟨b,0,none⟩) n n->
  ∃ w' aj ρ' z,(Builtin.append_ #[t,t] ty #[u,v]).run P w = .ok z w'/\Rl w0 N aj ρ' af (a.put (some d) z) w':=by
 unfold su at h
 split at h
 ·rename_i cs t' o q l BL hr
  split at h
  ·rename_i eL
   subst eL
   split at h
   ·rename_i vs τ wq
    split at h
    ·rename_i l2 fY
     cases hL:(Nat.blt d N&&aV (l.length+l2.length))with
     | false=>rw[hL]at h;cases h
     | true=>
      rw[hL,cond_true]at h
      rw[Bool.and_eq_true]at hL
      have tY:l.length+l2.length<1073741824:=by simpa [aV]using hL.2
      have hd:d<N:=by have:=Nat.le_of_ble_eq_true hL.1;omega
      refine⟨_,h,fun lab ρ a w hR hF u v b adr ads hv=>?_⟩
      subst hv
      have hy:=hR.root ry _ BL
      generalize he:ax.blk cs=x at hy
      cases hy with
      | sl=>cases he
      | mp=>cases he
      | gh=>cases he
      | blk b' off cells e' cz us av cL hh hs hc=>
       injection he with he
       subst he
       rw[ads]at av
       injection av with e1 e2
       subst e1 e2
       have dN:cG w w0.heap.size lab ρ cs ((List.range cs.length).map us).toArray:=by
        refine⟨by simp,fun j x hx=>?_⟩
        have hj:j<cs.length:=(List.getElem?_eq_some_iff.1 hx).1
        exact⟨us j,by simp[hj],(hc j x hx).2⟩
       obtain⟨aj,aA,ow,Fx,_,ji,ec,_,_⟩:=EZ (w0:=w0) (N:=N) (fun j=>by simp[aM]) _ _ _ _ _ _ wq lab ρ a w hR _ dN
       obtain⟨E7,adt,ku⟩:=Ks t' o n vs l2 fY
       have dn:cs.length=n*aq t':=by rw[<-ow,adt]
       have iL:∀ j,j<cs.length->(us j).oneCell'=true:=by
        intro j hj
        have hx:=List.getElem?_eq_getElem (l:=vs) (i:=j) (by rw[ow];exact hj)
        obtain⟨u',iW,cw⟩:=Fx j _ hx
        have:u'=us j:=by simpa [hj]using iW.symm
        rw[<-this]
        exact cw.one
       have Fy:b<w.heap.size:=(Array.getElem?_eq_some_iff.1 hh).1
       have rN:Reads w w.heap.size (aq t') (some ⟨b,0,none⟩) n ((List.range cs.length).map us):=by
        refine⟨by simp[dn],fun hn=>⟨b,0,rfl,Fy,fun j v hv=>?_⟩⟩
        have hj:j<cs.length:=by have:=(List.getElem?_eq_some_iff.1 hv).1;simpa using this
        have:v=us j:=by simpa [hj]using hv.symm
        subst this
        rw[cell_of_row w b _ cells _ _ hh]
        exact(hc j _ (List.getElem?_eq_getElem hj)).1
       have eK:oZ w w0.heap.size aj rr l.length t' o l2 ((List.range cs.length).map us):=by
        intro i' pz j x hx
        have hj:j<aq t':=by have:=(List.getElem?_eq_some_iff.1 hx).1;rwa [jB]at this
        obtain⟨y,hy,hw⟩:=ku i' pz j x hx
        obtain⟨u',iW,cw⟩:=Fx _ _ hy
        refine⟨u',iW,?_⟩
        have e1:(0+(i'*aq t'+j)) % aq t'=j:=by rw[Nat.zero_add,Nat.add_comm,Nat.add_mul_mod_self_right,Nat.mod_eq_of_lt hj]
        have e2:(0+(i'*aq t'+j)) / aq t'=i':=by rw[Nat.zero_add,Nat.add_comm,Nat.add_mul_div_right _ _ (nA t'),Nat.div_eq_of_lt hj,Nat.zero_add]
        simp only[e1,e2]at cw
        exact cw.wk hw
       have wu:=aA.root rr _ (ji _ hr)
       generalize he:ax.sl (.sl t' (o+2) q l)=x at wu
       cases wu with
       | blk=>cases he
       | mp=>cases he
       | gh=>cases he
       | sl uu y fF cw=>
        injection he with he
        subst he
        rw[adr]at fF
        injection fF with fF
        subst fF
        obtain⟨v',w',cI,aL,iM,fD⟩:=aA.acd (ty:=ty) (c:=n) hF dX ht hi hz hsz ez ee cw rN (fun v hv=>by
         obtain⟨j,hj⟩:=List.mem_iff_getElem?.1 hv
         have Rk:j<cs.length:=by have:=(List.getElem?_eq_some_iff.1 hj).1;simpa using this
         have:v=us j:=by simpa [Rk]using hj.symm
         rw[this];exact iL j Rk) E7.symm eK tY
        exact⟨w',cI,_,v',aL,iM.set ⟨fD,by simp[bC,aZ]⟩ hd⟩
    ·cases h
   ·cases h
  ·cases h
 ·cases h
theorem Ro{rr ry n:Nat}{tc:TC}{k:S->Option X}(h:su N σ d rr ry tc n k=some r):∃ τ,k τ=some r/\bD (fun X k=>su (X:=X) N σ d rr ry tc n k) τ:=by
 unfold su at h
 split at h
 ·rename_i cs t' o q l BL hr
  split at h
  ·rename_i eL
   split at h
   ·rename_i vs τ wq
    split at h
    ·rename_i l2 fY
     cases hL:(Nat.blt d N&&aV (l.length+l2.length))with
     | false=>rw[hL]at h;cases h
     | true=>
      rw[hL,cond_true]at h
      exact⟨_,h,fun X k=>by simp only[su,BL,hr,dif_pos eL,wq,fY,hL,cond_true]⟩
    ·cases h
   ·cases h
  ·cases h
 ·cases h
theorem adu{t ty:TypeId}{x y:A}{k:S->Option X}(h:uD P N σ d t x y k=some r):∃ af,k af=some r/\∀ lab ρ a w,Rl w0 N lab ρ σ a w->∀ u v,RA w w0.heap.size lab ρ x u->RA w w0.heap.size lab ρ y v->
  ∃ w' aj ρ' z,(Builtin.append_ #[t,t] ty #[u,v]).run P w = .ok z w'/\Rl w0 N aj ρ' af (a.put (some d) z) w':=by
 unfold uD at h
 split at h
 ·rename_i e tc ry n fQ
  obtain⟨dX,ht,i,hi,hsz,ez⟩:=vJ fQ
  cases hc:((zeroOf P e).any (fun z=>Nat.beq z.cells.size (aq tc))&&(Nat.blt d N&&Nat.blt n mJ))with
  | false=>rw[hc]at h;cases h
  | true=>
   rw[hc,cond_true]at h
   rw[Bool.and_eq_true]at hc
   obtain⟨z,hz,ee⟩:=(Option.any_eq_true _ _).1 hc.1
   have ee:=Nat.eq_of_beq_eq_true ee
   have nI:i.zero=some z:=by unfold zeroOf at hz;simpa [hi]using hz
   have ki:=hc.2
   rw[Bool.and_eq_true]at ki
   have hd:d<N:=by have:=Nat.le_of_ble_eq_true ki.1;omega
   have di:n<mJ:=by have:=Nat.le_of_ble_eq_true ki.2;omega
   split at h
   ·obtain⟨af,h2,hs⟩:=Rj (w0:=w0) (ty:=ty) dX ht hi nI hsz ez ee h
    refine⟨af,h2,fun lab ρ a w hR u v hu hv=>?_⟩
    have hu:u = .slice none 0 0:=by cases hu.2;rfl
    subst hu
    obtain⟨b,hb,rfl⟩:=hv
    have BL:ry≠d:=by
     rintro rfl
     unfold su at h
     split at h
     ·rename_i h1 h2
      have:(aX (σ.drop ry).m ry (some (ax.sl (.sl tc (full tc+2) false [])))) ry=_:=h1
      rw[aZ]at this
      cases this
     ·cases h
    have hR0:=hR.new (d:=d) (x:=.sl (.sl tc (full tc+2) false [])) (.cS (.slice none 0 0)) (.sl _ _ (aZ _ _ _) (.bO _ _ _)) (hR.dM d (.inl hd))
    exact hs _ _ a w hR0 (hR.dM d (.inl hd)) _ _ b (aZ _ _ _) ((bB _ _ _ BL).trans hb) (JW di)
   ·rename_i rr
    cases hL:(Nat.blt rr N || Nat.ble 60000 rr)with
    | false=>rw[hL]at h;cases h
    | true=>
     rw[hL,cond_true]at h
     rw[Bool.or_eq_true]at hL
     have ji:rr<N\/60000<=rr:=hL.imp (fun h=>by have:=Nat.le_of_ble_eq_true h;omega) (fun h=>Nat.le_of_ble_eq_true h)
     obtain⟨af,h2,hs⟩:=Rj (w0:=w0) (ty:=ty) dX ht hi nI hsz ez ee h
     refine⟨af,h2,fun lab ρ a w hR u v hu hv=>?_⟩
     obtain⟨b,hb,rfl⟩:=hv
     have av:ρ rr = .cS u:=by
      have h4:=hu.2
      simp only[bC]at h4
      cases hl:ρ rr with
      | blk b o=>rw[hl]at h4;cases h4
      | aT us=>rw[hl]at h4;cases h4
      | cS v=>rw[hl]at h4;injection h4 with h4;rw[h4]
     exact hs lab ρ a w hR (hR.dM rr ji) _ _ b av hb (JW di)
   ·cases h
 ·cases h
theorem adv{t:TypeId}{x y:A}{k:S->Option X}(h:uD P N σ d t x y k=some r):∃ τ,k τ=some r/\bD (fun X k=>uD (X:=X) P N σ d t x y k) τ:=by
 unfold uD at h
 split at h
 ·rename_i e tc ry n fQ
  cases hc:((zeroOf P e).any (fun z=>Nat.beq z.cells.size (aq tc))&&(Nat.blt d N&&Nat.blt n mJ))with
  | false=>rw[hc]at h;cases h
  | true=>
   rw[hc,cond_true]at h
   split at h
   ·obtain⟨τ,h1,h2⟩:=Ro h
    exact⟨τ,h1,fun X k=>by simp only[uD,fQ,hc,cond_true];exact h2 X k⟩
   ·rename_i rr
    cases hL:(Nat.blt rr N || Nat.ble 60000 rr)with
    | false=>rw[hL]at h;cases h
    | true=>
     rw[hL,cond_true]at h
     obtain⟨τ,h1,h2⟩:=Ro h
     exact⟨τ,h1,fun X k=>by simp only[uD,fQ,hc,hL,cond_true];exact h2 X k⟩
   ·cases h
 ·cases h
theorem adw{t:TypeId}{x y:A}{k:S->Option X}(h:wm P σ t x y k=some r):∃ af,k af=some r/\∀ lab ρ a w,Rl w0 N lab ρ σ a w->∀ u v,RA w w0.heap.size lab ρ x u->RA w w0.heap.size lab ρ y v->
  ∃ w' aj,(Instr.storeAt t u v).run P w = .ok () w'/\Rl w0 N aj ρ af a w':=by
 unfold wm at h
 split at h
 ·rename_i n xs j i s rr hn eS
  split at h
  ·rename_i hlen
   cases gA:xs.all Lf.live with
   | false=>rw[gA]at h;cases h
   | true=>
    rw[gA,cond_true]at h
    split at h
    ·rename_i vs τ wq
     split at h
     ·rename_i t' o' qn l dx
      split at h
      ·rename_i kj
       split at h
       ·rename_i hi
        split at h
        ·rename_i hj
         split at h
         ·rename_i e he
          refine⟨_,h,fun lab ρ a w hR u v hu hv=>?_⟩
          obtain⟨ad,rfl,gG⟩:=hu
          obtain⟨hl,iL⟩:=A7 eS gA hv
          have dN:cG w w0.heap.size lab ρ xs v.cells.toList.toArray:=by simpa using hl
          obtain⟨aj,aA,ow,Fx,_,ji,ec,arW,_⟩:=EZ (w0:=w0) (N:=N) (fun m=>by simp[aM]) _ _ _ _ _ _ wq lab ρ a w hR _ dN
          simp only[addrAt]at gG
          split at gG
          ·rename_i b n0 c0 av
           split at gG
           ·rename_i cL
            injection gG with gG
            subst gG
            have wu:=aA.root rr _ dx
            generalize hx:ax.sl (.sl t' (o'+2) qn l)=x at wu
            cases wu with
            | blk=>cases hx
            | mp=>cases hx
            | gh=>cases hx
            | sl uu y fF cw=>
             injection hx with hx
             subst hx
             rw[av]at fF
             injection fF with fF
             subst fF
             cases cw with
             | ah _ _ _ _ _ _ _ _ _ ho=>omega
             | bY=>simp at hi
             | cy=>simp at hi
             | own _ _ _ _ _ _ cap cs us Fz hh hs rB hm hc hr=>
              subst kj
              have Lh:v.cells.size=n:=by rw[hl.1,hlen]
              have vE:i*aq t'+aq t'<=c0*aq t':=by
               have:(i+1)*aq t'<=c0*aq t':=Nat.mul_le_mul_right _ (by omega)
               rw[Nat.succ_mul]at this
               exact this
              have hJ:i*aq t'+j+v.cells.toList.length<=cs.size:=by rw[Array.length_toList,Lh,hs];omega
              have hW:=J0 w b (i*aq t'+j) v.cells.toList
              obtain⟨c2,eK,ki⟩:=Ak b (tid t') v.cells.toList (i*aq t'+j) w cs hh hJ
              have yu:∀ m,c2[m]?=if m<i*aq t'+j then cs[m]? else if m<i*aq t'+j+n then v.cells[m-(i*aq t'+j)]? else cs[m]?:=by
               intro m
               have e2:c2[m]?=(dZ cs.toList (i*aq t'+j) v.cells.toList)[m]?:=by
                rw[show c2[m]?=c2.toList[m]? by simp,ki]
                rfl
               rw[e2,vB _ _ _ (by simpa using hJ),Array.length_toList,Lh]
               simp
              have J5:c2.size=cs.size:=by
               rw[<-Array.length_toList,ki]
               have:=vA cs.toList (i*aq t'+j) v.cells.toList (by simpa using hJ)
               simp only[dZ]at this
               rw[this]
               simp
              have Fy:b<w.heap.size:=(Array.getElem?_eq_some_iff.1 hh).1
              have hz:w.heap.size<=(w.setCells b (i*aq t'+j) v.cells.toList).heap.size:=Nat.le_of_eq hW.size.symm
              have rP:∀ b',b'<w.heap.size->aj b'≠some [rr]->(w.setCells b (i*aq t'+j) v.cells.toList).heap[b']?=w.heap[b']?:=fun b' _ aK=>hW.block b' (by rintro rfl;exact aK Fz)
              have A8:w.there b (i*aq t'+j) v.cells.size:=by
               intro m kq
               refine⟨?_,frozen_of_row w b _ cs _ hh⟩
               rw[cell_of_row w b _ cs _ _ hh]
               rw[Array.length_toList]at hJ
               simp
               omega
              have eT:vs.length=n:=by rw[ow,hlen]
              refine⟨_,aj,J9 w b _ t v A8 (by rw[Lh];exact hn) iL,aA.gD (ns:=[rr]) (cn:=[]) (dI:=ρ) (cI:=aj) ⟨hz,fun b' iU hk=>⟨hW.block b' ?_,rfl⟩,fun _ _=>rfl,fun b' k hk=>(aA.bV b' k hk).2⟩
               ⟨hW.os,hW.tape,hW.output,hz,fun k hk hL=>hW.block k ?_⟩ (fun b' k hk=>?_) (fun r hr=>by cases hr) (fun r0 x hx=>?_)⟩
              ·rintro rfl
               have:=hk _ Fz
               simp[bG,bg]at this
              ·rintro rfl
               rcases(aA.bV k _ Fz).1 with h1 | h1
               ·exact absurd hk (Nat.not_lt.2 h1)
               ·exact h1 hL
              ·have:=aA.bV b' k hk
               exact⟨this.1,Nat.lt_of_lt_of_le this.2.1 hz,this.2.2⟩
              ·have bL:r0=rr/\x = .sl (.sl t' (o'+2) qn (l.set i e)):=by
                simp only[List.lookup]at hx
                split at hx
                ·rename_i iU
                 injection hx with hx
                 exact⟨by simpa using iU,hx.symm⟩
                ·cases hx
               obtain⟨rfl,rfl⟩:=bL
               refine .sl _ _ av ?_
               refine RV.EU (u:=us) (us:=fun _ m=>v.cells.getD (m-j) undef) (cs:=cs) (xs:=vs) Fz eK (J5.trans hs) rB hm hi (by rw[eT];exact hj) he (fun i' h' j' x bR A3=>?_) (fun m x bR=>?_)
               ·have oV:j'<aq t':=by have:=(List.getElem?_eq_some_iff.1 bR).1;rwa [jB]at this
                refine⟨?_,(hr i' h' j' x bR).under (n:=r0) (.inl (by simp)) hz rP (fun _ _=>rfl)⟩
                rw[yu]
                have oW:¬ (¬ i'*aq t'+j'<i*aq t'+j/\i'*aq t'+j'<i*aq t'+j+n):=by
                 rintro⟨h1,h2⟩
                 rcases Nat.lt_trichotomy i' i with bU | heq | yw
                 ·have:(i'+1)*aq t'<=i*aq t':=Nat.mul_le_mul_right _ bU
                  rw[Nat.succ_mul]at this
                  omega
                 ·subst heq
                  exact A3 ⟨rfl,by omega,by omega⟩
                 ·have:(i+1)*aq t'<=i'*aq t':=Nat.mul_le_mul_right _ yw
                  rw[Nat.succ_mul]at this
                  omega
                split
                ·exact hc i' h' j' x bR
                ·rw[if_neg (by omega)]
                 exact hc i' h' j' x bR
               ·obtain⟨v0,o6,yx⟩:=Fx m x bR
                have kq:m<n:=by rw[<-eT];exact(List.getElem?_eq_some_iff.1 bR).1
                have Rp:v.cells[m]?=some v0:=by simpa using o6
                have rC:v.cells.getD (j+m-j) undef=v0:=by rw[show j+m-j=m by omega,Array.getD_eq_getD_getElem?,Rp];rfl
                show c2[_]?=some (v.cells.getD (j+m-j) undef)/\RV _ _ _ _ _ (v.cells.getD (j+m-j) undef)
                rw[rC,yu,if_neg (by omega),if_pos (by omega)]
                rw[Nat.zero_add]at yx
                refine⟨?_,yx.under (n:=r0) (.inl (by simp)) hz rP (fun _ _=>rfl)⟩
                rw[show i*aq t'+(j+m)-(i*aq t'+j)=m by omega]
                exact Rp
           ·cases gG
          ·cases gG
         ·cases h
        ·cases h
       ·cases h
      ·cases h
     ·cases h
    ·cases h
  ·cases h
 ·cases h
theorem adx{t:TypeId}{x y:A}{k:S->Option X}(h:wm P σ t x y k=some r):∃ τ,k τ=some r/\bD (fun X k=>wm (X:=X) P σ t x y k) τ:=by
 unfold wm at h
 split at h
 ·rename_i n xs j i s rr hn eS
  split at h
  ·rename_i hlen
   cases gA:xs.all Lf.live with
   | false=>rw[gA]at h;cases h
   | true=>
    rw[gA,cond_true]at h
    split at h
    ·rename_i vs τ wq
     split at h
     ·rename_i t' o' qn l dx
      split at h
      ·rename_i kj
       split at h
       ·rename_i hi
        split at h
        ·rename_i hj
         split at h
         ·rename_i e he
          exact⟨_,h,fun X k=>by simp only[wm,hn,eS,if_pos hlen,gA,cond_true,wq,dx,if_pos kj,dif_pos hi,if_pos hj,he]⟩
         ·cases h
        ·cases h
       ·cases h
      ·cases h
     ·cases h
    ·cases h
  ·cases h
 ·cases h
end
end Go.Proofs.YtmffpkippmkjbaaGreatDoor
namespace Go.Proofs.YtmffpkippmkjbaaGreatDoor
open Go.RowKit
set_option linter.unusedVariables false
def Li(P:Program)(f:Nat)(F:List Int->Option Int):Prop:=
 ∀ (w:World) (l:List (T .u8)) (h:Int) (v:Value),F l=some h->RV w w.heap.size (fun _=>none) [] (.sl .u8 0 false l) v->Hd w (fun _=>none)->Calls P f #[v] w fun e w'=>
  ∃ b off cells t,e = .returned (.pointer (some ⟨b,off,none⟩))/\Below w.heap.size w w'/\w.heap.size<=b/\w'.heap[b]?=some (.cells cells t (0,0))/\cells[off]?=some v/\cells[off+1]?=some (.int .i64 0)/\cells[off+2]?=some (.int .i64 h)
def wv{X:Type}(N:Nat)(σ:S)(d:Nat)(F:List Int->Option Int)(x:A)(k:S->Option X):Option X:=
 match x with
 | .lf (.v (.sl .u8 0 q l))=>bif Nat.blt d N then (match F l with
  | some h=>k (((σ.drop (1000000000100000+1000*d)).root (1000000000100000+1000*d) (.blk [.v (.sl .u8 0 q l),.v (.int .i64 0),.v (.int .i64 h)])).set d (.az (1000000000100000+1000*d) 0))
  | none=>none)else none
 | _=>none
structure wz where
 a:Nat
 j:Nat
 t:TC
 run:List Pt->Option (Nat×Nat)
def pF(aT:Array Value)(a j:Nat):Option Value:=match aT[a]? with
 | some (.agg us)=>us[j]?
 | some u=>bif Nat.beq j 0 then some u else none
 | none=>none
def FA(P:Program)(f:Nat)(c:wz):Prop:=
 ∀ (args:List Pt) (p:Nat×Nat),c.run args=some p->∀ (w:World) (aT:Array Value),nK w args aT->Hd w (fun _=>none)->Calls P f aT w fun e w'=>
  ∃ A n cap,pF aT c.a c.j=some (.slice A n cap)/\p.1<=p.2/\p.2<=n/\e = .returned (sliced A p.1 p.2 cap (aq c.t))/\Below w.heap.size w w'
def Rq(σ:S)(args:List Operand)(a j:Nat):Option Lf:=match args[a]? with
 | some x=>(match ak σ x with
  | .agg cs=>cs[j]?
  | .lf l=>bif Nat.beq j 0 then some l else none
  | _=>none)
 | none=>none
def wA{X:Type}(N:Nat)(σ:S)(d:Nat)(c:wz)(args:List Operand)(k:S->Option X):Option X:=
 bif Nat.blt d N then gT σ args fun ps=>(match c.run ps with
  | some p=>(match Rq σ args c.a c.j with
   | some (.v (.sl t g _ l))=>if t=c.t then (bif Nat.blt g 2&&Nat.ble p.1 p.2&&Nat.ble p.2 l.length then k (σ.set d (.lf (.v (.sl t g false ((l.take p.2).drop p.1)))))else none)else none
   | _=>none)
  | none=>none)else none
structure pG where
 run:(X:Type)->Nat->S->List A->(S->A->Option X)->Option X
def kG(P:Program)(f:Nat)(c:pG):Prop:=
 ∀ [Inhabited Wd] (X:Type) (N:Nat) (σ:S) (xs:List A) (k:S->A->Option X) (r:X),c.run X N σ xs k=some r->∃ af y,k af y=some r/\(∀ (X':Type) (k':S->A->Option X'),c.run X' N σ xs k'=k' af y)/\
  ∀ (w0:Wd) (lab:aQ) (ρ:Nat->Loc) (a:Act) (w:World) (aT:Array Value),Rl w0 N lab ρ σ a w->aT.size=xs.length->(∀ i,RA w w0.heap.size lab ρ ((xs[i]?).getD .undef) (aT.getD i undef))->
   Calls P f aT w fun e w'=>∃ v aj ρ',e = .returned v/\Rl w0 N aj ρ' af a w'/\RA w' w0.heap.size aj ρ' y v
inductive oE where
 | p (c:aI)
 | m (c:gN)
 | n (F:List Int->Option Int)
 | v (c:wz)
 | i (c:pG)
 | d (c:gN)
 | q (c:aI)
def Rr(P:Program)(f:Nat):oE->Prop
 | .p c=>aG P f c
 | .m c=>kF P f c
 | .n F=>Li P f F
 | .v c=>FA P f c
 | .i c=>kG P f c
 | .d c=>kF P f c
 | .q c=>aG P f c
section
variable {P:Program} {w w':World} {w0:Wd} {B N:Nat} {lab cI aj:aQ} {ρ dI ρ':Nat->Loc} {σ:S} {a:Act} {X:Type} {d:Nat} {r:X} {ns cn:List Nat} {o:Oper}
theorem Lj:∀ (xs:List Lf) (k:List V->Option X),lR σ ns xs k=some r->∃ vs,k vs=some r/\bD (fun X k=>lR (X:=X) σ ns xs k) vs
 | [],k,h=>⟨[],h,fun X k=>rfl⟩
 | x :: xs,k,h=>by
  unfold lR at h
  cases ho:Fh ns x with
  | false=>rw[ho]at h;cases h
  | true=>
   rw[ho,cond_true]at h
   obtain⟨y,h2,hd⟩:=uB h
   obtain⟨ys,h3,iw⟩:=Lj xs _ h2
   exact⟨_,h3,fun X k=>by
    simp only[lR,ho,cond_true]
    exact(hd.at_ _).trans (iw.at_ _)⟩
theorem Rs{x:A}{k:Pt->Option X}(h:mQ σ ns x k=some r):∃ p,k p=some r/\bD (fun X k=>mQ (X:=X) σ ns x k) p:=by
 unfold mQ at h
 split at h
 ·rename_i y
  obtain⟨vs,h2,hd⟩:=Lj _ _ h
  exact⟨_,h2,fun X k=>hd X (fun vs=>k (false,vs))⟩
 ·rename_i ys
  obtain⟨vs,h2,hd⟩:=Lj _ _ h
  exact⟨_,h2,fun X k=>hd X (fun vs=>k (true,vs))⟩
 ·cases h
theorem wB:∀ (ps:List PK) (xs:List Operand) (ay:List Mu) (k:kE ps->Option X),ga σ ns ps xs ay k=some r->∃ x,k x=some r/\bD (fun X k=>ga (X:=X) σ ns ps xs ay k) x
 | [],[],[],k,h=>⟨(),h,fun X k=>rfl⟩
 | .v b t :: ps,x :: xs,ay,k,h=>by
  unfold ga at h
  obtain⟨p,h2,hd⟩:=Rs h
  cases hb:p.1==b with
  | false=>rw[hb]at h2;cases h2
  | true=>
   rw[hb,cond_true]at h2
   split at h2
   ·rename_i y hy
    obtain⟨ys,h3,iw⟩:=wB ps xs ay _ h2
    exact⟨_,h3,fun X k=>by
     show mQ σ ns (ak σ x) _=_
     refine(hd.at_ _).trans ?_
     rw[hb,cond_true,hy]
     exact iw.at_ _⟩
   ·cases h2
 | .p t g off :: ps,x :: xs,.blk r' cs vs :: ay,k,h=>by
  unfold ga at h
  split at h
  ·rename_i y hy
   obtain⟨ys,h3,iw⟩:=wB ps xs ay _ h
   exact⟨_,h3,fun X k=>by
    simp only[ga,hy]
    exact iw.at_ _⟩
  ·cases h
 | .s t g :: ps,x :: xs,.sl q y0 :: ay,k,h=>by
  unfold ga at h
  split at h
  ·rename_i y hy
   obtain⟨ys,h3,iw⟩:=wB ps xs ay _ h
   exact⟨_,h3,fun X k=>by
    simp only[ga,hy]
    exact iw.at_ _⟩
  ·cases h
 | [],[],_ :: _,k,h=>by cases h
 | [],_ :: _,_,k,h=>by cases h
 | .v _ _ :: _,[],_,k,h=>by cases h
 | .p _ _ _ :: _,[],_,k,h=>by cases h
 | .s _ _ :: _,[],_,k,h=>by cases h
 | .p _ _ _ :: _,_ :: _,[],k,h=>by cases h
 | .s _ _ :: _,_ :: _,[],k,h=>by cases h
 | .p _ _ _ :: _,_ :: _,.sl _ _ :: _,k,h=>by cases h
 | .s _ _ :: _,_ :: _,.blk _ _ _ :: _,k,h=>by cases h
theorem Rt{dst:Option Tmp}{res:eM}{k:S->Option X}(h:jO N σ dst res k=some r):∃ τ,k τ=some r/\bD (fun X k=>jO (X:=X) N σ dst res k) τ:=by
 unfold jO at h
 cases dst with
 | none=>exact⟨σ,h,fun X k=>rfl⟩
 | some d=>
  have h:(bif Nat.blt d N then (match res with
   | .one p=>(match ox (p.1,ig (1000000000100000+1000*d) p.2)with
    | some y=>k ((eV (1000000000100000+1000*d) σ p.2).set d y)
    | none=>none)
   | .bJ ps=>k ((gC (1000000000100000+1000*d) σ ps).set d (.bJ (iZ (1000000000100000+1000*d) ps))))else none)=some r:=h
  cases hN:Nat.blt d N with
  | false=>rw[hN]at h;cases h
  | true=>
   rw[hN,cond_true]at h
   cases res with
   | one p=>
    simp only at h
    split at h
    ·rename_i y hy
     exact⟨_,h,fun X k=>by simp only[jO,hN,cond_true,hy]⟩
    ·cases h
   | bJ ps=>exact⟨_,h,fun X k=>by simp only[jO,hN,cond_true]⟩
theorem Ru{dst:Option Tmp}{c:gN}{args:List Operand}{k:S->Option X}(h:jP N σ dst c args k=some r):∃ τ,k τ=some r/\bD (fun X k=>jP (X:=X) N σ dst c args k) τ:=by
 unfold jP at h
 split at h
 ·rename_i ay nS
  cases gx:(once (iN 0 ay)&&Nat.ble ay.length 40)with
  | false=>rw[gx]at h;cases h
  | true=>
   rw[gx,cond_true]at h
   obtain⟨x,h2,hd⟩:=wB _ _ _ _ h
   split at h2
   ·rename_i y hy
    unfold uy at h2
    generalize dw:vX N ay (fZ (dQ c.ps) y.2) (jM (fR dst) (dK c.ro y.1).len ay (fZ (dQ c.ps) y.2))=ok at h2
    cases ok with
    | false=>cases h2
    | true=>
     rw[cond_true]at h2
     obtain⟨τ,h3,wh⟩:=Rt h2
     exact⟨τ,h3,fun X k=>by
      simp only[jP,nS,gx,cond_true]
      refine(hd X _).trans ?_
      simp only[hy,uy,dw,cond_true]
      exact wh.at_ _⟩
   ·cases h2
 ·cases h
theorem ady{F:List Int->Option Int}{x:A}{k:S->Option X}(h:wv N σ d F x k=some r):∃ τ,k τ=some r/\bD (fun X k=>wv (X:=X) N σ d F x k) τ:=by
 unfold wv at h
 split at h
 ·cases hN:Nat.blt d N with
  | false=>rw[hN]at h;cases h
  | true=>
   rw[hN,cond_true]at h
   split at h
   ·rename_i z hz
    exact⟨_,h,fun X k=>by simp only[wv,hN,cond_true,hz]⟩
   ·cases h
 ·cases h
theorem adz{f:Nat}{x:Operand}{args:Array Operand}{cA:Array TypeId}{F:List Int->Option Int}{k:S->Option X}(ho:o.op = .call { callee:=.value (.func f),args,argTypes:=cA })(hx:args.toList=[x])(hd:o.dst=some d)(he:enters P f)(hc:Li P f F)(h:wv N σ d F (ak σ x) k=some r):
  ∃ af,k af=some r/\iJ P w0 N o σ af:=by
 unfold wv at h
 split at h
 ·rename_i q l hq
  cases hN:Nat.blt d N with
  | false=>rw[hN]at h;cases h
  | true=>
   rw[hN,cond_true]at h
   have rZ:d<N:=Nat.le_of_ble_eq_true hN
   split at h
   ·rename_i hz hhz
    refine⟨_,h,fun a w K Q hR hK=>?_⟩
    obtain⟨lab,ρ,hR⟩:=hR
    have hv:=hR.ak x
    rw[hq]at hv
    have o6:RV w w.heap.size (fun _=>none) [] (.sl .u8 0 false l) (a.eval x):=by
     have h0:RV w w.heap.size (fun _=>none) [] (.sl .u8 0 q l) (a.eval x):=hv.2.gz
     cases q with
     | false=>exact h0
     | true=>exact h0.wk (.q _ _ _)
    unfold Oper.wp
    rw[Fe w o a f args cA ho he,Oper.upon_enter]
    have o8:(args.map a.eval) = #[a.eval x]:=by apply Array.ext';rw[Array.toList_map,hx];rfl
    rw[o8]
    refine(hc w l _ _ hhz o6 (w0.on hR.below (fun _ _ h=>by cases h))).mono fun e w' kC=>?_
    obtain⟨b,off,cells,t,rfl,ep,hb,hh,sk,hc1,ki⟩:=kC
    have hB:=hR.below.size
    have gm:b<w'.heap.size:=(Array.getElem?_eq_some_iff.1 hh).1
    have mT:Rl w0 N (aX lab b (some [1000000000100000+1000*d])) ρ σ a w':=by
     refine hR.grow ep (fun c Ll=>bB _ _ _ (by omega)) (fun c k Ll hk=>?_)
     by_cases e:c=b
     ·subst e
      rw[aZ]at hk
      injection hk with hk
      subst hk
      exact⟨gm,by simp⟩
     ·rw[bB _ _ _ e]at hk
      have:=(hR.bV c k hk).2.1
      omega
    have iM:=mT.new (d:=1000000000100000+1000*d) (x:=.blk [.v (.sl .u8 0 q l),.v (.int .i64 0),.v (.int .i64 hz)]) (.blk b off) (by
     refine .blk b off cells t _ (fun j=>(#[a.eval x,.int .i64 0,.int .i64 hz]:Array Value).getD j undef) (aZ _ _ _) (aZ _ _ _) hh (by
      have:=(Array.getElem?_eq_some_iff.1 ki).1
      simp;omega) (fun j y hy=>?_)
     have qp:cg w' w0.heap.size (aX lab b (some [1000000000100000+1000*d])) (aX ρ (1000000000100000+1000*d) (.blk b off)) (.v (.sl .u8 0 q l)) (a.eval x):=by
      refine⟨rfl,hv.2.dL ep.size (fun c Ll=>⟨ep.block c Ll,bB _ _ _ (by omega)⟩)⟩
     match j,hy with
     | 0,hy=>simp at hy;subst hy;exact⟨sk,qp⟩
     | 1,hy=>simp at hy;subst hy;exact⟨hc1,rfl,.int _ _ _⟩
     | 2,hy=>simp at hy;subst hy;exact⟨ki,rfl,.int _ _ _⟩
     | j+3,hy=>simp at hy) (hR.dM _ (.inr (by omega)))
    rw[hd]
    exact hK _ _ ⟨_,_,iM.set ⟨b,off,aZ _ _ _,rfl⟩ rZ⟩
   ·cases h
 ·cases h
theorem adA{f:Nat}{args:Array Operand}{cA:Array TypeId}{c:wz}{k:S->Option X}(ho:o.op = .call { callee:=.value (.func f),args,argTypes:=cA })(hd:o.dst=some d)(he:enters P f)(hc:FA P f c)(h:wA N σ d c args.toList k=some r):∃ af,k af=some r/\iJ P w0 N o σ af:=by
 unfold wA at h
 cases hN:Nat.blt d N with
 | false=>rw[hN]at h;cases h
 | true=>
  rw[hN,cond_true]at h
  have rZ:d<N:=by have:=Nat.le_of_ble_eq_true hN;omega
  obtain⟨ps,h2,eW⟩:=Ky (w0:=w0) (N:=N) _ _ h
  split at h2
  ·rename_i p hp
   split at h2
   ·rename_i t g q l hl
    split at h2
    ·rename_i eL
     cases hb:(Nat.blt g 2&&Nat.ble p.1 p.2&&Nat.ble p.2 l.length)with
     | false=>rw[hb]at h2;cases h2
     | true=>
      rw[hb,cond_true]at h2
      rw[Bool.and_eq_true,Bool.and_eq_true]at hb
      have hg:g<2:=by have:=Nat.le_of_ble_eq_true hb.1.1;omega
      have jg:=Nat.le_of_ble_eq_true hb.1.2
      have h2l:=Nat.le_of_ble_eq_true hb.2
      refine⟨_,h2,fun a w K Q hR hK=>?_⟩
      obtain⟨lab,ρ,hR⟩:=hR
      unfold Oper.wp
      rw[Fe w o a f args cA ho he,Oper.upon_enter]
      have o8:(args.map a.eval)=(args.toList.map a.eval).toArray:=by apply Array.ext';rw[Array.toList_map]
      rw[o8]
      refine(hc ps p hp w _ (eW lab ρ a w hR) (w0.on hR.below (fun _ _ h=>by cases h))).mono fun e w' kC=>?_
      obtain⟨A,n,cap,e1,hle,hn,rfl,ep⟩:=kC
      have kn:RV w w0.heap.size lab [] (.sl t g q l) (.slice A n cap):=by
       unfold Rq at hl
       split at hl
       ·rename_i x hx
        have hev:((args.toList.map a.eval).toArray)[c.a]?=some (a.eval x):=by
         rw[List.getElem?_toArray,List.getElem?_map,hx];rfl
        unfold pF at e1
        rw[hev]at e1
        have sv:=hR.ak x
        split at hl
        ·rename_i cs cC
         rw[cC]at sv
         obtain⟨us,dN,yH⟩:=sv
         rw[dN]at e1
         obtain⟨u,hu,hr⟩:=yH.2 _ _ hl
         simp only at e1
         rw[e1]at hu
         injection hu with hu
         subst hu
         exact hr.2
        ·rename_i lf o7
         rw[o7]at sv
         cases hj:Nat.beq c.j 0 with
         | false=>rw[hj]at hl;cases hl
         | true=>
          rw[hj]at hl e1
          injection hl with hl
          subst hl
          have sv:cg w w0.heap.size lab ρ (.v (.sl t g q l)) (a.eval x):=sv
          have qF:∀ us,a.eval x ≠ .agg us:=by
           intro us e
           rw[e]at sv
           cases sv.2
          generalize a.eval x=z at e1 sv qF
          cases z <;>first | exact absurd rfl (qF _) | (simp only[cond_true,Option.some.injEq]at e1;cases e1;exact sv.2) | (simp only[cond_true,Option.some.injEq]at e1;cases e1)
        ·cases hl
       ·cases hl
      obtain⟨Ln,uf,Qq⟩:=kn.part (a:=p.1) (h:=p.2) hg jg h2l
      subst eL
      rw[hd]
      have aA:=hR.grow ep (aj:=lab) (fun _ _=>rfl) (fun b k hb hk=>absurd (hR.bV b k hk).2.1 (Nat.not_lt.2 hb))
      refine hK _ _ ⟨lab,ρ,aA.set ⟨by simp[V.ah,hg],?_⟩ rZ⟩
      exact Ln.dL ep.size fun b hb=>⟨ep.block b hb,rfl⟩
    ·cases h2
   ·cases h2
  ·cases h2
theorem adB{c:wz}{args:List Operand}{k:S->Option X}(h:wA N σ d c args k=some r):∃ τ,k τ=some r/\bD (fun X k=>wA (X:=X) N σ d c args k) τ:=by
 unfold wA at h
 cases hN:Nat.blt d N with
 | false=>rw[hN]at h;cases h
 | true=>
  rw[hN,cond_true]at h
  obtain⟨ps,h2,pH⟩:=Le _ _ h
  split at h2
  ·rename_i p hp
   split at h2
   ·rename_i t g q l hl
    split at h2
    ·rename_i eL
     cases hb:(Nat.blt g 2&&Nat.ble p.1 p.2&&Nat.ble p.2 l.length)with
     | false=>rw[hb]at h2;cases h2
     | true=>
      rw[hb,cond_true]at h2
      refine⟨_,h2,fun X k=>?_⟩
      simp only[wA,hN,cond_true]
      exact(pH.at_ _).trans (by simp only[hp,hl,if_pos eL,hb,cond_true])
    ·cases h2
   ·cases h2
  ·cases h2
/-! Calls of functions that are run in the state of their caller. -/
def wC{X:Type}(N:Nat)(σ:S)(dst:Option Tmp)(c:pG)(xs:List A)(k:S->Option X):Option X:=c.run X N σ xs fun af y=>fN N af dst y k
def adC(p:Nat×Nat):A:=.az p.1 p.2
def BM(σ:S):List Operand->Option (List (Nat×Nat))
 | []=>some []
 | x :: xs=>match ak σ x,BM σ xs with
  | .az r j,some ps=>some ((r,j) :: ps)
  | _,_=>none
theorem adD(w:World)(o:Oper)(a:Act)(f:Nat)(cl:Operand)(vs:Array Value)(args:Array Operand)(cA:Array TypeId)(ho:o.op = .call { callee:=.value cl,args,argTypes:=cA })(hv:a.eval cl = .func (.func f) #[] vs)(he:enters P f):
  (execOp a.eval o).run P w = .ok (.enter f (args.map a.eval++vs)) w:=by
 obtain⟨fn,h1,h2,h3⟩:=he
 have Bo:¬ fn.name = "runtime.NumGoroutine":=by simpa using h2
 have vP:¬ fn.body=none:=by intro e;rw[e]at h3;cases h3
 simp[execOp,ho,resolve,hv,Deferred.ofValue,invoke,callFunc,Sem.run_bind,Sem.run,program,h1,Bo,vP]
def FB:A->Option (Nat×List A)
 | .fn f cap=>some (f,cap.map adC)
 | .jD f cs=>some (f,[.fL cs])
 | _=>none
theorem adE{x:A}{f:Nat}{ex:List A}{u:Value}(h:FB x=some (f,ex))(hu:RA w B lab ρ x u):∃ vs:Array Value,u = .func (.func f) #[] vs/\vs.size=ex.length/\∀ (j:Nat) y,ex[j]?=some y->RA w B lab ρ y (vs.getD j undef):=by
 unfold FB at h
 split at h
 ·rename_i f' cap
  injection h with h
  injection h with h1 h2
  subst h1 h2
  obtain⟨vs,hv,hs,eT⟩:=hu
  refine⟨vs,hv,by simp[hs],fun j y hy=>?_⟩
  rw[List.getElem?_map]at hy
  cases hp:cap[j]? with
  | none=>rw[hp]at hy;cases hy
  | some p=>
   rw[hp]at hy
   injection hy with hy
   subst hy
   obtain⟨b,off,h1,h2⟩:=eT _ p hp
   rw[Array.getD_eq_getD_getElem?,h2]
   exact⟨b,off,h1,rfl⟩
 ·injection h with h
  injection h with h1 h2
  subst h1 h2
  obtain⟨pv,e,hp⟩:=hu
  refine⟨#[pv],e,rfl,fun j y hy=>?_⟩
  rcases j with _ | j
  ·injection hy with hy
   subst hy
   exact hp
  ·cases hy
 ·cases h
theorem Rv{f:Nat}{cl:Operand}{ex:List A}{args:Array Operand}{cA:Array TypeId}{c:pG}{k:S->Option X}(ho:o.op = .call { callee:=.value cl,args,argTypes:=cA })(dn:FB (ak σ cl)=some (f,ex))(he:enters P f)(hc:kG P f c)
  (h:wC N σ o.dst c (args.toList.map (ak σ)++ex) k=some r):∃ af,k af=some r/\iJ P w0 N o σ af:=by
 unfold wC at h
 haveI:Inhabited Wd:=⟨w0⟩
 obtain⟨lT,y,hk,_,Bp⟩:=hc _ _ _ _ _ _ h
 have step:∀ a w K Q,R w0 N σ a w->(∀ v w' aj ρ',Rl w0 N aj ρ' lT a w'->RA w' w0.heap.size aj ρ' y v->K (a.put o.dst v) w')->o.wp P a w K Q:=by
  intro a w K Q hR hK
  obtain⟨lab,ρ,hR⟩:=hR
  obtain⟨vs,hv,hs,eT⟩:=adE dn (hR.ak cl)
  unfold Oper.wp
  rw[adD w o a f cl vs args cA ho hv he,Oper.upon_enter]
  refine(Bp w0 lab ρ a w _ hR (by simp[hs]) fun i=>?_).mono fun e w' kC=>?_
  ·by_cases hi:i<args.size
   ·have e1:(args.toList.map (ak σ)++ex)[i]?=some (ak σ args[i]):=by
     rw[List.getElem?_append_left (by simpa using hi),List.getElem?_map,Array.getElem?_toList,Array.getElem?_eq_getElem hi];rfl
    have e2:(args.map a.eval++vs).getD i undef=a.eval args[i]:=by
     rw[Array.getD_eq_getD_getElem?,Array.getElem?_append_left (by simpa using hi)]
     simp[hi]
    rw[e1,e2]
    exact hR.ak _
   ·have e0:(args.toList.map (ak σ)++ex)[i]?=ex[i-args.size]?:=by
     rw[List.getElem?_append_right (by simp;omega)]
     simp
    rw[e0]
    cases hp:ex[i-args.size]? with
    | none=>trivial
    | some p=>
     have e2:(args.map a.eval++vs).getD i undef=vs.getD (i-args.size) undef:=by
      rw[Array.getD_eq_getD_getElem?,Array.getElem?_append_right (by simp;omega),Array.getD_eq_getD_getElem?]
      simp
     rw[e2]
     exact eT _ p hp
  ·obtain⟨v,aj,ρ',rfl,aA,hy⟩:=kC
   exact hK v w' aj ρ' aA hy
 unfold fN at hk
 split at hk
 ·rename_i hd
  refine⟨lT,hk,fun a w K Q hR hK=>step a w K Q hR fun v w' aj ρ' aA _=>?_⟩
  rw[hd]
  exact hK _ _ ⟨aj,ρ',aA⟩
 ·rename_i d hd
  cases hN:Nat.blt d N with
  | false=>rw[hN]at hk;cases hk
  | true=>
   rw[hN,cond_true]at hk
   refine⟨_,hk,fun a w K Q hR hK=>step a w K Q hR fun v w' aj ρ' aA hy=>?_⟩
   rw[hd]
   exact hK _ _ ⟨aj,ρ',aA.set hy (by have:=Nat.le_of_ble_eq_true hN;omega)⟩
theorem Rw:∀ (xs:List Operand) (ps:List (Nat×Nat)),BM σ xs=some ps->ps.length=xs.length/\∀ lab ρ a w,Rl w0 N lab ρ σ a w->∀ (j:Nat) p,ps[j]?=some p->∃ b off,ρ p.1 = .blk b off/\(xs.map a.eval)[j]?=some (.pointer (some ⟨b,off+p.2,none⟩))
 | [],ps,h=>by
  simp only[BM,Option.some.injEq]at h
  subst h
  exact⟨rfl,fun _ _ _ _ _ j p hp=>by simp at hp⟩
 | x :: xs,ps,h=>by
  unfold BM at h
  split at h
  ·rename_i rr j lO h1 h2
   injection h with h
   subst h
   obtain⟨k1,k2⟩:=Rw xs lO h2
   refine⟨by simp[k1],fun lab ρ a w hR j' p hp=>?_⟩
   cases j' with
   | zero=>
    simp only[List.getElem?_cons_zero,Option.some.injEq]at hp
    subst hp
    have hv:=hR.ak x
    rw[h1]at hv
    obtain⟨b,off,e1,e2⟩:=hv
    exact⟨b,off,e1,by simp[e2]⟩
   | succ j'=>
    obtain⟨b,off,e1,e2⟩:=k2 lab ρ a w hR j' p (by simpa using hp)
    exact⟨b,off,e1,by simpa using e2⟩
  ·cases h
end
end Go.Proofs.YtmffpkippmkjbaaGreatDoor
namespace Go.Proofs.YtmffpkippmkjbaaGreatDoor
open Go.RowKit
set_option linter.unusedVariables false
def aQ.un(lab:aQ)(q:Nat):aQ:=fun b=>match lab b with
 | some k=>bif aM q k then none else some k
 | none=>none
def uE{X:Type}(P:Program)(σ:S)(q s i j:Nat)(t:TypeId)(x:A)(k:S->Option X):Option X:=
 match σ.m q with
 | some (.sl (.sl tc (o+2) qn l))=>bif Nat.beq s (aq tc)&&Nat.beq (full tc) 0 then ko P (σ.drop q) t (x.drop q) (.lf (.v (.sl tc 0 false ((l.take j).drop i)))) k else none
 | _=>none
section
variable {P:Program} {w w':World} {w0:Wd} {B N:Nat} {lab aj:aQ} {ρ ρ':Nat->Loc} {σ:S} {a:Act} {X:Type} {d q:Nat} {r:X} {o:Oper}
theorem Rx(aK:∀ b,lab b≠some []):Rel q lab (lab.un q):=
 ⟨aK,fun b h=>by simp[aQ.un,h],fun b k h hk=>by simp[aQ.un,h,hk]⟩
theorem RV.dS{tc:TC}{g:Nat}{qn:Bool}{l:List (T tc)}{A:Option Addr}{n c:Nat}(hr:RV w B lab [q] (.sl tc (g+2) qn l) (.slice A n c))(hf:full tc=0):RV w B (lab.un q) [] (.sl tc 0 false l) (.slice A n c)/\n=l.length:=by
 cases hr with
 | bO=>exact⟨.bO _ _ _,rfl⟩
 | bY=>exact⟨.bY _ _ _ _ _ (by omega),rfl⟩
 | cy=>exact⟨.bY _ _ _ _ _ (by omega),rfl⟩
 | ah _ _ _ _ _ _ _ _ _ ho=>omega
 | own=>
  rename_i b cs u hl hh hc hr hs hn hm
  have gH:∀ (i:Nat) (h:i<l.length) (j:Nat) (x:V),(enc tc 0 l[i])[j]?=some x->(enc tc g l[i])[j]?=some x/\x.plain=true:=by
   intro i h j x hx
   obtain⟨y,hy,rfl⟩:=ru tc g l[i] j x hx
   have hp:=EP tc g l[i] y (List.mem_of_getElem? hy)
   cases y with
   | sl t' o' q' l'=>
    have:=Nat.le_of_ble_eq_true (show Nat.ble (full t'+2) (full tc)=true from hp)
    omega
   | nil=>
    have:=JV tc g l[i] _ (List.mem_of_getElem? hy)
    cases this
   | _=>exact⟨hy,rfl⟩
  refine⟨.ah _ _ _ _ _ b 0 c u (by omega) (by simp[aQ.un,hl,aM]) (Array.getElem?_eq_some_iff.1 hh).1 (by omega) hn (fun i h j x hx=>?_) (fun i h j x hx=>?_),rfl⟩
  ·rw[Nat.zero_add,cell_of_row w b _ cs _ _ hh]
   exact hc i h j x (gH i h j x hx).1
  ·exact(hr i h j x (gH i h j x hx).1).tV (gH i h j x hx).2
theorem adF{s i j:Nat}{t:TypeId}{x:A}{k:S->Option X}(h:uE P σ q s i j t x k=some r):∃ af,k af=some r/\∀ lab ρ a w,Rl w0 N lab ρ σ a w->∀ u v,RA w w0.heap.size lab ρ x u->RA w w0.heap.size lab ρ (.view [q] s i j) v->
  ∃ w' aj,(Instr.storeAt t u v).run P w = .ok () w'/\Rl w0 N aj ρ af a w':=by
 unfold uE at h
 split at h
 ·rename_i tc g qn l hm
  cases hb:(Nat.beq s (aq tc)&&Nat.beq (full tc) 0)with
  | false=>rw[hb]at h;cases h
  | true=>
   rw[hb,cond_true]at h
   rw[Bool.and_eq_true]at hb
   obtain rfl:=Nat.eq_of_beq_eq_true hb.1
   have hf:=Nat.eq_of_beq_eq_true hb.2
   obtain⟨af,h1,hs⟩:=PZ (w0:=w0) (N:=N) h
   refine⟨af,h1,fun lab ρ a w hR u v hu hv=>?_⟩
   have ja:Rel q lab (lab.un q):=Rx hR.tX
   have mT:=hR.rel ja (fun b k hk=>by
    unfold aQ.un at hk
    cases hl:lab b with
    | none=>rw[hl]at hk;cases hk
    | some k'=>
     rw[hl]at hk
     simp only at hk
     cases hq:aM q k' with
     | true=>rw[hq]at hk;cases hk
     | false=>
      rw[hq,cond_false]at hk
      injection hk with hk
      subst hk
      exact⟨⟨_,rfl⟩,(hR.bV b k' hl).2.2⟩)
   obtain⟨A,n,c,ec,h3,h4,rfl⟩:=hv
   have bZ:=hR.root q _ hm
   generalize he:ax.sl (.sl tc (g+2) qn l)=z at bZ
   cases bZ with
   | blk=>cases he
   | mp=>cases he
   | gh=>cases he
   | sl vq y av hr=>
    injection he with he
    subst he
    have Lo:vq = .slice A n c:=by
     simp only[bC,av]at ec
     injection ec
    subst Lo
    obtain⟨h5,h6⟩:=hr.dS hf
    have h7:=(h5.part (by omega) h3 (by omega)).1
    obtain⟨w',aL,iM⟩:=hs _ _ _ _ mT u _ (hu.rel ja) (show RA _ _ _ _ (.lf (.v _)) _ from ⟨rfl,h7⟩)
    exact⟨w',_,aL,iM⟩
 ·cases h
theorem adG{s i j:Nat}{t:TypeId}{x:A}{k:S->Option X}(h:uE P σ q s i j t x k=some r):∃ τ,k τ=some r/\bD (fun X k=>uE (X:=X) P σ q s i j t x k) τ:=by
 unfold uE at h
 split at h
 ·rename_i tc g qn l hm
  cases hb:(Nat.beq s (aq tc)&&Nat.beq (full tc) 0)with
  | false=>rw[hb]at h;cases h
  | true=>
   rw[hb,cond_true]at h
   obtain⟨τ,h1,h2⟩:=Rc h
   exact⟨τ,h1,fun X k=>by simp only[uE,hm,hb,cond_true];exact h2.at_ _⟩
 ·cases h
end
end Go.Proofs.YtmffpkippmkjbaaGreatDoor
namespace Go.Proofs.YtmffpkippmkjbaaGreatDoor
open Go.RowKit
set_option linter.unusedVariables false
def Lf.dS(q:Nat)(y:V):Lf->Lf
 | .own [r]=>bif Nat.beq r q then .v y else .own [r]
 | x=>x.drop q
def A.dS(q:Nat)(y:V):A->A
 | .lf x=>.lf (x.dS q y)
 | .agg cs=>.agg (cs.map (Lf.dS q y))
 | .bJ xs=>.bJ (xs.map fun p=>(p.1,p.2.map (Lf.dS q y)))
 | x=>x.drop q
def ax.dS(q:Nat)(y:V):ax->ax
 | .blk cs=>.blk (cs.map (Lf.dS q y))
 | .gh xs=>.gh (xs.map (A.dS q y))
 | x=>x.drop q
def S.dS(σ:S)(q:Nat)(y:V):S:=⟨fun k=>(σ.t k).dS q y,fun r=>bif Nat.beq r q then none else (σ.m r).map (ax.dS q y)⟩
section
variable {P:Program} {w w':World} {w0:Wd} {B N:Nat} {lab aj:aQ} {ρ ρ':Nat->Loc} {σ:S} {a:Act} {X:Type} {d q:Nat} {r:X} {o:Oper} {y:V}
theorem cg.dS(bL:Rel q lab (lab.un q))(hq:∀ u,bC w lab ρ [q]=some u->RV w B (lab.un q) [] y u)(hy:y.ah=true){x:Lf}{u:Value}(h:cg w B lab ρ x u):cg w B (lab.un q) ρ (x.dS q y) u:=by
 unfold Lf.dS
 split
 ·rename_i r
  cases hb:Nat.beq r q with
  | true=>
   obtain rfl:=Nat.eq_of_beq_eq_true hb
   exact⟨hy,hq u h.2⟩
  | false=>
   have aK:r≠q:=by rintro rfl;simp at hb
   have hl:aM q [r]=false:=by simpa [aM]using fun e=>aK e
   have h1:cg w B (lab.un q) ρ (bif aM q [r]then .dead else .own [r]) u:=cg.rel bL h
   rw[hl]at h1
   exact h1
 ·exact cg.rel bL h
theorem cG.dS(bL:Rel q lab (lab.un q))(hq:∀ u,bC w lab ρ [q]=some u->RV w B (lab.un q) [] y u)(hy:y.ah=true){cs:List Lf}{us:Array Value}(h:cG w B lab ρ cs us):cG w B (lab.un q) ρ (cs.map (Lf.dS q y)) us:=by
 refine⟨by rw[List.length_map];exact h.1,fun j x hx=>?_⟩
 rw[List.getElem?_map]at hx
 cases hz:cs[j]? with
 | none=>rw[hz]at hx;cases hx
 | some z=>
  rw[hz]at hx
  injection hx with hx
  subst hx
  obtain⟨u,h1,h2⟩:=h.2 j z hz
  exact⟨u,h1,h2.dS bL hq hy⟩
theorem RP.dS(bL:Rel q lab (lab.un q))(hq:∀ u,bC w lab ρ [q]=some u->RV w B (lab.un q) [] y u)(hy:y.ah=true){p:Bool×List Lf}{u:Value}(h:RP w B lab ρ p u):RP w B (lab.un q) ρ (p.1,p.2.map (Lf.dS q y)) u:=by
 obtain⟨b,cs⟩:=p
 cases b with
 | true=>obtain⟨us,e,h⟩:=h;exact⟨us,e,cG.dS bL hq hy h⟩
 | false=>exact cG.dS bL hq hy h
theorem RA.dS(bL:Rel q lab (lab.un q))(hq:∀ u,bC w lab ρ [q]=some u->RV w B (lab.un q) [] y u)(hy:y.ah=true){x:A}{u:Value}(h:RA w B lab ρ x u):RA w B (lab.un q) ρ (x.dS q y) u:=by
 unfold A.dS
 split
 ·exact cg.dS bL hq hy h
 ·exact RP.dS bL hq hy (p:=(true,_)) h
 ·rename_i xs
  obtain⟨us,rfl,h1,h2⟩:=h
  refine⟨us,rfl,by rw[List.length_map];exact h1,fun j p hp=>?_⟩
  rw[List.getElem?_map]at hp
  cases hz:xs[j]? with
  | none=>rw[hz]at hp;cases hp
  | some z=>
   rw[hz]at hp
   injection hp with hp
   subst hp
   obtain⟨v,h3,h4⟩:=h2 j z hz
   exact⟨v,h3,h4.dS bL hq hy⟩
 ·exact RA.rel bL h
theorem cX.dS(bL:Rel q lab (lab.un q))(hq:∀ u,bC w lab ρ [q]=some u->RV w B (lab.un q) [] y u)(hy:y.ah=true){r:Nat}(hr:r≠q){x:ax}(h:cX w B lab ρ r x):cX w B (lab.un q) ρ r (x.dS q y):=by
 have oY:aM q [r]=false:=by simpa [aM]using fun e=>hr e
 unfold ax.dS
 split
 ·cases h with
  | blk b off cells e cs us fM hl hh hs hc=>
   refine .blk b off cells e _ us fM (bL.dL _ _ hl oY) hh (by rw[List.length_map];exact hs) (fun j x hx=>?_)
   rw[List.getElem?_map]at hx
   rename_i cs
   cases hz:cs[j]? with
   | none=>rw[hz]at hx;cases hx
   | some z=>
    rw[hz]at hx
    injection hx with hx
    subst hx
    exact⟨(hc j z hz).1,(hc j z hz).2.dS bL hq hy⟩
 ·cases h with
  | gh us xs fM hx=>
   refine .gh us _ fM fun j x hj=>?_
   rw[List.getElem?_map]at hj
   rename_i xs
   cases hz:xs[j]? with
   | none=>rw[hz]at hj;cases hj
   | some z=>
    rw[hz]at hj
    injection hj with hj
    subst hj
    exact RA.dS bL hq hy (hx j z hz)
 ·exact cX.rel bL hr h
theorem R.dS{tc:TC}{g:Nat}{qn:Bool}{l:List (T tc)}(hf:full tc=0)(hm:σ.m q=some (.sl (.sl tc (g+2) qn l)))(h:R w0 N σ a w):R w0 N (σ.dS q (.sl tc 0 false l)) a w:=by
 obtain⟨lab,ρ,hR⟩:=h
 have ja:Rel q lab (lab.un q):=Rx hR.tX
 have hq:∀ u,bC w lab ρ [q]=some u->RV w w0.heap.size (lab.un q) [] (.sl tc 0 false l) u:=by
  intro u hu
  have bZ:=hR.root q _ hm
  generalize he:ax.sl (.sl tc (g+2) qn l)=z at bZ
  cases bZ with
  | blk=>cases he
  | mp=>cases he
  | gh=>cases he
  | sl vq y av hr=>
   injection he with he
   subst he
   have Lo:vq=u:=by
    simp only[bC,av]at hu
    injection hu
   subst Lo
   have hs:=hr.ER (by simp[V.ah])
   cases vq with
   | slice A n c=>exact(hr.dS hf).1
   | _=>cases hs
 refine⟨lab.un q,ρ,hR.below,fun b k hk=>?_,fun r x hx=>?_,fun k=>RA.dS ja hq rfl (hR.tmp k),hR.size,hR.defers,hR.fix,hR.dM⟩
 ·unfold aQ.un at hk
  cases hl:lab b with
  | none=>rw[hl]at hk;cases hk
  | some k'=>
   rw[hl]at hk
   simp only at hk
   cases hq:aM q k' with
   | true=>rw[hq]at hk;cases hk
   | false=>
    rw[hq,cond_false]at hk
    injection hk with hk
    subst hk
    exact hR.bV b k' hl
 ·have hx:(bif Nat.beq r q then none else (σ.m r).map (ax.dS q (.sl tc 0 false l)))=some x:=hx
  cases hb:Nat.beq r q with
  | true=>rw[hb]at hx;cases hx
  | false=>
   have hrq:r≠q:=by rintro rfl;simp at hb
   rw[hb,cond_false]at hx
   cases qG:σ.m r with
   | none=>rw[qG]at hx;cases hx
   | some y=>
    rw[qG]at hx
    injection hx with hx
    subst hx
    exact cX.dS ja hq rfl hrq (hR.root r y qG)
def yR(σ:S)(x:A):S:=match x with
 | .lf (.own [q])=>(match σ.m q with
  | some (.sl (.sl .str (_+2) _ l))=>σ.dS q (.sl .str 0 false l)
  | _=>σ)
 | _=>σ
theorem R.yR{x:A}(h:R w0 N σ a w):R w0 N (Proofs.YtmffpkippmkjbaaGreatDoor.yR σ x) a w:=by
 unfold Proofs.YtmffpkippmkjbaaGreatDoor.yR
 split
 ·rename_i q
  split
  ·rename_i g qn l hm
   exact R.dS rfl hm h
  ·exact h
 ·exact h
end
end Go.Proofs.YtmffpkippmkjbaaGreatDoor
namespace Go.Proofs.YtmffpkippmkjbaaGreatDoor
open Go.RowKit
set_option linter.unusedVariables false
section
variable {P:Program} (w:World)
theorem adH(base:Nat)(t u ty e:TypeId)(i:TypeInfo)(ht:P.underlying t=some (.slice e))(hu:P.underlying u=some .string)(hi:P.info? e=some i)(hz:i.zero=some (.int .u8 0))
  (oT:i.size=1) (ez:i.bytes=1)
  (v:Value) (n:Nat) (xs:List Value) (eD:w.ownsRow base e 1 v n xs) (s:ByteArray)
  (n9:n+s.size<=maxLen) (oU:n+s.size<=140737488355328) (ri:base<=w.heap.size):
  ∃ v' w',(Builtin.append_ #[t,u] ty #[v,.string s]).run P w = .ok v' w'/\w'.ownsRow base e 1 v' (n+s.size) (xs++Lib.strCells s)/\w.grownBy w' v.ownBlock/\
   (v'.ownBlock=v.ownBlock\/v'.ownBlock=some w.heap.size):=by
 obtain⟨v',w',aL,h2,h3,h4⟩:=Lib.run_append_own_string (P:=P) w base t u ty e i ht hu hi hz oT ez v n xs eD s n9 oU ri
 refine⟨v',w',aL,h2,h3,?_⟩
 have arX:n+s.size<=9223372036854775807:=by simp only[maxLen]at n9;omega
 have hxl:xs.length=n:=by simpa using eD.1
 rcases eD.2 with ⟨rfl,rfl⟩ | ⟨g,cap,cur,rfl,hbg,hg,jy,Q5,cC,arY⟩
 ·by_cases hm:s.size=0
  ·exact .inl (by rw[h4.2 ⟨rfl,hm⟩])
  ·have hr:=run_append_nil_string (P:=P) w t u ty e i (.int .u8 0) ht hu hi hz s (by omega) (by omega) (by rw[ez];omega)
   rw[aL]at hr
   injection hr with hr
   subst hr
   exact .inr rfl
 ·by_cases adI:n+s.size<=cap
  ·have arZ:cur.size=cap:=by simpa using cC
   have hr:=Lib.run_append_room_string (P:=P) w t u ty e i ht hu hi oT g n cap cur hg s adI (by omega)
   rw[aL]at hr
   injection hr with hr
   subst hr
   exact .inl rfl
  ·have holds:∀ j u,xs[j]?=some u->w.cell? ((⟨g,0,none⟩:Addr).add j)=some u:=eD.cells (g:=g) rfl
   have hr:=Lib.run_append_grow_string (P:=P) w t u ty e i (.int .u8 0) ht hu hi hz ⟨g,0,none⟩ n cap xs (by rw[oT];simpa using hxl) holds s (by omega) (by omega) (by rw[ez];exact growslice_fits (by omega) (by omega))
   rw[aL]at hr
   injection hr with hr
   subst hr
   exact .inr rfl
end
def jb(s:ByteArray):List Int:=s.data.toList.map fun b=>(b.toNat:Int)
theorem BN(s:ByteArray):(jb s).length=s.size:=by
 rw[jb,List.length_map,Array.length_toList];rfl
theorem adJ(s:ByteArray):rM .u8 (jb s) (Lib.strCells s):=by
 intro i hi o j x hx
 have pz:i<(jb s).length:=hi
 rcases j with _ | j
 ·have hx:x = .int .u8 (jb s)[i]:=by cases hx;rfl
  subst hx
  refine⟨.int .u8 (jb s)[i],?_,rfl,fun w' B' aj q'=>.int _ _ _⟩
  have hs:i<s.data.toList.length:=by rw[jb,List.length_map]at pz;exact pz
  show (Lib.strCells s)[i*1+0]?=_
  rw[Nat.mul_one,Nat.add_zero,Lib.strCells,List.getElem?_map,List.getElem?_eq_getElem hs]
  simp[jb]
 ·cases hx
def mU(s:ByteArray):List (T .u8):=jb s
theorem Lp(s:ByteArray):(mU s).length=s.size:=BN s
theorem adK(s:ByteArray):rM .u8 (mU s) (Lib.strCells s):=adJ s
section
variable {P:Program} {w w':World} {w0:Wd} {B N:Nat} {lab aj:aQ} {ρ ρ':Nat->Loc} {σ:S} {a:Act} {X:Type} {d:Nat} {r:X}
theorem Rl.Ry{t ut e ty:TypeId}{i:TypeInfo}{rr o:Nat}{q:Bool}{l:List (T .u8)}{u:Value}{s:ByteArray}(h:Rl w0 N lab ρ σ a w)(hF:w0.F rr=none)(dX:P.underlying t=some (.slice e))(dN:P.underlying ut=some .string)(ht:tid .u8=e)(hi:P.info? e=some i)(hz:i.zero=some (.int .u8 0))
  (hsz:i.size=1) (ez:i.bytes=1) (hd:RV w w0.heap.size lab [rr] (.sl .u8 (o+2) q l) u) (hlen:l.length+s.size<1073741824):
  ∃ v' w' aj,(Builtin.append_ #[t,ut] ty #[u,.string s]).run P w = .ok v' w'/\Rl w0 N aj (aX ρ rr (.cS v')) ((σ.drop rr).root rr (.sl (.sl .u8 (o+2) false (l++mU s)))) a w'/\iT v'=true:=by
 subst ht
 obtain⟨xs,eD,mN,yF,ku⟩:=hd.Km rfl (B':=0) (fun b _=>Nat.zero_le b)
 have vL:=adK s
 have fY:=Lp s
 obtain⟨v',w',aL,iX,gK,gm⟩:=adH (P:=P) w 0 t ut ty (tid .u8) i dX dN hi hz hsz ez u l.length xs eD s (by unfold maxLen;omega) (by omega) (Nat.zero_le _)
 have rO:(l++mU s).length=l.length+s.size:=by rw[List.length_append,fY]
 rw[<-rO]at iX
 have qk:=ku.append vL eD.1
 have fD:iT v'=true:=by rcases iX.2 with ⟨rfl,_⟩ | ⟨_,_,_,rfl,_⟩ <;>rfl
 have jl:Below 0 w w':=(Below.refl 0 w).grown gK (Nat.zero_le _) (fun _ _=>Nat.zero_le _)
 have ep:gv w0 w w':=⟨jl.os,jl.tape,jl.output,jl.size,fun k hk hL=>gK.block k (Nat.lt_of_lt_of_le hk h.below.size) (fun e'=>by
  rcases(h.bV k _ (mN k e'.symm)).1 with h1 | h1
  ·exact absurd hk (Nat.not_lt.2 h1)
  ·exact h1 hL)⟩
 by_cases jG:v'.ownBlock=some w.heap.size
 ·have bU:w.heap.size<w'.heap.size:=by
   rcases iX.2 with ⟨rfl,_⟩ | ⟨b,cap,cs,rfl,_,hh,_⟩
   ·cases jG
   ·have:b=w.heap.size:=by simpa [Value.ownBlock]using jG
    subst this
    exact(Array.getElem?_eq_some_iff.1 hh).1
  refine⟨v',w',aX lab w.heap.size (some [rr]),aL,h.rH hF ep ⟨gK.size,fun b hb aK=>gK.block b hb (fun e'=>aK (mN b e'.symm)),fun b hb=>bB _ _ _ (by omega),fun b hb=>(h.bV b [] hb).2.2 rfl⟩ (fun b k hb hk=>?_) (fun r hr=>bB _ _ _ hr) (.sl v' _ (aZ _ _ _) (Bc iX qk (fun b hb=>?_))),fD⟩
  ·by_cases e:b=w.heap.size
   ·subst e
    rw[aZ]at hk
    injection hk with hk
    subst hk
    exact⟨bU,by simp⟩
   ·rw[bB _ _ _ e]at hk
    have:=(h.bV b k hk).2.1
    omega
  ·rw[jG]at hb
   injection hb with hb
   subst hb
   exact aZ _ _ _
 ·have Bd:v'.ownBlock=u.ownBlock:=by
   rcases gm with gm | gm
   ·exact gm
   ·exact absurd gm jG
  refine⟨v',w',lab,aL,h.rH hF ep ⟨gK.size,fun b hb aK=>gK.block b hb (fun e'=>aK (mN b e'.symm)),fun _ _=>rfl,fun b hb=>(h.bV b [] hb).2.2 rfl⟩ (fun b k hb hk=>?_) (fun r hr=>bB _ _ _ hr) (.sl v' _ (aZ _ _ _) (Bc iX qk (fun b hb=>mN b (by rw[<-Bd];exact hb)))),fD⟩
  have:=(h.bV b k hk).2.1
  omega
def BO(P:Program)(t ut:TypeId):Bool:=
 (match rJ P t with
 | some (e,.u8)=>(match P.info? e with
  | some i=>Nat.beq i.size 1&&Nat.beq i.bytes 1&&(match i.zero with
   | some (.int .u8 0)=>true
   | _=>false)
  | none=>false)
 | _=>false)&&(match P.underlying ut with
 | some .string=>true
 | _=>false)
def uF{X:Type}(P:Program)(N:Nat)(σ:S)(d:Nat)(t ut:TypeId)(x y:A)(k:S->Option X):Option X:=
 match y with
 | .lf (.v (.str s))=>bif BO P t ut then (match x with
  | .lf (.v .nil)=>bif aV (mU s).length then fP N σ d (.sl (.sl .u8 2 false (mU s))) (.lf (.own [d])) k else none
  | .lf (.own [r])=>(match σ.m r with
   | some (.sl (.sl .u8 (o+2) q l))=>bif Nat.blt d N&&(Nat.blt r N || Nat.ble 60000 r)&&aV (l.length+(mU s).length)then k (((σ.drop r).root r (.sl (.sl .u8 (o+2) false (l++mU s)))).set d (.lf (.own [r])))else none
   | _=>none)
  | _=>none)else none
 | _=>none
theorem adL{t ut:TypeId}(h:BO P t ut=true):∃ e i,P.underlying t=some (.slice e)/\tid .u8=e/\P.info? e=some i/\i.size=1/\i.bytes=1/\i.zero=some (.int .u8 0)/\P.underlying ut=some .string:=by
 unfold BO at h
 rw[Bool.and_eq_true]at h
 obtain⟨h1,h2⟩:=h
 have hu:P.underlying ut=some .string:=by
  split at h2
  ·assumption
  ·cases h2
 split at h1
 ·rename_i e he
  obtain⟨dX,ht,i,hi,hsz,ez⟩:=vJ he
  rw[hi]at h1
  simp only[Bool.and_eq_true]at h1
  obtain⟨⟨h3,h4⟩,h5⟩:=h1
  refine⟨e,i,dX,ht,hi,Nat.eq_of_beq_eq_true h3,Nat.eq_of_beq_eq_true h4,?_,hu⟩
  split at h5
  ·assumption
  ·cases h5
 ·cases h1
theorem adM{t ut ty:TypeId}{x y:A}{k:S->Option X}(h:uF P N σ d t ut x y k=some r):∃ af,k af=some r/\∀ lab ρ a w,Rl w0 N lab ρ σ a w->∀ u v,RA w w0.heap.size lab ρ x u->RA w w0.heap.size lab ρ y v->
  ∃ w' aj ρ' z,(Builtin.append_ #[t,ut] ty #[u,v]).run P w = .ok z w'/\Rl w0 N aj ρ' af (a.put (some d) z) w':=by
 unfold uF at h
 split at h
 ·rename_i s
  cases hb:BO P t ut with
  | false=>rw[hb]at h;cases h
  | true=>
   rw[hb,cond_true]at h
   obtain⟨e,i,dX,ht,hi,hsz,ez,hz,dN⟩:=adL hb
   split at h
   ·cases hL:aV (mU s).length with
    | false=>rw[hL]at h;cases h
    | true=>
     rw[hL,cond_true]at h
     have hL:(mU s).length<1073741824:=by simpa [aV]using hL
     obtain⟨hd,h3⟩:=kV h
     refine⟨_,h3,fun lab ρ a w hR u v hu hv=>?_⟩
     have hu:u = .slice none 0 0:=by cases hu.2;rfl
     subst hu
     obtain rfl:=hv.2.nE
     obtain⟨v',w',aj,aL,aA,fD⟩:=hR.Ry (ty:=ty) (rr:=d) (o:=0) (q:=false) (l:=[]) (s:=s) (hR.dM d (.inl hd)) dX dN ht hi hz hsz ez (.bO _ _ _) (by rw[Lp]at hL;simpa using hL)
     exact⟨w',aj,_,v',aL,aA.set ⟨fD,by simp[bC,aZ]⟩ hd⟩
   ·rename_i rr
    split at h
    ·rename_i o q l hm
     cases hL:(Nat.blt d N&&(Nat.blt rr N || Nat.ble 60000 rr)&&aV (l.length+(mU s).length))with
     | false=>rw[hL]at h;cases h
     | true=>
      rw[hL,cond_true]at h
      rw[Bool.and_eq_true,Bool.and_eq_true,Bool.or_eq_true]at hL
      have tY:l.length+(mU s).length<1073741824:=by simpa [aV]using hL.2
      have hd:d<N:=by have:=Nat.le_of_ble_eq_true hL.1.1;omega
      have ji:rr<N\/60000<=rr:=hL.1.2.imp (fun h=>by have:=Nat.le_of_ble_eq_true h;omega) (fun h=>Nat.le_of_ble_eq_true h)
      refine⟨_,h,fun lab ρ a w hR u v hu hv=>?_⟩
      obtain rfl:=hv.2.nE
      have bZ:=hR.root rr _ hm
      generalize he:ax.sl (.sl .u8 (o+2) q l)=x at bZ
      cases bZ with
      | blk=>cases he
      | mp=>cases he
      | gh=>cases he
      | sl uu y av hr=>
       injection he with he
       subst he
       have vH:uu=u:=by
        have h4:=hu.2
        simp only[bC,av]at h4
        injection h4
       subst vH
       obtain⟨v',w',aj,aL,aA,fD⟩:=hR.Ry (ty:=ty) (s:=s) (hR.dM rr ji) dX dN ht hi hz hsz ez hr (by rw[Lp]at tY;exact tY)
       exact⟨w',aj,_,v',aL,aA.set ⟨fD,by simp[bC,aZ]⟩ hd⟩
    ·cases h
   ·cases h
 ·cases h
theorem adN{t ut:TypeId}{x y:A}{k:S->Option X}(h:uF P N σ d t ut x y k=some r):∃ τ,k τ=some r/\bD (fun X k=>uF (X:=X) P N σ d t ut x y k) τ:=by
 unfold uF at h
 split at h
 ·rename_i s
  cases hb:BO P t ut with
  | false=>rw[hb]at h;cases h
  | true=>
   rw[hb,cond_true]at h
   split at h
   ·cases hL:aV (mU s).length with
    | false=>rw[hL]at h;cases h
    | true=>
     rw[hL,cond_true]at h
     obtain⟨h3,h4⟩:=qD h
     exact⟨_,h3,fun X k=>by simp only[uF,hb,hL,cond_true];exact h4 X k⟩
   ·rename_i rr
    split at h
    ·rename_i o q l hm
     cases hL:(Nat.blt d N&&(Nat.blt rr N || Nat.ble 60000 rr)&&aV (l.length+(mU s).length))with
     | false=>rw[hL]at h;cases h
     | true=>
      rw[hL,cond_true]at h
      exact⟨_,h,fun X k=>by simp only[uF,hb,hm,hL,cond_true]⟩
    ·cases h
   ·cases h
 ·cases h
end
end Go.Proofs.YtmffpkippmkjbaaGreatDoor
namespace Go.Proofs.YtmffpkippmkjbaaGreatDoor
open Go.RowKit
set_option linter.unusedVariables false
def uG(l:List (Int×Bool))(k:Int):Bool:=match l with
 | []=>false
 | p :: ps=>bif k==p.1 then p.2 else uG ps k
def qH(l:List (Int×Bool))(k:Int)(v:Bool):List (Int×Bool):=match l with
 | []=>[(k,v)]
 | p :: ps=>bif k==p.1 then (k,v) :: ps else p :: qH ps k v
def yS(P:Program)(t:TypeId):Bool:=match P.underlying t with
 | some (.map k e)=>(match P.underlying k with
  | some (.int .i64)=>true
  | _=>false)&&(match zeroOf P e with
  | some (.bool false)=>true
  | _=>false)
 | _=>false
def FC{X:Type}(N:Nat)(σ:S)(d:Nat)(k:S->Option X):Option X:=fP N σ d (.mp []) (.pk d mJ) k
def BP{X:Type}(P:Program)(σ:S)(t:TypeId)(x i:A)(k:A->Option X):Option X:=
 match x,i with
 | .pk r n,.lf (.v (.int .i64 key))=>bif Nat.beq n mJ&&yS P t then (match σ.m r with
  | some (.mp l)=>k (.lf (.v (.bool (uG l key))))
  | _=>none)else none
 | _,_=>none
def BQ{X:Type}(P:Program)(σ:S)(t:TypeId)(x i v:A)(k:S->Option X):Option X:=
 match x,i,v with
 | .pk r n,.lf (.v (.int .i64 key)),.lf (.v (.bool b))=>bif Nat.beq n mJ&&yS P t then (match σ.m r with
  | some (.mp l)=>k ⟨σ.t,aX σ.m r (some (.mp (qH l key b)))⟩
  | _=>none)else none
 | _,_,_=>none
section
variable {P:Program} {w w':World} {w0:Wd} {B N:Nat} {lab aj:aQ} {ρ ρ':Nat->Loc} {σ:S} {a:Act} {X:Type} {d:Nat} {r:X} {o:Oper}
theorem Rz{t:TypeId}(h:yS P t=true):∃ k e i,P.underlying t=some (.map k e)/\P.underlying k=some (.int .i64)/\P.info? e=some i/\i.zero=some (.bool false):=by
 unfold yS at h
 split at h
 ·rename_i k e he
  rw[Bool.and_eq_true]at h
  obtain⟨h1,h2⟩:=h
  have hk:P.underlying k=some (.int .i64):=by
   split at h1
   ·assumption
   ·cases h1
  have hz:zeroOf P e=some (.bool false):=by
   split at h2
   ·assumption
   ·cases h2
  unfold zeroOf at hz
  cases hi:P.info? e with
  | none=>rw[hi]at hz;cases hz
  | some i=>
   rw[hi]at hz
   exact⟨k,e,i,he,hk,hi,hz⟩
 ·cases h
theorem Rl.newObj{ob:Obj}{x:ax}{ρ':Nat->Loc}(h:Rl w0 N lab ρ σ a w)(hF:w0.F d=none)(av:∀ r,r≠d->ρ' r=ρ r)
  (hx:cX (w.alloc ob) w0.heap.size (aX lab w.heap.size (some [d])) ρ' d x):Rl w0 N (aX lab w.heap.size (some [d])) ρ' ((σ.drop d).root d x) a (w.alloc ob):=by
 refine h.rH hF (gv.P9 w0 w _ h.below.size) ⟨by simp,fun b hb _=>Below.heap_alloc w _ b hb,fun b hb=>bB _ _ _ (by omega),fun b hb=>(h.bV b [] hb).2.2 rfl⟩ (fun b k hb hk=>?_) av hx
 by_cases e:b=w.heap.size
 ·subst e
  rw[aZ]at hk
  injection hk with hk
  subst hk
  exact⟨by simp,by simp⟩
 ·rw[bB _ _ _ e]at hk
  have:=(h.bV b k hk).2.1
  omega
theorem adO{t:TypeId}{k:S->Option X}(h:FC N σ d k=some r):∃ af,k af=some r/\∀ lab ρ a w,Rl w0 N lab ρ σ a w->∃ w' aj ρ' v,(Instr.makeMap t none).run P w = .ok v w'/\Rl w0 N aj ρ' af (a.put (some d) v) w':=by
 obtain⟨hd,h⟩:=kV h
 refine⟨_,h,fun lab ρ a w hR=>?_⟩
 have aL:(Instr.makeMap t none).run P w = .ok (.map (some w.heap.size)) (w.alloc (.map #[] 0)):=rfl
 refine⟨_,aX lab w.heap.size (some [d]),aX ρ d (.blk w.heap.size 0),_,aL,(hR.newObj (hR.dM d (.inl hd)) (fun r hr=>bB _ _ _ hr) ?_).set ⟨w.heap.size,aZ _ _ _,(JX _).symm⟩ hd⟩
 exact .mp w.heap.size 0 #[] [] (aZ _ _ _) (aZ _ _ _) (heap_alloc_new w _) rfl
theorem adP{k:S->Option X}(h:FC N σ d k=some r):∃ τ,k τ=some r/\bD (fun X k=>FC (X:=X) N σ d k) τ:=by
 obtain⟨h1,h2⟩:=qD h
 exact⟨_,h1,h2⟩
def wD(l:List (Int×Bool)):List (Value×Value):=l.map fun p=>(.int .i64 p.1,.bool p.2)
theorem Lq:∀ (es:List MapEntry) (l:List (Int×Bool)) (k:Int) (n:Nat),es.map (fun e=>(e.key,e.val))=wD l->
  (Instr.findNow (.int .i64) (.int .i64 k) es n=some none/\uG l k=false/\∀ v,qH l k v=l++[(k,v)])\/
  (∃ i b,Instr.findNow (.int .i64) (.int .i64 k) es n=some (some (n+i,.bool b))/\uG l k=b/\∃ h:i<es.length,es[i].key = .int .i64 k/\∀ v,wD (qH l k v)=(es.modify i fun e=>{ e with key:=.int .i64 k,val:=.bool v }).map (fun e=>(e.key,e.val)))
 | [],[],k,n,_=>.inl ⟨rfl,rfl,fun v=>rfl⟩
 | [],_ :: _,k,n,h=>by cases h
 | _ :: _,[],k,n,h=>by cases h
 | e :: es,p :: l,k,n,h=>by
  have h:(e.key,e.val) :: es.map (fun e=>(e.key,e.val))=(.int .i64 p.1,.bool p.2) :: wD l:=h
  injection h with h1 h2
  injection h1 with hk hv
  have hs:Instr.sameNow (.int .i64) (.int .i64 k) e.key=some (k==p.1):=by
   rw[hk]
   simp[Instr.sameNow]
  cases hb:(k==p.1)with
  | true=>
   have FD:k=p.1:=by simpa using hb
   refine .inr ⟨0,p.2,?_,by simp only[uG,hb,cond_true],by simp,by simp[hk,FD],fun v=>?_⟩
   ·simp only[Instr.findNow,hs,hb,hv]
    rfl
   ·simp only[qH,hb,cond_true]
    simp only[List.modify_zero_cons,List.map_cons]
    show (Value.int .i64 k,Value.bool v) :: wD l=_
    rw[h2]
  | false=>
   rcases Lq es l k (n+1) h2 with ⟨a1,a2,a3⟩ | ⟨i,b,a1,a2,hi,a3,a4⟩
   ·refine .inl ⟨?_,by simp only[uG,hb,cond_false,a2],fun v=>by simp only[qH,hb,cond_false,a3];rfl⟩
    simp only[Instr.findNow,hs,hb]
    exact a1
   ·refine .inr ⟨i+1,b,?_,by simp only[uG,hb,cond_false,a2],by simpa using hi,by simpa using a3,fun v=>?_⟩
    ·simp only[Instr.findNow,hs,hb]
     rw[a1]
     congr 3
     omega
    ·simp only[qH,hb,cond_false]
     simp only[List.modify_succ_cons,List.map_cons]
     show (Value.int .i64 p.1,Value.bool p.2) :: wD (qH l k v)=_
     rw[a4,hk,hv]
theorem FE{kt:TypeId}{k:Int}{es:List MapEntry}{z:Option (Nat×Value)}(hk:P.underlying kt=some (.int .i64))(h:Instr.findNow (.int .i64) (.int .i64 k) es 0=some z):(Instr.findKey kt (.int .i64 k) es).run P w = .ok z w:=by
 unfold Instr.findKey
 simp only[Sem.run_bind,run_underlying hk,Result.andThen_ok,h]
 rfl
theorem RB{t:TypeId}{x i:A}{k:A->Option X}(h:BP P σ t x i k=some r):∃ v,k v=some r/\bD (fun X k=>BP (X:=X) P σ t x i k) v/\∀ lab ρ a w,Rl w0 N lab ρ σ a w->∀ u z,RA w w0.heap.size lab ρ x u->RA w w0.heap.size lab ρ i z->
  ∃ y,(Instr.lookup t u z false).run P w = .ok y w/\RA w w0.heap.size lab ρ v y:=by
 unfold BP at h
 split at h
 ·rename_i rr n key
  cases hb:(Nat.beq n mJ&&yS P t)with
  | false=>rw[hb]at h;cases h
  | true=>
   rw[hb,cond_true]at h
   split at h
   ·rename_i l hm
    refine⟨_,h,fun X k=>by simp only[BP,hb,cond_true,hm],fun lab ρ a w hR u z hu hz=>?_⟩
    rw[Bool.and_eq_true]at hb
    obtain⟨kt,et,ti,ht,wE,hi,RC⟩:=Rz hb.2
    have hn:=Nat.eq_of_beq_eq_true hb.1
    subst hn
    obtain⟨b,av,rfl⟩:=hu
    have hz:z = .int .i64 key:=by
     have h2:=hz.2
     cases h2
     rfl
    subst hz
    have bZ:=hR.root rr _ hm
    generalize he:ax.mp l=y at bZ
    cases bZ with
    | blk=>cases he
    | sl=>cases he
    | gh=>cases he
    | mp b' c es l' fF hl hh FF=>
     injection he with he
     subst he
     rw[av]at fF
     injection fF with e1 _
     subst e1
     refine⟨.bool (uG l key),?_,rfl,.bool _ _⟩
     rw[JX]
     unfold Instr.lookup
     simp only[Sem.run_bind,run_underlying ht,Result.andThen_ok,MapKept.run_getObj_map hh,Sem.run_pure]
     rw[MapKept.run_checkKey (k:=.int .i64 key) wE rfl]
     simp only[Result.andThen_ok]
     rcases Lq es.toList l key 0 FF with ⟨a1,a2,_⟩ | ⟨i,v,a1,a2,_⟩
     ·rw[FE wE a1]
      have E2:(zeroValue et).run P w = .ok (.bool false) w:=by simp[zeroValue,typeInfo,hi,RC]
      simp only[Result.andThen_ok,a2,Sem.run_bind,Sem.run_pure,E2]
      rfl
     ·rw[FE wE a1]
      simp only[Result.andThen_ok,a2,Sem.run_bind,Sem.run_pure]
      rfl
   ·cases h
 ·cases h
theorem RD{t:TypeId}{x i v:A}{k:S->Option X}(h:BQ P σ t x i v k=some r):∃ af,k af=some r/\bD (fun X k=>BQ (X:=X) P σ t x i v k) af/\∀ lab ρ a w,Rl w0 N lab ρ σ a w->∀ u z y,RA w w0.heap.size lab ρ x u->RA w w0.heap.size lab ρ i z->RA w w0.heap.size lab ρ v y->
  ∃ w',(Instr.mapUpdate t u z y).run P w = .ok () w'/\Rl w0 N lab ρ af a w':=by
 unfold BQ at h
 split at h
 ·rename_i rr n key bv
  cases hb:(Nat.beq n mJ&&yS P t)with
  | false=>rw[hb]at h;cases h
  | true=>
   rw[hb,cond_true]at h
   split at h
   ·rename_i l hm
    refine⟨_,h,fun X k=>by simp only[BQ,hb,cond_true,hm],fun lab ρ a w hR u z y hu hz hy=>?_⟩
    rw[Bool.and_eq_true]at hb
    obtain⟨kt,et,ti,ht,wE,hi,RC⟩:=Rz hb.2
    have hn:=Nat.eq_of_beq_eq_true hb.1
    subst hn
    obtain⟨b,av,rfl⟩:=hu
    have hz:z = .int .i64 key:=by
     have h2:=hz.2
     cases h2
     rfl
    subst hz
    have hy:y = .bool bv:=by
     have h2:=hy.2
     cases h2
     rfl
    subst hy
    have bZ:=hR.root rr _ hm
    generalize he:ax.mp l=y at bZ
    cases bZ with
    | blk=>cases he
    | sl=>cases he
    | gh=>cases he
    | mp b' c es l' fF hl hh FF=>
     injection he with he
     subst he
     rw[av]at fF
     injection fF with e1 _
     subst e1
     have Fy:b<w.heap.size:=(Array.getElem?_eq_some_iff.1 hh).1
     have Fq:∀ (yT:Array MapEntry) (c':Nat),yT.toList.map (fun e=>(e.key,e.val))=wD (qH l key bv)->Rl w0 N lab ρ ⟨σ.t,aX σ.m rr (some (.mp (qH l key bv)))⟩ a { w with heap:=w.heap.setIfInBounds b (.map yT c') }:=by
      intro yT c' adQ
      have hW:qg w { w with heap:=w.heap.setIfInBounds b (.map yT c') } b:=by
       refine⟨by simp,rfl,rfl,rfl,fun k hk=>?_⟩
       show (w.heap.setIfInBounds b _)[k]?=_
       rw[Array.getElem?_setIfInBounds_ne (Ne.symm hk)]
      have hC:oh w { w with heap:=w.heap.setIfInBounds b (.map yT c') } lab ρ:=by
       intro k ad v ha hv fD
       obtain⟨j',i',s',q,rfl,hq,_,_,J3⟩:=tU k ad ha
       have aK:ad.block≠b:=by
        intro e
        rw[e,hl]at hq
        injection hq with hq
        obtain⟨v',dh⟩:=J3 rr hq.symm
        rw[av]at dh
        cases dh
       exact(World.cell?_of_block (hW.block _ aK)).trans hv
      refine hR.wrote hW hl hC fun r' y hy=>?_
      by_cases ji:r'=rr
      ·subst ji
       rw[aZ]at hy
       injection hy with hy
       subst hy
       refine .mp b c' yT _ av hl ?_ adQ
       show (w.heap.setIfInBounds b _)[b]?=_
       rw[Array.getElem?_setIfInBounds_self]
       simp[Fy]
      ·rw[bB _ _ _ ji]at hy
       exact(hR.root r' y hy).wrote hW hl hC (J2 ji)
     rw[JX]
     unfold Instr.mapUpdate
     simp only[Sem.run_bind,run_underlying ht,Result.andThen_ok,MapKept.run_getObj_map hh,Sem.run_pure]
     rw[MapKept.run_checkKey (k:=.int .i64 key) wE rfl]
     simp only[Result.andThen_ok]
     rcases Lq es.toList l key 0 FF with ⟨a1,a2,a3⟩ | ⟨i,v,a1,a2,pz,a3,a4⟩
     ·rw[FE wE a1]
      simp only[Result.andThen_ok]
      rw[MapKept.run_setObj_map _ hh]
      refine⟨_,rfl,Fq _ _ ?_⟩
      rw[a3]
      simp only[Array.toList_push,List.map_append,FF,wD]
      rfl
     ·rw[FE wE a1]
      simp only[Result.andThen_ok,Nat.zero_add]
      have rI:(es[i]?.map (·.key)).getD (.int .i64 key) = .int .i64 key:=by
       have h1:i<es.size:=by simpa using pz
       rw[Array.getElem?_eq_getElem h1]
       simpa using a3
      rw[rI]
      have gB:(Instr.keyThatStays (.int .i64 key) (.int .i64 key)).run P w = .ok (.int .i64 key) w:=by
       unfold Instr.keyThatStays
       simp[Instr.sameBits]
      simp only[Sem.run_bind]
      rw[gB]
      simp only[Result.andThen_ok]
      rw[MapKept.run_setObj_map _ hh]
      refine⟨_,rfl,Fq _ _ ?_⟩
      rw[a4]
      simp
   ·cases h
 ·cases h
end
end Go.Proofs.YtmffpkippmkjbaaGreatDoor
namespace Go.Proofs.YtmffpkippmkjbaaGreatDoor
open Go.RowKit
set_option linter.unusedVariables false
def BR(t:TypeId)(d:Nat):Bool:=[].any fun(p:Nat×Nat)=>Nat.beq p.1 t&&Nat.beq p.2 d
def wF(dst:Option Tmp)(t:TypeId):Bool:=match dst with
 | some d=>BR t d
 | none=>false
def wG{X:Type}(P:Program)(N:Nat)(σ:S)(d:Nat)(t:TypeId)(x y:A)(k:S->Option X):Option X:=
 match rJ P t with
 | some (e,tc)=>bif Nat.beq (full tc) 0&&(zeroOf P e).any (fun z=>Nat.beq z.cells.size (aq tc))then mK σ y fun yv=>(match yv.E0 tc with
  | none=>none
  | some l2=>match x with
   | .lf (.own [r])=>(match σ.m r with
    | some (.sl (.sl t' (o+2) true l))=>if h:t'=tc then (bif !rU l2&&aV (l.length+l2.length)then fP N σ d (.sl (.sl tc (o+2) false ((h ▸ l)++l2))) (.lf (.own [d])) k else none)else none
    | _=>none)
   | _=>none)else none
 | none=>none
section
variable {P:Program} {w w':World} {w0:Wd} {B N:Nat} {lab aj:aQ} {ρ ρ':Nat->Loc} {σ:S} {a:Act} {X:Type} {d:Nat} {r:X}
theorem Rl.adR{t e ty:TypeId}{tc:TC}{i:TypeInfo}{z:Value}{rr o g:Nat}{qn:Bool}{l l2:List (T tc)}{u v:Value}{q':List Nat}{Bx:Nat}{Ko:aQ}(h:Rl w0 N lab ρ σ a w)(hF:w0.F d=none)(dX:P.underlying t=some (.slice e))(ht:tid tc=e)(hi:P.info? e=some i)(hz:i.zero=some z)
  (hsz:i.size=aq tc) (ez:i.bytes<=65536) (ee:z.cells.size=aq tc) (hf:full tc=0) (hd:RV w w0.heap.size lab [rr] (.sl tc (o+2) true l) u) (hs:RV w Bx Ko q' (.sl tc g qn l2) v) (aK:l2≠[]) (hlen:l.length+l2.length<1073741824):
  ∃ v' w' aj,(Builtin.append_ #[t,t] ty #[u,v]).run P w = .ok v' w'/\Rl w0 N aj (aX ρ d (.cS v')) ((σ.drop d).root d (.sl (.sl tc (o+2) false (l++l2)))) a w'/\iT v'=true:=by
 subst ht
 obtain⟨xs,eD,mN,yF,ku⟩:=hd.Km hf (B':=0) (fun b _=>Nat.zero_le b)
 obtain⟨A,c,news,rfl,rN,iL,vL⟩:=hs.reads hf
 have eK:(l.length+l2.length)*i.bytes<=140737488355328:=by
  have h1:(l.length+l2.length)*i.bytes<=1073741824*65536:=Nat.mul_le_mul (by omega) ez
  omega
 have BC:0<l2.length:=List.length_pos_iff.2 aK
 obtain⟨v',w',aL,iX,gK,gm⟩:=Ey (P:=P) w 0 t ty (tid tc) i z (aq tc) i.bytes dX hi hz hsz rfl ee (nA tc) u l.length xs eD _ A l2.length c news rN iL (by unfold maxLen;omega) eK (Nat.zero_le _)
 have rO:(l++l2).length=l.length+l2.length:=List.length_append
 have hex:∃ b,u = .slice (some ⟨b,0,none⟩) l.length l.length:=by
  cases hd with
  | ah _ _ _ _ _ _ _ _ _ ho=>omega
  | cy _ _ _ _ _ ho=>omega
  | own _ _ _ _ _ b cap cs us hl hh hs hn hm hc hr=>exact⟨b,by rw[hm.2 rfl]⟩
 obtain⟨b,rfl⟩:=hex
 obtain⟨b',mj,rfl,_,cC⟩:=rN.2 BC
 have adS:∀ j x,news[j]?=some x->w.cell? ((⟨b',mj,none⟩:Addr).add j)=some x:=by
  intro j x hx
  have n8:(⟨b',mj,none⟩:Addr).add j=⟨b',mj+j,none⟩:=by unfold Addr.add;split <;>simp_all
  rw[n8]
  exact cC j x hx
 have RE:=run_append_grow (P:=P) w t ty (tid tc) i z dX hi hz ⟨b,0,none⟩ l.length l.length xs (by rw[hsz];exact eD.1) (eD.cells (g:=b) rfl) ⟨b',mj,none⟩ l2.length c news (by rw[hsz];exact rN.1) adS (by omega) (by omega) (growslice_fits (by omega) eK)
 rw[aL]at RE
 injection RE with e1 e2
 have hold:∀ k,k<w.heap.size->w'.heap[k]?=w.heap[k]?:=by
  intro k hk
  rw[e2]
  exact heap_alloc_old w.drew _ hk
 have hvb:v'.ownBlock=some w.heap.size:=by rw[e1];rfl
 have bU:w.heap.size<w'.heap.size:=by rw[e2];simp
 rw[<-rO]at iX
 have qk:=ku.append vL eD.1
 have fD:iT v'=true:=by rw[e1];rfl
 have jl:Below 0 w w':=(Below.refl 0 w).grown gK (Nat.zero_le _) (fun _ _=>Nat.zero_le _)
 have ep:gv w0 w w':=⟨jl.os,jl.tape,jl.output,jl.size,fun k hk hL=>hold k (Nat.lt_of_lt_of_le hk h.below.size)⟩
 refine⟨v',w',aX lab w.heap.size (some [d]),aL,h.rH hF ep ⟨gK.size,fun b hb _=>hold b hb,fun b hb=>bB _ _ _ (by omega),fun b hb=>(h.bV b [] hb).2.2 rfl⟩ (fun b k hb hk=>?_) (fun r hr=>bB _ _ _ hr) (.sl v' _ (aZ _ _ _) (Bc iX qk (fun b hb=>?_))),fD⟩
 ·by_cases e:b=w.heap.size
  ·subst e
   rw[aZ]at hk
   injection hk with hk
   subst hk
   exact⟨bU,by simp⟩
  ·rw[bB _ _ _ e]at hk
   have:=(h.bV b k hk).2.1
   omega
 ·rw[hvb]at hb
  injection hb with hb
  subst hb
  exact aZ _ _ _
theorem adT{t ty:TypeId}{x y:A}{k:S->Option X}(h:wG P N σ d t x y k=some r):∃ af,k af=some r/\∀ lab ρ a w,Rl w0 N lab ρ σ a w->∀ u v,RA w w0.heap.size lab ρ x u->RA w w0.heap.size lab ρ y v->
  ∃ w' aj ρ' z,(Builtin.append_ #[t,t] ty #[u,v]).run P w = .ok z w'/\Rl w0 N aj ρ' af (a.put (some d) z) w':=by
 unfold wG at h
 split at h
 ·rename_i e tc fQ
  obtain⟨dX,ht,i,hi,hsz,ez⟩:=vJ fQ
  cases hc:(Nat.beq (full tc) 0&&(zeroOf P e).any (fun z=>Nat.beq z.cells.size (aq tc)))with
  | false=>rw[hc]at h;cases h
  | true=>
   rw[hc,cond_true]at h
   rw[Bool.and_eq_true]at hc
   have hf:=Nat.eq_of_beq_eq_true hc.1
   obtain⟨z,hz,ee⟩:=(Option.any_eq_true _ _).1 hc.2
   have ee:=Nat.eq_of_beq_eq_true ee
   have nI:i.zero=some z:=by unfold zeroOf at hz;simpa [hi]using hz
   obtain⟨yv,E4,h2⟩:=Qb (w0:=w0) (N:=N) h
   clear h
   split at h2
   ·cases h2
   ·rename_i l2 fY
    split at h2
    ·rename_i rr
     split at h2
     ·rename_i t' o l hm
      split at h2
      ·rename_i eL
       subst eL
       cases hL:(!rU l2&&aV (l.length+l2.length))with
       | false=>rw[hL]at h2;cases h2
       | true=>
        rw[hL,cond_true]at h2
        rw[Bool.and_eq_true]at hL
        have aK:l2≠[]:=by rintro rfl;cases hL.1
        have tY:l.length+l2.length<1073741824:=by simpa [aV]using hL.2
        obtain⟨hd,h3⟩:=kV h2
        refine⟨_,h3,fun lab ρ a w hR u v hu hv=>?_⟩
        obtain⟨q',_,_,dh⟩:=E4 lab ρ a w hR v hv
        obtain⟨g,qn,dh⟩:=Kp fY dh
        have bZ:=hR.root rr _ hm
        generalize he:ax.sl (.sl t' (o+2) true l)=x at bZ
        cases bZ with
        | blk=>cases he
        | mp=>cases he
        | gh=>cases he
        | sl uu y av hr=>
         injection he with he
         subst he
         have vH:uu=u:=by
          have h4:=hu.2
          simp only[bC,av]at h4
          injection h4
         subst vH
         obtain⟨v',w',aj,aL,aA,fD⟩:=hR.adR (ty:=ty) (d:=d) (hR.dM d (.inl hd)) dX ht hi nI hsz ez ee hf hr dh aK tY
         exact⟨w',aj,_,v',aL,aA.set ⟨fD,by simp[bC,aZ]⟩ hd⟩
      ·cases h2
     ·cases h2
    ·cases h2
 ·cases h
theorem adU{t:TypeId}{x y:A}{k:S->Option X}(h:wG P N σ d t x y k=some r):∃ τ,k τ=some r/\bD (fun X k=>wG (X:=X) P N σ d t x y k) τ:=by
 unfold wG at h
 split at h
 ·rename_i e tc fQ
  cases hc:(Nat.beq (full tc) 0&&(zeroOf P e).any (fun z=>Nat.beq z.cells.size (aq tc)))with
  | false=>rw[hc]at h;cases h
  | true=>
   rw[hc,cond_true]at h
   obtain⟨yv,h2,hd⟩:=Lb h
   clear h
   split at h2
   ·cases h2
   ·rename_i l2 fY
    split at h2
    ·rename_i rr
     split at h2
     ·rename_i t' o l hm
      split at h2
      ·rename_i eL
       subst eL
       cases hL:(!rU l2&&aV (l.length+l2.length))with
       | false=>rw[hL]at h2;cases h2
       | true=>
        rw[hL,cond_true]at h2
        obtain⟨h3,h4⟩:=qD h2
        exact⟨_,h3,fun X k=>by
         simp only[wG,fQ,hc,cond_true]
         exact(hd.at_ _).trans (by simp only[fY,hm,dif_pos,hL,cond_true];exact h4 X k)⟩
      ·cases h2
     ·cases h2
    ·cases h2
 ·cases h
end
end Go.Proofs.YtmffpkippmkjbaaGreatDoor
namespace Go.Proofs.YtmffpkippmkjbaaGreatDoor
open Go.RowKit
set_option linter.unusedVariables false
abbrev cY:=Nat->Option oE
def ej(P:Program)(Φ:cY):Prop:=∀ f c,Φ f=some c->enters P f/\Rr P f c
def dz{X:Type}(o:Oper)(k:Nat->Option X):Option X:=
 match o.dst with
 | some d=>k d
 | none=>none
def ek:Op->Bool
 | .move _ | .assign _ | .pick .. | .build .. | .load .. | .binOp .. | .unOp .. | .convert .. | .fieldAddr .. | .field .. | .indexAddr .. | .index .. | .extract .. | .nilCheck _=>true
 | .call ⟨.builtin .len,_,_⟩ | .call ⟨.builtin .max,_,_⟩ | .call ⟨.builtin .min,_,_⟩=>true
 | .slice _ _ _ _ none=>true
 | _=>false
def bS{X:Type}(P:Program)(σ:S)(op:Op)(k:A->Option X):Option X:=
 match op with
 | .move x=>k (ak σ x)
 | .assign x=>k (ak σ x)
 | .pick c x y=>(match ak σ c with
  | .lf (.v (.bool b))=>bif b then k (ak σ x)else k (ak σ y)
  | _=>none)
 | .build t parts=>ql P σ t parts.toList k
 | .load t x=>gw P σ t (ak σ x) k
 | .binOp op t x y _=>iY P σ op t (ak σ x) (ak σ y) k
 | .unOp op _ x=>vK (ak σ x) fun a=>yA op a fun z=>k (.lf (.v z))
 | .convert s d x=>kW P σ s d (ak σ x) k
 | .fieldAddr s x f=>oX P s (ak σ x) f k
 | .field s x f=>rQ P s (ak σ x) f k
 | .indexAddr t x i=>lJ P σ t (ak σ x) (ak σ i) k
 | .index t x i=>ua P t (ak σ x) (ak σ i) k
 | .extract x i=>vG (ak σ x) i k
 | .nilCheck x=>Fw (ak σ x) k
 | .call ⟨.builtin .len,⟨[x]⟩,⟨[t]⟩⟩=>kr P σ t (ak σ x) k
 | .call ⟨.builtin .max,⟨[x,y]⟩,⟨[_,_]⟩⟩=>vN true (ak σ x) (ak σ y) k
 | .call ⟨.builtin .min,⟨[x,y]⟩,⟨[_,_]⟩⟩=>vN false (ak σ x) (ak σ y) k
 | .slice t x lo hi none=>mO P σ t (ak σ x) (lo.map (ak σ)) (hi.map (ak σ)) k
 | _=>none
def fS{X:Type}(P:Program)(N:Nat)(Φ:cY)(σ:S)(o:Oper)(k:S->Option X):Option X:=
 match o.op with
 | .alloc e=>dz o fun d=>oy P N σ d e k
 | .box e x=>dz o fun d=>wj N σ d (ak σ x) k
 | .buildSlice t len parts=>dz o fun d=>bif kZ t then uC P N σ d t len parts.toList k else vM P N σ d t len parts.toList k
 | .store t x y=>(match o.dst with
  | none=>bif wo (ak σ x) (ak σ y)then wm P σ t (ak σ x) (ak σ y) k else ko P σ t (ak σ x) (ak σ y) k
  | some _=>none)
 | .makeSlice t l c=>dz o fun d=>vI P N σ d t (ak σ l) (ak σ c) k
 | .call ⟨.value (.func f),args,_⟩=>(match Φ f with
  | some (.p c)=>dz o fun d=>rY N σ d c args.toList k
  | some (.m c)=>jP N σ o.dst c args.toList k
  | some (.v c)=>dz o fun d=>wA N σ d c args.toList k
  | some (.n F)=>dz o fun d=>(match args.toList with
   | [x]=>wv N σ d F (ak σ x) k
   | _=>none)
  | some (.i c)=>wC N σ o.dst c (args.toList.map (ak σ)++[]) k
  | some (.d c)=>we N σ o.dst c args.toList k
  | some (.q c)=>dz o fun d=>um N σ d c args.toList k
  | none=>none)
 | .call ⟨.builtin .append,⟨[x,y]⟩,⟨[t,t']⟩⟩=>bif Nat.beq t t' then dz o fun d=>bif kZ t then uD P N σ d t (ak σ x) (ak σ y) k else bif BR t d then wG P N σ d t (ak σ x) (ak σ y) k else mM P N σ d t (ak σ x) (ak σ y) k else dz o fun d=>uF P N σ d t t' (ak σ x) (ak σ y) k
 | .makeMap _ none=>dz o fun d=>FC N σ d k
 | .lookup t x i false=>BP P σ t (ak σ x) (ak σ i) fun v=>fN N σ o.dst v k
 | .mapUpdate t x i v=>(match o.dst with
  | none=>BQ P σ t (ak σ x) (ak σ i) (ak σ v) k
  | some _=>none)
 | .call ⟨.value (.tmp t),args,_⟩=>(match FB (ak σ (.tmp t))with
  | some (f,ex)=>(match Φ f with
   | some (.i c)=>wC N σ o.dst c (args.toList.map (ak σ)++ex) k
   | _=>none)
  | none=>none)
 | .makeFunc (.func f) ⟨[]⟩ BS=>(match BM σ BS.toList with
  | some ps=>fN N σ o.dst (.fn f ps) k
  | none=>none)
 | _=>none
def ct{X:Type}(P:Program)(N:Nat)(Φ:cY)(σ:S)(o:Oper)(k:S->Option X):Option X:=
 bif ek o.op then bS P σ o.op fun v=>fN N σ o.dst v k else fS P N Φ σ o k
def mV{X:Type}(P:Program)(N:Nat)(Φ:cY)(σ:S)(o:Oper)(k:S->Option X):Option X:=
 match o.op,o.dst with
 | .store t x y,none=>(match ak σ y with
  | .view [q] s i j=>uE P σ q s i j t (ak σ x) k
  | _=>ct P N Φ σ o k)
 | .slice _ x _ _ none,some _=>ct P N Φ (yR σ (ak σ x)) o k
 | _,_=>ct P N Φ σ o k
def en(σ:S)(ops:Array Oper)(o:Oper):Option Bool:=
 match o.guard with
 | none=>some true
 | some (j,want)=>match (ops[j]?).bind (·.dst)with
  | some t=>(match σ.t t with
   | .lf (.v (.bool b))=>some (b==want)
   | .skip=>some false
   | _=>none)
  | none=>none
def FG(ops:Array Oper)(j:Nat):Bool:=ops.toList.any fun o=>match o.guard with
 | some (i,_)=>Nat.beq i j
 | none=>false
def lU{X:Type}(σ:S)(dst:Option Tmp)(g:Bool)(k:S->Option X):Option X:=
 bif g then (match dst with
  | some d=>(match σ.t d with
   | .lf (.v (.bool b))=>bif b then k (σ.set d (.lf (.v (.bool true))))else k (σ.set d (.lf (.v (.bool false))))
   | _=>k σ)
  | none=>k σ)else k σ
def qI{X:Type}(P:Program)(N:Nat)(Φ:cY)(ops:Array Oper):Nat->List Oper->S->(S->Option X)->Option X
 | _,[],σ,k=>k σ
 | j,o :: rest,σ,k=>match en σ ops o with
  | some true=>mV P N Φ σ o fun af=>lU af o.dst (FG ops j) fun qJ=>qI P N Φ ops (j+1) rest qJ k
  | some false=>fN N σ o.dst .skip fun af=>qI P N Φ ops (j+1) rest af k
  | none=>none
/-! Regions whose order is open: what is listed is a set of bits. -/
def cJ{X:Type}(P:Program)(N:Nat)(Φ:cY)(ops:Array Oper)(σ:S)(o:Oper)(k:S->Option X):Option X:=
 match en σ ops o with
 | some true=>ct P N Φ σ o k
 | some false=>fN N σ o.dst .skip k
 | none=>none
def jn(ops:Array Oper)(L j:Nat):Bool:=!L.testBit j&&(match ops[j]? with
 | some o=>o.after.toList.all fun e=>!Region.binds .any e || L.testBit e.on
 | none=>false)
def BT(ops:Array Oper)(i W j:Nat):Bool:=(match ops[j]? with
 | some o=>o.after.toList.any fun e=>Region.binds .any e&&(Nat.beq e.on i || W.testBit e.on)
 | none=>false)
def waits(ops:Array Oper)(i:Nat):Nat->Nat->Nat->Nat
 | 0,_,W=>W
 | n+1,j,W=>waits ops i n (j+1) (bif BT ops i W j then W ||| 2 ^ j else W)
def dG(o:Oper)(n:Nat):Bool:=match o.dst with
 | some d=>(match o.op with
  | .alloc _ | .box .. | .buildSlice .. | .makeSlice ..=>Nat.beq n d
  | .call ⟨.value (.func _),_,_⟩=>Nat.ble (1000000000100000+1000*d) n
  | .call ⟨.builtin .append,_,_⟩=>Nat.beq n d
  | _=>false)
 | none=>false
def FH(Φ:cY)(op:Op):Bool:=ek op || (match op with
 | .alloc _ | .box .. | .buildSlice .. | .makeSlice ..=>true
 | .call ⟨.value (.func f),_,_⟩=>(match Φ f with
  | some (.p _)=>true
  | _=>false)
 | _=>false)
def fT(g:Oper->Bool)(ops:Array Oper)(i L W:Nat):Nat->Nat->Bool
 | 0,_=>false
 | f+1,j=>(!(Nat.beq j i || L.testBit j || W.testBit j)&&(match ops[j]? with
  | some oj=>g oj
  | none=>false)) || fT g ops i L W f (j+1)
def yU(g:Oper->Bool)(ops:Array Oper)(oi:Oper)(i L W:Nat):Nat->Nat->Bool
 | 0,_=>true
 | n+1,j=>(Nat.beq j i || L.testBit j || (bif W.testBit j then BT ops i W j else (match ops[j]? with
  | some oj=>g oj&&oi.apart ops oj
  | none=>true)))&&yU g ops oi i L W n (j+1)
def FI(c:gN):Bool:=c.ps.all fun p=>match p with
 | .v _ _=>true
 | .p _ g _=>Nat.beq g 0
 | .s _ _=>false
def nT(ok:Nat->Nat->Bool)(σ:S):List PK->List Operand->Bool
 | .p _ _ _ :: ps,.tmp t :: xs=>(match σ.t t with
  | .az r _=>ok t r
  | _=>false)&&nT ok σ ps xs
 | .v _ _ :: ps,_ :: xs=>nT ok σ ps xs
 | [],[]=>true
 | _,_=>false
def gf(σ:S):List PK->List Operand->List Nat
 | .p _ _ _ :: ps,x :: xs=>(match ak σ x with
  | .az r _=>r :: gf σ ps xs
  | _=>gf σ ps xs)
 | _ :: ps,_ :: xs=>gf σ ps xs
 | _,_=>[]
def lV(Φ:cY)(σ:S)(o:Oper):List Nat:=match o.op with
 | .call ⟨.value (.func f),args,_⟩=>(match Φ f with
  | some (.m c)=>gf σ c.ps args.toList
  | _=>[])
 | _=>[]
def iy(t:Nat)(o:Oper):Bool:=match o.dst with
 | some d=>Nat.beq d t
 | none=>false
def qK(o:Oper):Bool:=(match o.op with
 | .alloc _=>true
 | _=>false)&&o.guard.isNone&&(match o.dst with
 | some d=>Nat.blt d 20000
 | none=>false)
def kH(o:Oper):Bool:=(match o.op with
 | .alloc _=>true
 | .buildSlice t _ _=>!kZ t
 | .makeSlice ..=>true
 | _=>false)&&(match o.dst with
 | some d=>Nat.blt d 20000
 | none=>false)
def isApp(o:Oper):Bool:=match o.op with
 | .call ⟨.builtin .append,⟨[_,_]⟩,⟨[t,t']⟩⟩=>!kZ t&&Nat.beq t t' && !wF o.dst t
 | _=>false
def Lr(Φ:cY)(ops:Array Oper)(i L W:Nat)(σ:S)(o:Oper):Bool:=match o.op with
 | .call ⟨.value (.func f),args,_⟩=>(match Φ f with
  | some (.m c)=>FI c&&nT (fun t r=>!fT (iy t) ops i L W ops.size 0 && !fT (fun ok=>dG ok r) ops i L W ops.size 0 && !fT isApp ops i L W ops.size 0) σ c.ps args.toList
  | _=>false)
 | _=>false
def A.iz(p pb:Nat->Bool):A->Bool
 | .lf x=>x.nr p
 | .agg cs=>cs.all (Lf.nr p)
 | .bJ xs=>xs.all fun q=>q.2.all (Lf.nr p)
 | .ptr k=>dy p k
 | .az r _=>!pb r
 | .pk r _=>!pb r
 | .view k _ _ _=>dy p k
 | .fn _ cap=>cap.all fun q=>!pb q.1
 | _=>true
def uH(σ:S)(o:Oper):List Nat:=match o.op with
 | .store _ (.tmp t) _=>(match σ.t t with
  | .az r _=>[r]
  | _=>[])
 | .call ⟨.builtin .append,⟨[.tmp t,_]⟩,⟨[_,_]⟩⟩=>(match σ.t t with
  | .lf (.own [r])=>[r]
  | _=>[])
 | _=>[]
def FJ(σ:S)(o:Oper):List Nat:=match o.op with
 | .call ⟨.builtin .append,⟨[.tmp t,_]⟩,⟨[_,_]⟩⟩=>(match σ.t t with
  | .lf (.own [r])=>[r]
  | _=>[])
 | _=>[]
def adV(t:Nat)(o:Oper):Bool:=match o.op with
 | .store _ (.tmp t') _=>Nat.beq t' t
 | _=>false
def faR(ops:Array Oper)(i L W:Nat)(σ:S)(o:Oper):List Nat:=match o.op,o.dst with
 | .fieldAddr _ (.tmp x) _,some t=>bif fT (adV t) ops i L W ops.size 0 then (match σ.t x with
  | .az r _=>[r]
  | _=>[])else []
 | _,_=>[]
def uI(Φ:cY)(ops:Array Oper)(i L W:Nat)(σ:S)(n:Nat):Bool:=
 fT (fun o=>dG o n) ops i L W ops.size 0 || fT (fun o=>bg n (lV Φ σ o) || bg n (uH σ o)) ops i L W ops.size 0
def qL(Φ:cY)(ops:Array Oper)(i L W:Nat)(σ:S)(n:Nat):Bool:=
 uI Φ ops i L W σ n || fT (fun o=>bg n (faR ops i L W σ o)) ops i L W ops.size 0
def sw(σ:S)(ops:Array Oper)(i L W:Nat)(n:Nat):Bool:=fT (fun o=>dG o n) ops i L W ops.size 0 || fT (fun o=>bg n (FJ σ o)) ops i L W ops.size 0
def uJ(Φ:cY)(o:Oper):Bool:=match o.op with
 | .call ⟨.value (.func f),_,_⟩=>(match Φ f with
  | some (.p _)=>true
  | _=>false)
 | _=>false
def jQ(Φ:cY)(ops:Array Oper)(i L W:Nat)(t:Nat):Bool:=!fT (fun ok=>iy t ok && !(kH ok || isApp ok || uJ Φ ok)) ops i L W ops.size 0
def Ls(Φ:cY)(ops:Array Oper)(i L W:Nat)(o:Oper):Bool:=match o.op with
 | .call ⟨.builtin .append,⟨[.tmp t,_]⟩,⟨[ty,ty']⟩⟩=>jQ Φ ops i L W t&&(!kZ ty&&Nat.beq ty ty' && !wF o.dst ty)
 | _=>false
def jR(Φ:cY)(ops:Array Oper)(i L W:Nat)(σ:S)(x:Nat):Bool:=!fT (iy x) ops i L W ops.size 0&&(match σ.t x with
 | .az r _=>qL Φ ops i L W σ r
 | .fL _=>true
 | _=>false)
def FK(Φ:cY)(ops:Array Oper)(i L W:Nat)(σ:S)(o:Oper):Bool:=match o.op with
 | .fieldAddr _ (.tmp x) _=>jR Φ ops i L W σ x
 | _=>false
def FL(Φ:cY)(ops:Array Oper)(i L W:Nat)(σ:S)(t:Nat):Bool:=!fT (fun ok=>iy t ok && !(qK ok || FK Φ ops i L W σ ok)) ops i L W ops.size 0
def AZ(Φ:cY)(ops:Array Oper)(i L W:Nat)(σ:S)(o:Oper):Bool:=match o.op with
 | .store _ (.tmp t) _=>o.dst.isNone&&FL Φ ops i L W σ t&&(match σ.t t with
  | .ptr _=>false
  | _=>true)
 | _=>false
def Lt(σ:S)(p:Nat->Bool)(o:Oper):Bool:=o.op.operands.toList.all fun x=>(ak σ x).nr p
def Lu(σ:S)(p pb:Nat->Bool)(o:Oper):Bool:=(o.op.operands.toList.all fun x=>(ak σ x).iz p pb)&&(match o.op with
 | .load _ x=>(match ak σ x with
  | .az r _=>!p r
  | _=>true)
 | _=>true)
def RG(Φ:cY)(ops:Array Oper)(L:Nat)(σ:S)(i:Nat):Bool:=match ops[i]? with
 | some oi=>(ek oi.op || (match en σ ops oi with
  | some b=>!b
  | none=>false))&&Nat.beq ((L ||| 2 ^ i) &&& waits ops i ops.size 0 0) 0&&yU (fun oj=>FH Φ oj.op || Lr Φ ops i L (waits ops i ops.size 0 0) σ oj || AZ Φ ops i L (waits ops i ops.size 0 0) σ oj || Ls Φ ops i L (waits ops i ops.size 0 0) oj) ops oi i L (waits ops i ops.size 0 0) ops.size 0&&Lu σ (qL Φ ops i L (waits ops i ops.size 0 0) σ) (sw σ ops i L (waits ops i ops.size 0 0)) oi
 | none=>false
def uK{X:Type}(P:Program)(N:Nat)(Φ:cY)(ops:Array Oper)(L i:Nat)(σ:S)(o:Oper)(k:S->Option X):Option X:=
 match en σ ops o with
 | some true=>bS P σ o.op fun v=>bif v.iz (qL Φ ops i L (waits ops i ops.size 0 0) σ) (sw σ ops i L (waits ops i ops.size 0 0))then fN N σ o.dst v k else none
 | some false=>fN N σ o.dst .skip k
 | none=>none
/-! A call may be taken first where all that is free beside it are new blocks. -/
def A.ek:A->Bool
 | .lf (.v _)=>true
 | .agg cs=>cs.all fun l=>match l with
  | .v _=>true
  | _=>false
 | _=>false
def Lv(ops:Array Oper)(i L W:Nat)(σ:S)(o:Oper):Bool:=kH o&&(match en σ ops o with
 | some b=>b
 | none=>false)&&(o.op.operands.toList.all fun x=>(ak σ x).ek&&(match x with
  | .tmp t=>!fT (iy t) ops i L W ops.size 0
  | _=>true))&&(match o.guard with
 | some (g,_)=>(match (ops[g]?).bind (·.dst)with
  | some t=>!fT (iy t) ops i L W ops.size 0
  | none=>true)
 | none=>true)
def lW(Φ:cY)(o:Oper):Bool:=match o.op with
 | .call ⟨.value (.func f),_,_⟩=>(match Φ f with
  | some (.p _)=>true
  | some (.m _)=>true
  | _=>false)
 | _=>false
def BU(o:Oper):Bool:=(match o.op with
 | .store _ (.tmp _) _=>true
 | _=>false)&&o.dst.isNone
def sx(σ:S)(o:Oper):Bool:=match o.op with
 | .store _ (.tmp t) _=>(match σ.t t with
  | .az _ _=>true
  | _=>false)
 | _=>true
def BV(Φ:cY)(o:Oper):Bool:=lW Φ o || kH o || isApp o || BU o
def sy(σ:S)(p:Nat->Bool)(r:Nat):Bool:=match σ.m r with
 | some (.blk cs)=>cs.all (Lf.nr p)
 | _=>true
def yV(o:Oper)(n:Nat):Bool:=iy n o
def RH(Φ:cY)(ops:Array Oper)(L:Nat)(σ:S)(i:Nat):Bool:=match ops[i]? with
 | some oi=>BV Φ oi&&Nat.beq ((L ||| 2 ^ i) &&& waits ops i ops.size 0 0) 0&&yU (Lv ops i L (waits ops i ops.size 0 0) σ) ops oi i L (waits ops i ops.size 0 0) ops.size 0 &&
   Lt σ (fun n=>fT (fun o=>yV o n) ops i L (waits ops i ops.size 0 0) ops.size 0) oi&&(lV Φ σ oi).all (sy σ (fun n=>fT (fun o=>yV o n) ops i L (waits ops i ops.size 0 0) ops.size 0))&&sx σ oi
 | none=>false
def jc{X:Type}(P:Program)(N:Nat)(Φ:cY)(ops:Array Oper):Nat->Nat->S->(S->Option X)->Option X
 | 0,L,σ,k=>(match (List.range ops.size).filter (jn ops L)with
  | []=>k σ
  | _=>none)
 | f+1,L,σ,k=>(match (List.range ops.size).filter (jn ops L)with
  | []=>k σ
  | [i]=>(match ops[i]? with
   | some o=>cJ P N Φ ops σ o fun af=>lU af o.dst (FG ops i) fun qJ=>jc P N Φ ops f (L ||| 2 ^ i) qJ k
   | none=>none)
  | rs=>(match rs.find? (RG Φ ops L σ)with
   | some i=>(match ops[i]? with
    | some o=>uK P N Φ ops L i σ o fun af=>lU af o.dst (FG ops i) fun qJ=>jc P N Φ ops f (L ||| 2 ^ i) qJ k
    | none=>none)
   | none=>(match rs.find? (RH Φ ops L σ)with
    | some i=>(match ops[i]? with
     | some o=>cJ P N Φ ops σ o fun af=>lU af o.dst (FG ops i) fun qJ=>jc P N Φ ops f (L ||| 2 ^ i) qJ k
     | none=>none)
    | none=>none)))
/-! A new slice of constants may come first,beside values and calls of contents. -/
def FM:Op->Bool
 | .move _ | .assign _ | .load .. | .binOp .. | .unOp .. | .field .. | .fieldAddr .. | .index ..=>true
 | .call ⟨.builtin .len,_,_⟩=>true
 | _=>false
def Lw(Φ:cY)(o:Oper):Bool:=FM o.op || (match o.op with
 | .call ⟨.value (.func f),_,_⟩=>(match Φ f with
  | some (.p _)=>true
  | _=>false)
 | _=>false)
def early(Φ:cY)(ops:Array Oper)(i:Nat):Bool:=match ops[i]? with
 | some o=>(match o.op with
  | .buildSlice ..=>true
  | _=>false)&&kH o&&o.guard.isNone&&jn ops 0 i&&(o.op.operands.toList.all fun x=>match x with
  | .const _=>true
  | _=>false)&&Nat.beq ((0 ||| 2 ^ i) &&& waits ops i ops.size 0 0) 0&&yU (Lw Φ) ops o i 0 (waits ops i ops.size 0 0) ops.size 0
 | none=>false
def sA{X:Type}(P:Program)(N:Nat)(Φ:cY)(ops:Array Oper)(σ:S)(k:S->Option X):Option X:=
 match (List.range ops.size).find? (early Φ ops)with
 | some i=>(match ops[i]? with
  | some o=>(match o.dst with
   | some e=>cJ P N Φ ops (σ.drop e) o fun af=>jc P N Φ ops (ops.size-1) (0 ||| 2 ^ i) af k
   | none=>none)
  | none=>none)
 | none=>jc P N Φ ops ops.size 0 σ k
structure bh where
 run:(X:Type)->S->(Exit->S->Option X)->Option X
abbrev jS:=Nat->Option bh
def eY{X:Type}(P:Program)(N:Nat)(Φ:cY)(Λ:jS):Code->S->(Exit->S->Option X)->Option X
 | .skip,σ,k=>k .normal σ
 | .label _,σ,k=>k .normal σ
 | .ret,σ,k=>k .ret σ
 | .exit id,σ,k=>k (.exit id) σ
 | .region _ ops false,σ,k=>qI P N Φ ops 0 ops.toList σ fun af=>k .normal af
 | .region _ ops true,σ,k=>bif P.follows .mixedOrders then sA P N Φ ops σ fun af=>k .normal af else none
 | .seq x y,σ,k=>eY P N Φ Λ x σ fun e af=>match e with
  | .normal=>eY P N Φ Λ y af k
  | e=>k e af
 | .cond c x y,σ,k=>match ak σ c with
  | .lf (.v (.bool b))=>bif b then eY P N Φ Λ x σ k else eY P N Φ Λ y σ k
  | _=>none
 | .block id c,σ,k=>match Λ id with
  | some b=>b.run X σ k
  | none=>eY P N Φ Λ c σ fun e af=>match e with
   | .exit nU=>if nU=id then k .normal af else k (.exit nU) af
   | e=>k e af
 | _,_,_=>none
def AW(P:Program)(w0:Wd)(N:Nat)(c:Code)(σ:S)(K:Exit->S->Prop):Prop:=
 ∀ a w,R w0 N σ a w->c.wp P (fun e a' w'=>∃ af,K e af/\R w0 N af a' w') a w
def occs:Code->List (Nat×Code)
 | .seq x y=>occs x++occs y
 | .cond _ x y=>occs x++occs y
 | .block id c=>(id,c) :: occs c
 | _=>[]
def br(P:Program)(N:Nat)(c:Code)(b:bh):Prop:=∀ (X:Type) σ k (r:X) w0,b.run X σ k=some r->AW P w0 N c σ fun e af=>k e af=some r
def mW(P:Program)(N:Nat)(Λ:jS)(l:List (Nat×Code)):Prop:=∀ p∈l,∀ b,Λ p.1=some b->br P N (.block p.1 p.2) b
section
variable {P:Program} {w w':World} {w0:Wd} {B N:Nat} {lab aj:aQ} {ρ ρ':Nat->Loc} {σ:S} {a:Act} {X:Type} {d:Nat} {r:X} {o:Oper} {Φ:cY} {Λ:jS}
theorem iJ.mem{af:S}(hd:o.dst=some d)(h:∀ lab ρ a w,Rl w0 N lab ρ σ a w->∃ w' aj ρ' v,(execOp a.eval o).run P w = .ok (.value v) w'/\Rl w0 N aj ρ' af (a.put (some d) v) w'):iJ P w0 N o σ af:=by
 intro a w K Q hR hK
 obtain⟨lab,ρ,hR⟩:=hR
 obtain⟨w',aj,ρ',v,aL,aA⟩:=h lab ρ a w hR
 unfold Oper.wp
 rw[aL,Oper.upon_value,hd]
 exact hK _ _ ⟨aj,ρ',aA⟩
theorem eG{k:Nat->Option X}(h:dz o k=some r):∃ d,o.dst=some d/\k d=some r:=by
 unfold dz at h
 split at h
 ·rename_i d hd;exact⟨d,hd,h⟩
 ·cases h
theorem jT{s:Sem Value}{v:Value}(h:s.run P w = .ok v w'):(do pure (.value (<-s)):Sem Next).run P w = .ok (.value v) w':=by
 rw[Sem.run_bind,h];rfl
theorem yW{op:Op}{k:A->Option X}(h:bS P σ op k=some r):∃ v,k v=some r/\bD (fun X k=>bS (X:=X) P σ op k) v/\∀ lab ρ a w (o:Oper),o.op=op->Rl w0 N lab ρ σ a w->∃ u,(execOp a.eval o).run P w = .ok (.value u) w/\RA w w0.heap.size lab ρ v u:=by
 unfold bS at h
 split at h
 ·rename_i x
  exact⟨_,h,fun X k=>rfl,fun lab ρ a w o ho hR=>⟨a.eval x,by simp[execOp,ho],hR.ak x⟩⟩
 ·rename_i x
  exact⟨_,h,fun X k=>rfl,fun lab ρ a w o ho hR=>⟨a.eval x,by simp[execOp,ho],hR.ak x⟩⟩
 ·rename_i c x y
  split at h
  ·rename_i b hb
   refine⟨bif b then ak σ x else ak σ y,by cases b <;>exact h,fun X k=>by simp only[bS,hb];cases b <;>rfl,fun lab ρ a w o ho hR=>?_⟩
   have hc:=hR.ak c
   rw[hb]at hc
   have hv:=hc.2.qh
   cases b with
   | true=>exact⟨a.eval x,by simp[execOp,ho,hv,asBool],hR.ak x⟩
   | false=>exact⟨a.eval y,by simp[execOp,ho,hv,asBool],hR.ak y⟩
  ·cases h
 ·rename_i t parts
  obtain⟨y,h1,hd⟩:=adg h
  obtain⟨y',h1',hs⟩:=ab8 (w0:=w0) (N:=N) (k:=fun z=>some z) (r:=y) (hd.at_ _)
  injection h1' with h1'
  subst h1'
  refine⟨_,h1,fun X k=>hd.at_ _,fun lab ρ a w o ho hR=>?_⟩
  obtain⟨v,aL,aA⟩:=hs lab ρ a w hR
  exact⟨v,by simp only[execOp,ho];exact jT aL,aA⟩
 ·rename_i t x
  obtain⟨y,h1,hd⟩:=BH h
  obtain⟨y',h1',hs⟩:=PX (w0:=w0) (N:=N) (k:=fun z=>some z) (r:=y) (hd.at_ _)
  injection h1' with h1'
  subst h1'
  refine⟨_,h1,fun X k=>hd.at_ _,fun lab ρ a w o ho hR=>?_⟩
  obtain⟨v,aL,aA⟩:=hs lab ρ a w hR _ (hR.ak x)
  exact⟨v,by simp only[execOp,ho];exact jT aL,aA⟩
 ·rename_i op t x y yt
  obtain⟨z,h1,hd⟩:=ac9 h
  obtain⟨z',h1',hs⟩:=aco (w0:=w0) (N:=N) (k:=fun z=>some z) (r:=z) (hd.at_ _)
  injection h1' with h1'
  subst h1'
  refine⟨_,h1,fun X k=>hd.at_ _,fun lab ρ a w o ho hR=>?_⟩
  obtain⟨t',aL,hr⟩:=hs lab ρ a w hR x y _ _ (hR.ak x) (hR.ak y)
  exact⟨t',by simp only[execOp,ho];exact jT aL,hr⟩
 ·rename_i op t x
  obtain⟨u,h1,vO⟩:=yP h
  obtain⟨z,h3,wh⟩:=Q8 h1
  obtain⟨u',hx,h1'⟩:=EV (k:=fun z=>some z) (r:=u) (vO.at_ _)
  injection h1' with h1'
  subst h1'
  obtain⟨z',vP,hp,hs⟩:=abM (P:=P) (k:=fun z=>some z) (r:=z) (wh.at_ _)
  injection vP with vP
  subst vP
  refine⟨_,h3,fun X k=>(vO.at_ _).trans (wh.at_ _),fun lab ρ a w o ho hR=>?_⟩
  have h1:=hR.ak x
  rw[hx]at h1
  obtain⟨t',aL,hr⟩:=hs w _ lab [] _ h1.2
  exact⟨t',by simp only[execOp,ho];exact jT aL,V.A5 hp,hr⟩
 ·rename_i s d' x
  obtain⟨y,h1,hd⟩:=adk h
  obtain⟨y',h1',hs⟩:=acj (w0:=w0) (N:=N) (k:=fun z=>some z) (r:=y) (hd.at_ _)
  injection h1' with h1'
  subst h1'
  refine⟨_,h1,fun X k=>hd.at_ _,fun lab ρ a w o ho hR=>?_⟩
  obtain⟨v,aL,aA⟩:=hs lab ρ a w hR _ (hR.ak x)
  exact⟨v,by simp only[execOp,ho];exact jT aL,aA⟩
 ·rename_i s x f
  obtain⟨y,h1,hd⟩:=ada h
  obtain⟨y',h1',hs⟩:=abQ (k:=fun z=>some z) (r:=y) (hd.at_ _)
  injection h1' with h1'
  subst h1'
  refine⟨_,h1,fun X k=>hd.at_ _,fun lab ρ a w o ho hR=>?_⟩
  obtain⟨v,aL,aA⟩:=hs w _ lab ρ _ (hR.ak x)
  exact⟨v,by simp only[execOp,ho];exact jT aL,aA⟩
 ·rename_i s x f
  obtain⟨y,h1,hd⟩:=adh h
  obtain⟨y',h1',hs⟩:=ack (k:=fun z=>some z) (r:=y) (hd.at_ _)
  injection h1' with h1'
  subst h1'
  refine⟨_,h1,fun X k=>hd.at_ _,fun lab ρ a w o ho hR=>?_⟩
  obtain⟨v,aL,aA⟩:=hs w _ lab ρ _ (hR.ak x)
  exact⟨v,by simp only[execOp,ho];exact jT aL,aA⟩
 ·rename_i t x i
  obtain⟨y,h1,hd⟩:=adb h
  obtain⟨y',h1',hs⟩:=abR (w0:=w0) (N:=N) (k:=fun z=>some z) (r:=y) (hd.at_ _)
  injection h1' with h1'
  subst h1'
  refine⟨_,h1,fun X k=>hd.at_ _,fun lab ρ a w o ho hR=>?_⟩
  obtain⟨v,aL,aA⟩:=hs lab ρ a w hR _ _ (hR.ak x) (hR.ak i)
  exact⟨v,by simp only[execOp,ho];exact jT aL,aA⟩
 ·rename_i t x i
  obtain⟨y,h1,hd⟩:=adi h
  obtain⟨y',h1',hs⟩:=aci (k:=fun z=>some z) (r:=y) (hd.at_ _)
  injection h1' with h1'
  subst h1'
  refine⟨_,h1,fun X k=>hd.at_ _,fun lab ρ a w o ho hR=>?_⟩
  obtain⟨v,aL,aA⟩:=hs w _ lab ρ _ _ (hR.ak x) (hR.ak i)
  exact⟨v,by simp only[execOp,ho];exact jT aL,aA⟩
 ·rename_i x i
  obtain⟨y,h1,hd⟩:=adf h
  obtain⟨y',h1',hs⟩:=abT (P:=P) (k:=fun z=>some z) (r:=y) (hd.at_ _)
  injection h1' with h1'
  subst h1'
  refine⟨_,h1,fun X k=>hd.at_ _,fun lab ρ a w o ho hR=>?_⟩
  obtain⟨v,aL,aA⟩:=hs w _ lab ρ _ (hR.ak x)
  exact⟨v,by simp only[execOp,ho];exact jT aL,aA⟩
 ·rename_i x
  obtain⟨h1,hd,hs⟩:=Rg (w:=default) (B:=0) (lab:=fun _=>none) (ρ:=fun _=>.cS undef) h
  refine⟨_,h1,fun X k=>hd.at_ _,fun lab ρ a w o ho hR=>?_⟩
  obtain⟨_,_,hs⟩:=Rg (w:=w) (B:=w0.heap.size) (lab:=lab) (ρ:=ρ) h
  obtain⟨ad,hu⟩:=hs _ (hR.ak x)
  refine⟨a.eval x,?_,hR.ak x⟩
  simp only[execOp,ho,hu]
  rfl
 ·rename_i x t
  obtain⟨y,h1,hd⟩:=ade h
  refine⟨_,h1,fun X k=>hd.at_ _,fun lab ρ a w o ho hR=>?_⟩
  obtain⟨y',h1',hs⟩:=abS (w0:=w0) (N:=N) (ty:=o.type) (k:=fun z=>some z) (r:=y) (hd.at_ _)
  injection h1' with h1'
  subst h1'
  obtain⟨v,aL,aA⟩:=hs lab ρ a w hR _ (hR.ak x)
  exact⟨v,by simp only[execOp,ho,resolve,Sem.run_bind,Sem.run_pure,Result.andThen_ok,invoke,builtin,List.map_toArray,List.map_cons,List.map_nil];rw[aL];rfl,aA⟩
 ·rename_i x y t t'
  obtain⟨z,h1,hd⟩:=Q9 h
  obtain⟨z',h1',hs⟩:=Qj (P:=P) (k:=fun z=>some z) (r:=z) (hd.at_ _)
  injection h1' with h1'
  subst h1'
  refine⟨_,h1,fun X k=>hd.at_ _,fun lab ρ a w o ho hR=>?_⟩
  obtain⟨v,aL,aA⟩:=hs w _ lab ρ t o.type _ _ (hR.ak x) (hR.ak y)
  refine⟨v,?_,aA⟩
  simp only[execOp,ho,resolve,Sem.run_bind,Sem.run_pure,Result.andThen_ok,invoke,builtin,List.map_toArray,List.map_cons,List.map_nil]
  have aL:(Builtin.max_ #[t,t'] o.type #[a.eval x,a.eval y]).run P w = .ok v w:=aL
  rw[aL];rfl
 ·rename_i x y t t'
  obtain⟨z,h1,hd⟩:=Q9 h
  obtain⟨z',h1',hs⟩:=Qj (P:=P) (k:=fun z=>some z) (r:=z) (hd.at_ _)
  injection h1' with h1'
  subst h1'
  refine⟨_,h1,fun X k=>hd.at_ _,fun lab ρ a w o ho hR=>?_⟩
  obtain⟨v,aL,aA⟩:=hs w _ lab ρ t o.type _ _ (hR.ak x) (hR.ak y)
  refine⟨v,?_,aA⟩
  simp only[execOp,ho,resolve,Sem.run_bind,Sem.run_pure,Result.andThen_ok,invoke,builtin,List.map_toArray,List.map_cons,List.map_nil]
  have aL:(Builtin.min_ #[t,t'] o.type #[a.eval x,a.eval y]).run P w = .ok v w:=aL
  rw[aL];rfl
 ·rename_i t x lo hi
  obtain⟨y,h1,hd⟩:=adl h
  obtain⟨y',h1',hs⟩:=acq (w0:=w0) (N:=N) (k:=fun z=>some z) (r:=y) (hd.at_ _)
  injection h1' with h1'
  subst h1'
  refine⟨_,h1,fun X k=>hd.at_ _,fun lab ρ a w o ho hR=>?_⟩
  have ob:∀ z:Option Operand,(∀ b,z.map (ak σ)=some b->∃ v,z.map a.eval=some v/\RA w w0.heap.size lab ρ b v)/\(z.map (ak σ)=none->z.map a.eval=none):=by
   intro z
   cases z with
   | none=>exact⟨fun b hb=>(by cases hb),fun _=>rfl⟩
   | some z=>exact⟨fun b hb=>(by cases hb;exact⟨_,rfl,hR.ak z⟩),fun hb=>(by cases hb)⟩
  obtain⟨v,aL,hr⟩:=hs lab ρ a w hR _ _ _ (hR.ak x) (ob lo).1 (ob lo).2 (ob hi).1 (ob hi).2
  exact⟨v,by simp only[execOp,ho];exact jT aL,hr⟩
 ·cases h
theorem adW{k:S->Option X}(aU:ej P Φ)(h:fS P N Φ σ o k=some r):∃ af,k af=some r/\iJ P w0 N o σ af:=by
 unfold fS at h
 split at h
 ·rename_i e ho
  obtain⟨d,hd,h⟩:=eG h
  obtain⟨af,h,hs⟩:=ab1 (w0:=w0) h
  refine⟨af,h,.mem hd fun lab ρ a w hR=>?_⟩
  obtain⟨w',aj,ρ',v,aL,aA⟩:=hs lab ρ a w hR
  exact⟨w',aj,ρ',v,by simp only[execOp,ho];exact jT aL,aA⟩
 ·rename_i e x ho
  obtain⟨d,hd,h⟩:=eG h
  obtain⟨af,h,hs⟩:=adp (w0:=w0) (e:=e) h
  refine⟨af,h,.mem hd fun lab ρ a w hR=>?_⟩
  obtain⟨w',aj,ρ',v,aL,aA⟩:=hs lab ρ a w hR _ (hR.ak x)
  exact⟨w',aj,ρ',v,by simp only[execOp,ho];exact jT aL,aA⟩
 ·rename_i t len parts ho
  obtain⟨d,hd,h⟩:=eG h
  cases hn:kZ t with
  | true=>
   rw[hn,cond_true]at h
   obtain⟨af,h,hs⟩:=adq (w0:=w0) h
   refine⟨af,h,.mem hd fun lab ρ a w hR=>?_⟩
   obtain⟨w',aj,ρ',v,aL,aA⟩:=hs lab ρ a w hR
   exact⟨w',aj,ρ',v,by simp only[execOp,ho];exact jT aL,aA⟩
  | false=>
   rw[hn,cond_false]at h
   obtain⟨af,h,hs⟩:=acg (w0:=w0) h
   refine⟨af,h,.mem hd fun lab ρ a w hR=>?_⟩
   obtain⟨w',aj,ρ',v,aL,aA⟩:=hs lab ρ a w hR
   exact⟨w',aj,ρ',v,by simp only[execOp,ho];exact jT aL,aA⟩
 ·rename_i t x y ho
  split at h
  ·rename_i hd
   cases hn:wo (ak σ x) (ak σ y)with
   | true=>
    rw[hn,cond_true]at h
    obtain⟨af,h,hs⟩:=adw (w0:=w0) (N:=N) h
    refine⟨af,h,fun a w K Q hR hK=>?_⟩
    obtain⟨lab,ρ,hR⟩:=hR
    obtain⟨w',aj,aL,aA⟩:=hs lab ρ a w hR _ _ (hR.ak x) (hR.ak y)
    have:(execOp a.eval o).run P w = .ok .skip w':=by
     simp only[execOp,ho]
     rw[Sem.run_bind,aL];rfl
    unfold Oper.wp
    rw[this,Oper.upon_skip,hd]
    exact hK _ _ ⟨aj,ρ,aA⟩
   | false=>
    rw[hn,cond_false]at h
    obtain⟨af,h,hs⟩:=PZ (w0:=w0) (N:=N) h
    refine⟨af,h,fun a w K Q hR hK=>?_⟩
    obtain⟨lab,ρ,hR⟩:=hR
    obtain⟨w',aL,aA⟩:=hs lab ρ a w hR _ _ (hR.ak x) (hR.ak y)
    have:(execOp a.eval o).run P w = .ok .skip w':=by
     simp only[execOp,ho]
     rw[Sem.run_bind,aL];rfl
    unfold Oper.wp
    rw[this,Oper.upon_skip,hd]
    exact hK _ _ ⟨lab,ρ,aA⟩
  ·cases h
 ·rename_i t l c ho
  obtain⟨d,hd,h⟩:=eG h
  obtain⟨af,h,hs⟩:=ab3 (w0:=w0) h
  refine⟨af,h,.mem hd fun lab ρ a w hR=>?_⟩
  obtain⟨w',aj,ρ',v,aL,aA⟩:=hs lab ρ a w hR _ _ (hR.ak l) (hR.ak c)
  exact⟨w',aj,ρ',v,by simp only[execOp,ho];exact jT aL,aA⟩
 ·rename_i f args cA ho
  split at h
  ·rename_i c hc
   obtain⟨d,hd,h⟩:=eG h
   obtain⟨he,dw⟩:=aU f _ hc
   exact acv ho hd he dw h
  ·rename_i c hc
   obtain⟨he,dw⟩:=aU f _ hc
   exact acP ho he dw h
  ·rename_i c hc
   obtain⟨d,hd,h⟩:=eG h
   obtain⟨he,dw⟩:=aU f _ hc
   exact adA ho hd he dw h
  ·rename_i F hc
   obtain⟨d,hd,h⟩:=eG h
   obtain⟨he,dw⟩:=aU f _ hc
   split at h
   ·rename_i x hx
    exact adz ho hx hd he dw h
   ·cases h
  ·rename_i c hc
   obtain⟨he,dw⟩:=aU f _ hc
   exact Rv (ex:=[]) ho rfl he dw h
  ·rename_i c hc
   obtain⟨he,dw⟩:=aU f _ hc
   exact acV ho he dw h
  ·rename_i c hc
   obtain⟨d,hd,h⟩:=eG h
   obtain⟨he,dw⟩:=aU f _ hc
   exact acw ho hd he dw h
  ·cases h
 ·rename_i x y t t' ho
  cases eL:Nat.beq t t' with
  | false=>
   rw[eL,cond_false]at h
   obtain⟨d,hd,h⟩:=eG h
   obtain⟨af,h,hs⟩:=adM (w0:=w0) (ty:=o.type) h
   refine⟨af,h,.mem hd fun lab ρ a w hR=>?_⟩
   obtain⟨w',aj,ρ',v,aL,aA⟩:=hs lab ρ a w hR _ _ (hR.ak x) (hR.ak y)
   refine⟨w',aj,ρ',v,?_,aA⟩
   simp only[execOp,ho,resolve,Sem.run_bind,Sem.run_pure,Result.andThen_ok,invoke,builtin,List.map_toArray,List.map_cons,List.map_nil]
   rw[aL];rfl
  | true=>
   rw[eL,cond_true]at h
   obtain rfl:=Nat.eq_of_beq_eq_true eL
   obtain⟨d,hd,h⟩:=eG h
   have hh:∃ af,k af=some r/\∀ lab ρ a w,Rl w0 N lab ρ σ a w->∀ u v,RA w w0.heap.size lab ρ (ak σ x) u->RA w w0.heap.size lab ρ (ak σ y) v->
     ∃ w' aj ρ' z,(Builtin.append_ #[t,t] o.type #[u,v]).run P w = .ok z w'/\Rl w0 N aj ρ' af (a.put (some d) z) w':=by
    cases hn:kZ t with
    | true=>rw[hn,cond_true]at h;exact adu h
    | false=>
     rw[hn,cond_false]at h
     cases hk:BR t d with
     | true=>rw[hk,cond_true]at h;exact adT h
     | false=>rw[hk,cond_false]at h;exact ab5 h
   obtain⟨af,h,hs⟩:=hh
   refine⟨af,h,.mem hd fun lab ρ a w hR=>?_⟩
   obtain⟨w',aj,ρ',v,aL,aA⟩:=hs lab ρ a w hR _ _ (hR.ak x) (hR.ak y)
   refine⟨w',aj,ρ',v,?_,aA⟩
   simp only[execOp,ho,resolve,Sem.run_bind,Sem.run_pure,Result.andThen_ok,invoke,builtin,List.map_toArray,List.map_cons,List.map_nil]
   rw[aL];rfl
 ·rename_i t ho
  obtain⟨d,hd,h⟩:=eG h
  obtain⟨af,h,hs⟩:=adO (w0:=w0) (t:=t) (P:=P) h
  refine⟨af,h,.mem hd fun lab ρ a w hR=>?_⟩
  obtain⟨w',aj,ρ',v,aL,aA⟩:=hs lab ρ a w hR
  exact⟨w',aj,ρ',v,by simp only[execOp,ho];exact jT aL,aA⟩
 ·rename_i t x i ho
  obtain⟨v,h1,_,hs⟩:=RB (w0:=w0) (N:=N) h
  refine iJ.val h1 fun lab ρ a w hR=>?_
  obtain⟨y,aL,aA⟩:=hs lab ρ a w hR _ _ (hR.ak x) (hR.ak i)
  exact⟨y,by simp only[execOp,ho];exact jT aL,aA⟩
 ·rename_i t x i v ho
  split at h
  ·rename_i hd
   obtain⟨af,h,_,hs⟩:=RD (w0:=w0) (N:=N) h
   refine⟨af,h,fun a w K Q hR hK=>?_⟩
   obtain⟨lab,ρ,hR⟩:=hR
   obtain⟨w',aL,aA⟩:=hs lab ρ a w hR _ _ _ (hR.ak x) (hR.ak i) (hR.ak v)
   have:(execOp a.eval o).run P w = .ok .skip w':=by
    simp only[execOp,ho]
    rw[Sem.run_bind,aL];rfl
   unfold Oper.wp
   rw[this,Oper.upon_skip,hd]
   exact hK _ _ ⟨lab,ρ,aA⟩
  ·cases h
 ·rename_i t args cA ho
  split at h
  ·rename_i f cap dn
   split at h
   ·rename_i c hc
    obtain⟨he,dw⟩:=aU f _ hc
    exact Rv ho dn he dw h
   ·cases h
  ·cases h
 ·rename_i f BS ho
  split at h
  ·rename_i ps fq
   obtain⟨h1,h2⟩:=Rw (w0:=w0) (N:=N) _ _ fq
   refine iJ.val h fun lab ρ a w hR=>⟨.func (.func f) #[] (BS.map a.eval),by simp[execOp,ho,Instr.makeFunc],_,rfl,by simp[h1],fun j p hp=>?_⟩
   obtain⟨b,off,e1,e2⟩:=h2 lab ρ a w hR j p hp
   exact⟨b,off,e1,by simpa using e2⟩
  ·cases h
 ·cases h
theorem FN{k:S->Option X}(aU:ej P Φ)(h:ct P N Φ σ o k=some r):∃ af,k af=some r/\iJ P w0 N o σ af:=by
 unfold ct at h
 cases hv:ek o.op with
 | true=>
  rw[hv,cond_true]at h
  obtain⟨v,h1,_,hs⟩:=yW (w0:=w0) (N:=N) h
  exact iJ.val h1 fun lab ρ a w hR=>hs lab ρ a w o rfl hR
 | false=>
  rw[hv,cond_false]at h
  exact adW aU h
theorem adX{k:S->Option X}(aU:ej P Φ)(h:mV P N Φ σ o k=some r):∃ af,k af=some r/\iJ P w0 N o σ af:=by
 unfold mV at h
 split at h
 ·rename_i t x y ho hd
  split at h
  ·rename_i q s i j hy
   obtain⟨af,h1,hs⟩:=adF (w0:=w0) (N:=N) h
   refine⟨af,h1,fun a w K Q hR hK=>?_⟩
   obtain⟨lab,ρ,hR⟩:=hR
   have hv:=hR.ak y
   rw[hy]at hv
   obtain⟨w',aj,aL,aA⟩:=hs lab ρ a w hR _ _ (hR.ak x) hv
   have:(execOp a.eval o).run P w = .ok .skip w':=by
    simp only[execOp,ho]
    rw[Sem.run_bind,aL];rfl
   unfold Oper.wp
   rw[this,Oper.upon_skip,hd]
   exact hK _ _ ⟨aj,ρ,aA⟩
  ·exact FN aU h
 ·obtain⟨af,h1,hs⟩:=FN (w0:=w0) aU h
  exact⟨af,h1,fun a w K Q hR hK=>hs a w K Q hR.yR hK⟩
 ·exact FN aU h
end
end Go.Proofs.YtmffpkippmkjbaaGreatDoor
