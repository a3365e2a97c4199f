/-
  Running the program over pure contents, and that it follows (part 3). Nothing here is a claim.
-/
import Derived.Lib.AppendStr
import Derived.MapKept
import Derived.Test.YtjldnlbiefpekaaDoorV2
set_option linter.unusedSimpArgs false
namespace Go.Proofs.YtjldnlbiefpekaaDoor
open Go.RowKit
set_option linter.unusedVariables false
def dT:Nat:=89999
def kI(lab:aH)(k:List Nat):aH:=fun b=>match lab b with
 | some q=>bif k.isSuffixOf q then some (q.take (q.length-k.length)++[dT])else bif aE dT q then none else some q
 | none=>none
def CM(σ:S)(c:gy)(args:List Operand)(q:Nat):Bool:=match fo σ c.ps args with
 | some aq=>!aN q ((gf 0 aq).map (·.1))&&aq.any fun mu=>Nat.beq mu.root dT
 | none=>false
def tU{X:Type}(N:Nat)(σ:S)(dst:Option Tmp)(c:gy)(args:List Operand)(k:S->Option X):Option X:=
 match args with
 | .tmp t :: _=>(match σ.t t with
  | .lf (.own [j,i,s,q])=>(match σ.m q with
   | some (.sl (.sl tc (o+2) qn l))=>if s=aj tc then (if hi:i<l.length then (match (enc tc o l[i])[j]? with
    | some y=>bif Nat.ble N 20000&&Nat.ble 20000 q&&Nat.blt q 60000&&CM ((σ.aG [q,dT] [dT] [(dT,.sl y)]).set t (.lf (.own [dT]))) c args q then gM N ((σ.aG [q,dT] [dT] [(dT,.sl y)]).set t (.lf (.own [dT]))) dst c args fun τ=>(match τ.m dT with
      | some (.sl y')=>(match dec tc o (cQ (enc tc o l[i]) j [y'])with
       | some e=>k ((τ.drop dT).root q (.sl (.sl tc (o+2) qn (l.set i e))))
       | none=>none)
      | _=>none)else none
    | none=>none)else none)else none
   | _=>none)
  | _=>none)
 | _=>none
section
variable {P:Program} {w w':World} {w0:Wd} {B N:Nat} {lab bH af:aH} {ρ cB ρ':Nat->Loc} {σ:S} {a:Act} {X:Type} {d:Nat} {r:X} {o:Oper} {K:List Nat}
theorem CN{b:Nat}(h:lab b=none):kI lab K b=none:=by simp[kI,h]
theorem Va{b:Nat}{p:List Nat}(h:lab b=some (p++K)):kI lab K b=some (p++[dT]):=by
 have h1:K.isSuffixOf (p++K)=true:=List.isSuffixOf_iff_suffix.2 ⟨p,rfl⟩
 simp[kI,h,h1]
theorem G7{b:Nat}{k:List Nat}(h:lab b=some k)(h1:¬ K <:+ k)(h2:aE dT k=false):kI lab K b=some k:=by
 have h1:K.isSuffixOf k=false:=by
  cases hk:K.isSuffixOf k with
  | false=>rfl
  | true=>exact absurd (List.isSuffixOf_iff_suffix.1 hk) h1
 simp[kI,h,h1,h2]
theorem RV.cut{k:List Nat}{x:V}{v:Value}(h:RV w B lab k x v):∀ p,k=p++K\/x.av=true->RV w B (kI lab K) (p++[dT]) x v:=by
 induction h with
 | int=>exact fun _ _=>.int _ _ _
 | bool=>exact fun _ _=>.bool _ _
 | str=>exact fun _ _=>.str _ _
 | nil=>exact fun _ _=>.nil _
 | bg=>exact fun _ _=>.bg _ _ _
 | bw=>exact fun _ _=>.bw _ _ _ _ _ (by first | assumption | omega)
 | bI=>exact fun _ _=>.bI _ _ _ _ _ (by first | assumption | omega)
 | av k t o qn l b off cap u ho hl U h1 hcap hc hr ih=>
  exact fun p _=>.av _ _ _ _ _ _ _ _ u ho (CN hl) U h1 hcap hc (fun i h j x hx=>(ih i h j x hx [] (.inr (fY t o l[i] ho j x hx))).key (fY t o l[i] ho j x hx))
 | own k t o qn l b cap cs u hl hh hs hn hm hc hr ih=>
  intro p hp
  have hp:k=p++K:=by
   rcases hp with hp | hp
   ·exact hp
   ·simp[V.av]at hp;omega
  subst hp
  exact .own _ _ _ _ _ _ _ cs u (Va hl) hh hs hn hm hc (fun i h j x hx=>ih i h j x hx (j :: i :: aj t :: p) (.inl rfl))
theorem RV.Vb{k:List Nat}{x:V}{v:Value}(h:RV w B lab k x v)(aA:∀ b,lab b≠some [])(hk:((∀ p,¬ K <:+ p++k)/\aE dT k=false)\/x.av=true):RV w B (kI lab K) k x v:=by
 induction h with
 | int=>exact .int _ _ _
 | bool=>exact .bool _ _
 | str=>exact .str _ _
 | nil=>exact .nil _
 | bg=>exact .bg _ _ _
 | bw=>exact .bw _ _ _ _ _ (by first | assumption | omega)
 | bI=>exact .bI _ _ _ _ _ (by first | assumption | omega)
 | av k t o qn l b off cap u ho hl U h1 hcap hc hr ih=>
  exact .av _ _ _ _ _ _ _ _ u ho (CN hl) U h1 hcap hc (fun i h j x hx=>ih i h j x hx (.inr (fY t o l[i] ho j x hx)))
 | own k t o qn l b cap cs u hl hh hs hn hm hc hr ih=>
  have hk:(∀ p,¬ K <:+ p++k)/\aE dT k=false:=by
   rcases hk with hk | hk
   ·exact hk
   ·simp[V.av]at hk;omega
  refine .own _ _ _ _ _ _ _ cs u (G7 hl (hk.1 []) hk.2) hh hs hn hm hc (fun i h j x hx=>ih i h j x hx (.inl ⟨fun p=>?_,?_⟩))
  ·have:=hk.1 (p++[j,i,aj t])
   rwa [List.append_assoc]at this
  ·have Ai:k≠[]:=by rintro rfl;exact aA b hl
   rw[Ch Ai]
   exact hk.2
theorem Rl.Vc{t:Nat}{x:A}(h:Rl w0 N lab ρ σ a w)(hx:RA w w0.heap.size lab ρ x (a.tmps.getD t undef)):Rl w0 N lab ρ (σ.set t x) a w:=by
 refine⟨h.below,h.bh,h.root,fun k=>?_,h.size,h.defers,h.fix,h.cF⟩
 show RA w w0.heap.size lab ρ (aI σ.t t x k) (a.tmps.getD k undef)
 by_cases hk:k=t
 ·subst hk
  rw[aK]
  exact hx
 ·rw[aQ _ _ _ hk]
  exact h.tmp k
theorem Rl.Vd{q:Nat}{x:ax}(h:Rl w0 N lab ρ σ a w)(hx:bU w w0.heap.size lab ρ q x):Rl w0 N lab ρ (σ.root q x) a w:=by
 refine⟨h.below,h.bh,fun r y hy=>?_,h.tmp,h.size,h.defers,h.fix,h.cF⟩
 have hy:aI σ.m q (some x) r=some y:=hy
 by_cases hr:r=q
 ·subst hr
  rw[aK]at hy
  injection hy with hy
  subst hy
  exact hx
 ·rw[aQ _ _ _ hr]at hy
  exact h.root r y hy
theorem eL.Ve(h:Rl w0 N lab ρ σ a w):eL w0 w w:=⟨rfl,rfl,rfl,Nat.le_refl _,fun _ _ _=>rfl⟩
theorem Vf{f:Nat}{args:Array Operand}{bG:Array TypeId}{c:gy}{k:S->Option X}(ho:o.op = .call { callee:=.value (.func f),args,argTypes:=bG })(he:enters P f)(hc:mR P f c)(h:tU N σ o.dst c args.toList k=some r):∃ aa,k aa=some r/\gH P w0 N o σ aa:=by
 unfold tU at h
 split at h
 ·rename_i t rest cR
  split at h
  ·rename_i j i s q ht
   split at h
   ·rename_i tc oo qn l hm
    split at h
    ·rename_i hs
     subst hs
     split at h
     ·rename_i hi
      split at h
      ·rename_i y hy
       generalize Vg:((σ.aG [q,dT] [dT] [(dT,.sl y)]).set t (.lf (.own [dT])))=jy at h
       cases U:(Nat.ble N 20000&&Nat.ble 20000 q&&Nat.blt q 60000&&CM jy c args.toList q)with
       | false=>rw[U]at h;cases h
       | true=>
        rw[U,cond_true]at h
        simp only[Bool.and_eq_true]at U
        obtain⟨⟨⟨hN,kJ⟩,mj⟩,CO⟩:=U
        have hN:=Nat.le_of_ble_eq_true hN
        have kJ:=Nat.le_of_ble_eq_true kJ
        have mj:q<60000:=Nat.le_of_ble_eq_true mj
        obtain⟨τ,aq,cn,hk,iF,mg,sE,zT⟩:=G4 (w0:=w0) ho he hc h
        clear h
        unfold CM at CO
        rw[iF]at CO
        simp only[Bool.and_eq_true,Bool.not_eq_true']at CO
        obtain⟨wA,Vh⟩:=CO
        obtain⟨mu,dA,G8⟩:=List.any_eq_true.1 Vh
        have G8:=Nat.eq_of_beq_eq_true G8
        have Vi:aN dT cn=false:=by rw[<-G8];exact sE mu dA
        have Vj:aN q cn=false:=by
         cases hx:aN q cn with
         | false=>rfl
         | true=>have:=mg q hx;omega
        have G9:q≠dT:=by unfold dT;omega
        split at hk
        ·rename_i y' cD
         split at hk
         ·rename_i e He
          refine⟨_,hk,fun a w KK Q hR hK=>?_⟩
          obtain⟨lab,ρ,hR⟩:=hR
          have aA:=hR.rT
          have Vk:w0.F dT=none:=hR.cF dT (.inr (by decide))
          have bE:=hR.root q _ hm
          generalize hx:ax.sl (.sl tc (oo+2) qn l)=x at bE
          cases bE with
          | blk=>cases hx
          | mp=>cases hx
          | gh=>cases hx
          | sl v yq au hr=>
           injection hx with hx
           subst hx
           cases hr with
           | bg=>simp at hi
           | bw=>simp at hi
           | bI=>simp at hi
           | av _ _ _ _ _ _ _ _ _ ho=>omega
           | own _ _ _ _ _ b cap cs u hl hh hs hn tr Hf ij=>
            have Vl:nU σ.m [j,i,aj tc,q] y:=.elem j i [q] tc oo qn l y (.root q _ hm) hi hy
            obtain⟨u0,iX,Vm⟩:=Vl.ok hR.root
            have mO:=hR.tmp t
            rw[ht]at mO
            have bD:a.tmps.getD t undef=u0:=by
             have h2:=mO.2
             rw[iX]at h2
             injection h2 with h2
             exact h2.symm
            have Vn:u0=u i j:=by
             have h3:aP w lab ρ [j,i,aj tc,q]=some (u i j):=by
              rw[Cc,th j i (aj tc) (q:=[q]) (show aP w lab ρ [q]=some (.slice (some ⟨b,0,none⟩) l.length cap) by simp only[aP,au]) hl]
              show w.cell? _=_
              rw[cell_of_row w b _ cs _ _ hh]
              exact Hf i hi j y hy
             rw[iX]at h3
             injection h3
            have dU:ia u0=true:=by rw[<-bD];exact mO.1
            -- the state that the callee's caller sees
            have zO:∀ k:List Nat,aT k [q,dT]=false->aE q k=false/\aE dT k=false:=by
             intro k hk
             unfold aT at hk
             unfold aE
             split at hk
             ·rename_i z hz
              rw[hz]
              have:=L3 hk
              simp only[List.mem_cons,List.not_mem_nil,or_false,not_or]at this
              exact⟨by simpa using this.1,by simpa using this.2⟩
             ·rename_i hz
              rw[hz]
              exact⟨rfl,rfl⟩
            have Vo:∀ k:List Nat,[j,i,aj tc,q] <:+ k->aE q k=true:=by
             rintro k ⟨p,rfl⟩
             simp[aE]
            have n8:lu w w lab (kI lab [j,i,aj tc,q]) ρ (aI ρ dT (.bX u0)) [q,dT] [dT]:=by
             refine⟨Nat.le_refl _,fun b' ig cm=>⟨rfl,?_⟩,fun n hn=>?_,fun b' k cm=>(hR.bh b' k cm).2⟩
             ·cases bL:lab b' with
              | none=>exact CN bL
              | some k=>
               obtain⟨g1,g2⟩:=zO k (cm k bL)
               exact G7 bL (fun iS=>by rw[Vo k iS]at g1;cases g1) g2
             ·refine aQ _ _ _ ?_
              rintro rfl
              simp[aN]at hn
            have b5:∀ b' k,kI lab [j,i,aj tc,q] b'=some k->(∃ k',lab b'=some k')/\k≠[]:=by
             intro b' k cm
             cases bL:lab b' with
             | none=>rw[CN bL]at cm;cases cm
             | some k'=>
              refine⟨⟨k',rfl⟩,?_⟩
              unfold kI at cm
              rw[bL]at cm
              simp only at cm
              cases h1:List.isSuffixOf [j,i,aj tc,q] k' with
              | true=>
               rw[h1,cond_true]at cm
               injection cm with cm
               rw[<-cm]
               simp
              | false=>
               rw[h1,cond_false]at cm
               cases h2:aE dT k' with
               | true=>rw[h2,cond_true]at cm;cases cm
               | false=>
                rw[h2,cond_false]at cm
                injection cm with cm
                rw[<-cm]
                exact(hR.bh b' k' bL).2.2
            have kK:Rl w0 N (kI lab [j,i,aj tc,q]) (aI ρ dT (.bX u0)) (σ.aG [q,dT] [dT] [(dT,.sl y)]) a w:=by
             refine hR.eX n8 (eL.Ve hR) (fun b' k cm=>?_) (fun n hn=>?_) (fun n z hz=>?_)
             ·obtain⟨⟨k',bL⟩,Ai⟩:=b5 b' k cm
              have:=hR.bh b' k' bL
              exact⟨this.1,this.2.1,Ai⟩
             ·have:n=dT:=by simpa [aN]using hn
              rw[this]
              exact Vk
             ·have hn:n=dT/\z = .sl y:=by
               rw[List.lookup_cons]at hz
               cases tV:(n==dT)with
               | false=>rw[tV]at hz;cases hz
               | true=>
                rw[tV]at hz
                injection hz with hz
                exact⟨by simpa using tV,hz.symm⟩
              obtain⟨rfl,rfl⟩:=hn
              exact .sl u0 y (aK _ _ _) (Vm.cut [] (.inl rfl))
            have gb:Rl w0 N (kI lab [j,i,aj tc,q]) (aI ρ dT (.bX u0)) jy a w:=by
             rw[<-Vg]
             refine kK.Vc ?_
             rw[bD]
             exact⟨dU,by simp only[aP,aK]⟩
            refine zT a w KK Q _ _ gb fun vv w' bH cB mh Ah pL dj pY=>?_
            -- behind the call
            have tL:90000<=dW o.dst:=by unfold dW;split <;>omega
            have Vp:mh dT = .bX u0:=by
             rw[pY dT (by unfold dT;omega),pL.b8 dT Vi,aK]
            have Vq:mh q = .bX (.slice (some ⟨b,0,none⟩) l.length cap):=by
             rw[pY q (by omega),pL.b8 q Vj,aQ _ _ _ G9,au]
            have bE:=Ah.root dT _ cD
            generalize hx:ax.sl y'=x at bE
            cases bE with
            | blk=>cases hx
            | mp=>cases hx
            | gh=>cases hx
            | sl v' UK dV bx=>
             injection hx with hx
             subst hx
             rw[Vp]at dV
             injection dV with dV
             subst dV
             have Hg:=Ah.rT
             have gA:Rel dT bH (bH.ek dT [j,i,aj tc,q]):=zC Hg
             have Mn:aE dT [q]=false:=by simpa [aE]using fun e=>G9 e
             have wJ:kI lab [j,i,aj tc,q] b=some [q]:=G7 hl (fun iS=>by have:=iS.length_le;simp at this) Mn
             have Vr:aT [q] ((gf 0 aq).map (·.1))=false:=wA
             obtain⟨g1,g2⟩:=pL.same b (pL.lab b _ wJ).1 (fun k cm=>by rw[wJ]at cm;injection cm with cm;subst cm;exact Vr)
             have Vs:bH b=some [q]:=g2.trans wJ
             have Vt:bH.ek dT [j,i,aj tc,q] b=some [q]:=gA.dh b _ Vs Mn
             have Vu:=Ah.rel gA (fun b' k cm=>by
              unfold aH.ek at cm
              cases bL:bH b' with
              | none=>rw[bL]at cm;cases cm
              | some k'=>
               rw[bL]at cm
               injection cm with cm
               subst cm
               exact⟨⟨k',rfl⟩,Lt (by simp) (fun e=>Hg b' (by rw[bL,e]))⟩)
             refine hK _ _ ⟨_,mh,Vu.Vd (.sl _ _ Vq ?_)⟩
             have hj:j<aj tc:=by
              have:=(List.getElem?_eq_some_iff.1 hy).1
              rwa [iP]at this
             refine RV.Cd (w':=w') (cs:=cs) (xs:=[y']) (u:=u) (us:=u) Vt (g1.trans hh) hs hn tr hi (show j+1<=aj tc from hj) He (fun i' pZ j' x hx Aj=>⟨Hf i' pZ j' x hx,?_⟩) (fun n x hx=>?_)
             ·have o9:=ij i' pZ j' x hx
              have Vv:¬ (i'=i/\j'=j):=fun e=>Aj ⟨e.1,by simp;omega⟩
              have Mo:aE dT [j',i',aj tc,q]=false:=by simpa [aE]using fun e=>G9 e
              have a1:=o9.Vb (K:=[j,i,aj tc,q]) aA (.inl ⟨fun p iS=>?_,Mo⟩)
              ·have a2:=a1.eX pL (.inl (by simpa [aT]using wA))
               exact a2.rel gA (.inl Mo)
              ·have e1:[j,i,aj tc,q]=[j',i',aj tc,q]:=F0 iS ⟨p,rfl⟩ rfl
               injection e1 with e1 e2
               injection e2 with e2 e3
               exact Vv ⟨e2.symm,e1.symm⟩
             ·cases n with
              | zero=>
               simp only[List.getElem?_cons_zero,Option.some.injEq]at hx
               subst hx
               refine⟨Hf i hi j y hy,?_⟩
               have:=bx.ek (q:=dT) (nk:=[j,i,aj tc,q]) Hg
               rw[Ls,Vn]at this
               exact this
              | succ n=>simp at hx
         ·cases hk
        ·cases hk
      ·cases h
     ·cases h
    ·cases h
   ·cases h
  ·cases h
 ·cases h
theorem Vw{dst:Option Tmp}{c:gy}{args:List Operand}{k:S->Option X}(Mp:∀ {X:Type} {σ:S} {k:S->Option X} {r:X},gM N σ dst c args k=some r->∃ τ,k τ=some r/\∀ (X:Type) (k:S->Option X),gM N σ dst c args k=k τ)(h:tU N σ dst c args k=some r):
  ∃ τ,k τ=some r/\∀ (X:Type) (k:S->Option X),tU N σ dst c args k=k τ:=by
 unfold tU at h
 split at h
 ·rename_i t rest
  split at h
  ·rename_i j i s q ht
   split at h
   ·rename_i tc oo qn l hm
    split at h
    ·rename_i hs
     split at h
     ·rename_i hi
      split at h
      ·rename_i y hy
       generalize U:(Nat.ble N 20000&&Nat.ble 20000 q&&Nat.blt q 60000&&CM ((σ.aG [q,dT] [dT] [(dT,.sl y)]).set t (.lf (.own [dT]))) c (.tmp t :: rest) q)=b at h
       cases b with
       | false=>cases h
       | true=>
        rw[cond_true]at h
        obtain⟨τ,h1,h2⟩:=Mp h
        split at h1
        ·rename_i y' cD
         split at h1
         ·rename_i e He
          exact⟨_,h1,fun X k=>by
           simp only[tU,ht,hm,hs,if_true,hi,dif_pos,hy]
           subst hs
           rw[U,cond_true,h2]
           simp only[cD,He]⟩
         ·cases h1
        ·cases h1
      ·cases h
     ·cases h
    ·cases h
   ·cases h
  ·cases h
 ·cases h
end
end Go.Proofs.YtjldnlbiefpekaaDoor
namespace Go.Proofs.YtjldnlbiefpekaaDoor
open Go.RowKit
set_option linter.unusedVariables false
def aS{α:Type}(f:(X:Type)->(α->Option X)->Option X)(y:α):Prop:=∀ (X:Type) (k:α->Option X),f X k=k y
section
variable {P:Program} {N:Nat} {σ:S} {X:Type} {r:X} {d:Nat} {m:Nat->Option ax}
theorem mm:∀ (q:List Nat) (k:V->Option X),di m q k=some r->∃ y,k y=some r/\nU m q y/\aS (fun X k=>di (X:=X) m q k) y
 | [],_,h=>by simp[di]at h
 | [x],k,h=>by
  simp only[di]at h
  split at h
  ·rename_i y hy;exact⟨y,h,.root x y hy,fun X k=>by simp only[di,hy]⟩
  ·cases h
 | [_,_],_,h=>by simp[di]at h
 | j :: i :: s :: q,k,h=>by
  simp only[di]at h
  obtain⟨y,h2,hg,hd⟩:=mm q _ h
  clear h
  split at h2
  ·split at h2
   ·rename_i hs
    subst hs
    split at h2
    ·rename_i hi
     split at h2
     ·rename_i z hz
      exact⟨z,h2,.elem j i q _ _ _ _ z hg hi hz,fun X k=>by
       simp only[di]
       exact(hd X _).trans (by simp only[if_true,dif_pos hi,hz])⟩
     ·cases h2
    ·cases h2
   ·cases h2
  ·cases h2
theorem sF{x:Lf}{k:V->Option X}(h:eg σ x k=some r):∃ y,k y=some r/\aS (fun X k=>eg (X:=X) σ x k) y:=by
 cases x with
 | v z=>exact⟨z,h,fun X k=>rfl⟩
 | own q=>obtain⟨y,h1,_,h2⟩:=mm q k h;exact⟨y,h1,h2⟩
 | dead=>cases h
theorem Mq{q:List Nat}{s i j:Nat}{k:V->Option X}(h:l7 σ q s i j k=some r):∃ y,k y=some r/\aS (fun X k=>l7 (X:=X) σ q s i j k) y:=by
 obtain⟨y,h1,_,h2⟩:=mm q _ h
 split at h1
 ·rename_i z hz
  exact⟨z,h1,fun X k=>by
   simp only[l7]
   exact(h2 X _).trans (by simp only[hz])⟩
 ·cases h1
theorem Hh{x:A}{k:V->Option X}(h:kC σ x k=some r):∃ y,k y=some r/\aS (fun X k=>kC (X:=X) σ x k) y:=by
 unfold kC at h
 split at h
 ·exact sF h
 ·exact Mq h
 ·cases h
theorem wK{x:A}{k:V->Option X}(h:vK x k=some r):∃ y,k y=some r/\aS (fun X k=>vK (X:=X) x k) y:=by
 obtain⟨y,rfl,h⟩:=Cf h
 exact⟨y,h,fun X k=>rfl⟩
theorem Mr{ty:TypeId}{op:BinOp}{x y:V}{k:V->Option X}(h:iq P ty op x y k=some r):∃ z,k z=some r/\aS (fun X k=>iq (X:=X) P ty op x y k) z:=by
 unfold iq at h
 split at h
 ·rename_i kx a ky b
  split at h
  ·split at h
   ·cases h
   ·rename_i U;exact⟨_,h,fun X k=>by simp only[iq,if_neg U]⟩
  ·split at h
   ·cases h
   ·rename_i U;exact⟨_,h,fun X k=>by simp only[iq,if_neg U]⟩
  ·rename_i h1 h2
   split at h
   ·rename_i hk
    subst hk
    cases op
    case shl=>exact absurd rfl h1
    case shr=>exact absurd rfl h2
    case quo=>
     by_cases U:b=0
     ·simp only[U,if_true]at h;cases h
     ·simp only[U,if_false]at h;exact⟨_,h,fun X k=>by simp only[iq,if_true,if_neg U]⟩
    case rem=>
     by_cases U:b=0
     ·simp only[U,if_true]at h;cases h
     ·simp only[U,if_false]at h;exact⟨_,h,fun X k=>by simp only[iq,if_true,if_neg U]⟩
    all_goals first
     | (refine⟨_,h,fun X k=>?_⟩;simp only[iq,if_true];done)
     | cases h
   ·cases h
 ·split at h
  ·rename_i zx
   split at h
   ·exact⟨_,h,fun X k=>by simp only[iq,zx]⟩
   ·exact⟨_,h,fun X k=>by simp only[iq,zx]⟩
   ·cases h
  ·cases h
 ·rename_i a b
  split at h
  ·cases hL:aY (a.size+b.size)with
   | false=>rw[hL]at h;cases h
   | true=>rw[hL]at h;exact⟨_,h,fun X k=>by simp only[iq,hL,cond_true]⟩
  ·exact⟨_,h,fun X k=>by simp only[iq]⟩
  ·exact⟨_,h,fun X k=>by simp only[iq]⟩
  ·cases h
 ·cases h
theorem Vx{op:BinOp}{t:TypeId}{x y:A}{k:A->Option X}(h:gu P σ op t x y k=some r):∃ z,k z=some r/\aS (fun X k=>gu (X:=X) P σ op t x y k) z:=by
 unfold gu at h
 split at h
 ·rename_i ng cs ds cU
  split at h
  ·rename_i xs ys dO iW
   generalize hg:(P.eqGuardType P.depth t || !isStr P t)=g at h
   cases g with
   | true=>cases h
   | false=>
    rw[cond_false]at h
    split at h
    ·rename_i b U
     exact⟨_,h,fun X k=>by simp only[gu,cU,dO,iW,hg,cond_false,U]⟩
    ·cases h
  ·cases h
 ·rename_i ng l cU
  split at h
  ·rename_i e he
   obtain⟨z,h2,hd⟩:=sF h
   clear h
   split at h2
   ·exact⟨_,h2,fun X k=>by
     simp only[gu,cU,he]
     exact hd X _⟩
   ·exact⟨_,h2,fun X k=>by
     simp only[gu,cU,he]
     exact hd X _⟩
   ·rename_i t' o' l'
    cases hl:tG l' with
    | true=>rw[hl]at h2;cases h2
    | false=>
     rw[hl,cond_false]at h2
     exact⟨_,h2,fun X k=>by
      simp only[gu,cU,he]
      exact(hd X _).trans (by simp only[hl,cond_false])⟩
   ·cases h2
  ·cases h
 ·rename_i x' y' _ _ _ h1 zS
  obtain⟨u0,k1,n6⟩:=wK h
  obtain⟨v0,k2,eP⟩:=wK k1
  obtain⟨z,k3,tW⟩:=Mr k2
  refine⟨_,k3,fun X k=>?_⟩
  have e1:gu P σ op t x' y' k=vK x' fun a=>vK y' fun b=>iq P t op a b fun z=>k (.lf (.v z)):=by
   unfold gu
   split
   ·rename_i ng cs ds cU;exact(h1 ng cs ds cU rfl rfl).elim
   ·rename_i ng l cU;exact(zS ng l cU rfl rfl).elim
   ·rfl
  exact e1.trans ((n6 _ _).trans ((eP _ _).trans (tW _ _)))
theorem Ms{op:UnOp}{x:V}{k:V->Option X}(h:wo op x k=some r):∃ z,k z=some r/\aS (fun X k=>wo (X:=X) op x k) z:=by
 unfold wo at h
 split at h
 ·exact⟨_,h,fun X k=>rfl⟩
 ·exact⟨_,h,fun X k=>rfl⟩
 ·cases h
theorem qa{t:TypeId}{cs:List Lf}{k:A->Option X}(h:fN P t cs k=some r):∃ y,k y=some r/\aS (fun X k=>fN (X:=X) P t cs k) y:=by
 unfold fN at h
 split at h
 ·rename_i n hn
  split at h
  ·rename_i hl
   split at h
   ·rename_i hr;exact⟨_,h,fun X k=>by simp only[fN,hn,if_pos hl,hr]⟩
   ·rename_i hr
    split at h
    ·exact⟨_,h,fun X k=>by simp only[fN,hn,if_pos hl,hr]⟩
    ·cases h
   ·cases h
  ·cases h
 ·cases h
theorem Ak{t:TypeId}{x:A}{k:A->Option X}(h:eN P σ t x k=some r):∃ y,k y=some r/\aS (fun X k=>eN (X:=X) P σ t x k) y:=by
 unfold eN at h
 split at h
 ·cases h
 ·rename_i n hn
  split at h
  ·split at h
   ·rename_i cs bZ
    obtain⟨y,h1,h2⟩:=qa h
    exact⟨y,h1,fun X k=>by simp only[eN,hn,bZ];exact h2 X k⟩
   ·cases h
  ·obtain⟨y,h1,h2⟩:=qa h
   exact⟨y,h1,fun X k=>by simp only[eN,hn];exact h2 X k⟩
  ·rename_i j i s q
   obtain⟨z,h2,_,hd⟩:=mm _ _ h
   clear h
   split at h2
   ·split at h2
    ·rename_i hs
     split at h2
     ·rename_i hi
      obtain⟨y,h3,h4⟩:=qa h2
      exact⟨y,h3,fun X k=>by
       simp only[eN,hn]
       exact(hd X _).trans (by simp only[if_pos hs,dif_pos hi];exact h4 X k)⟩
     ·cases h2
    ·cases h2
   ·cases h2
  ·cases h
theorem Vy{s:TypeId}{x:A}{f:Nat}{k:A->Option X}(h:mI P s x f k=some r):∃ y,k y=some r/\aS (fun X k=>mI (X:=X) P s x f k) y:=by
 unfold mI at h
 split at h
 ·cases h
 ·rename_i fd jO
  split at h
  ·rename_i n hn
   split at h
   ·exact⟨_,h,fun X k=>by simp only[mI,jO,hn]⟩
   ·exact⟨_,h,fun X k=>by simp only[mI,jO,hn]⟩
   ·exact⟨_,h,fun X k=>by simp only[mI,jO,hn]⟩
   ·cases h
  ·cases h
theorem Vz{t:TypeId}{x i:A}{k:A->Option X}(h:jN P σ t x i k=some r):∃ y,k y=some r/\aS (fun X k=>jN (X:=X) P σ t x i k) y:=by
 unfold jN at h
 split at h
 ·cases h
 ·rename_i e he
  split at h
  ·rename_i n kk iv hn
   split at h
   ·rename_i t' g qn l
    split at h
    ·rename_i gY
     cases hg:Nat.blt g 2 with
     | false=>rw[hg]at h;cases h
     | true=>
      rw[hg,cond_true]at h
      split at h
      ·rename_i U
       exact⟨_,h,fun X k=>by simp only[jN,he,hn,if_pos gY,hg,cond_true,dif_pos U]⟩
      ·cases h
    ·cases h
   ·rename_i q
    obtain⟨z,h2,_,hd⟩:=mm _ _ h
    clear h
    split at h2
    ·split at h2
     ·rename_i gY
      split at h2
      ·rename_i U
       rename_i t' g qn l _
       cases nX:Nat.blt g 2 with
       | true=>
        rw[nX,cond_true]at h2
        exact⟨_,h2,fun X k=>by
         simp only[jN,he,hn]
         exact(hd X _).trans (by simp only[if_pos gY,dif_pos U,nX,cond_true])⟩
       | false=>
        rw[nX,cond_false]at h2
        exact⟨_,h2,fun X k=>by
         simp only[jN,he,hn]
         exact(hd X _).trans (by simp only[if_pos gY,dif_pos U,nX,cond_false])⟩
      ·cases h2
     ·cases h2
    ·cases h2
   ·cases h
  ·cases h
theorem VA{t:TypeId}{x:A}{k:A->Option X}(h:ir P σ t x k=some r):∃ y,k y=some r/\aS (fun X k=>ir (X:=X) P σ t x k) y:=by
 unfold ir at h
 split at h
 ·obtain⟨z,h2,hd⟩:=sF h
  clear h
  split at h2
  ·split at h2
   ·rename_i he
    exact⟨_,h2,fun X k=>by simp only[ir];exact(hd X _).trans (by simp only[he])⟩
   ·cases h2
  ·split at h2
   ·rename_i he
    exact⟨_,h2,fun X k=>by simp only[ir];exact(hd X _).trans (by simp only[he])⟩
   ·cases h2
  ·split at h2
   ·rename_i he
    exact⟨_,h2,fun X k=>by simp only[ir];exact(hd X _).trans (by simp only[he])⟩
   ·cases h2
  ·cases h2
 ·split at h
  ·rename_i he
   exact⟨_,h,fun X k=>by simp only[ir,he]⟩
  ·cases h
 ·cases h
theorem VB{x:A}{i:Nat}{k:A->Option X}(h:tv x i k=some r):∃ y,k y=some r/\aS (fun X k=>tv (X:=X) x i k) y:=by
 unfold tv at h
 split at h
 ·split at h
  ·rename_i y hy;exact⟨y,h,fun X k=>by simp only[tv,hy]⟩
  ·cases h
 ·cases h
theorem VC{t:TypeId}{parts:List (Nat×Operand)}{k:A->Option X}(h:nZ P σ t parts k=some r):∃ y,k y=some r/\aS (fun X k=>nZ (X:=X) P σ t parts k) y:=by
 unfold nZ at h
 split at h
 ·rename_i z pl hz ff
  split at h
  ·rename_i cs bZ;exact⟨_,h,fun X k=>by simp only[nZ,hz,ff,bZ]⟩
  ·cases h
 ·cases h
theorem VD{s:TypeId}{x:A}{f:Nat}{k:A->Option X}(h:pH P s x f k=some r):∃ y,k y=some r/\aS (fun X k=>pH (X:=X) P s x f k) y:=by
 unfold pH at h
 split at h
 ·rename_i fd cs jO
  split at h
  ·rename_i n hn hr
   split at h
   ·rename_i hle;exact⟨_,h,fun X k=>by simp only[pH,jO,hn,hr,if_pos hle]⟩
   ·cases h
  ·rename_i n hn hr
   split at h
   ·rename_i y hy;exact⟨_,h,fun X k=>by simp only[pH,jO,hn,hr,hy]⟩
   ·cases h
  ·cases h
 ·cases h
theorem Mt{mx:Bool}{x y:A}{k:A->Option X}(h:tF mx x y k=some r):∃ z,k z=some r/\aS (fun X k=>tF (X:=X) mx x y k) z:=by
 unfold tF at h
 split at h
 ·exact⟨_,h,fun X k=>rfl⟩
 ·cases h
theorem VE{t:TypeId}{x i:A}{k:A->Option X}(h:rW P t x i k=some r):∃ z,k z=some r/\aS (fun X k=>rW (X:=X) P t x i k) z:=by
 unfold rW at h
 split at h
 ·split at h
  ·rename_i hu
   split at h
   ·rename_i U;exact⟨_,h,fun X k=>by simp only[rW,hu,dif_pos U]⟩
   ·cases h
  ·cases h
 ·cases h
theorem VF{src dst:TypeId}{z:V}{k:A->Option X}(h:pJ P src dst z k=some r):∃ y,k y=some r/\aS (fun X k=>pJ (X:=X) P src dst z k) y:=by
 unfold pJ at h
 split at h
 ·cases ht:rY P src dst with
  | false=>rw[ht]at h;cases h
  | true=>rw[ht,cond_true]at h;exact⟨_,h,fun X k=>by simp only[pJ,ht,cond_true]⟩
 ·cases ht:rY P src dst with
  | false=>rw[ht]at h;cases h
  | true=>rw[ht,cond_true]at h;exact⟨_,h,fun X k=>by simp only[pJ,ht,cond_true]⟩
 ·cases h
theorem VG{src dst:TypeId}{x:A}{k:A->Option X}(h:jv P σ src dst x k=some r):∃ z,k z=some r/\aS (fun X k=>jv (X:=X) P σ src dst x k) z:=by
 unfold jv at h
 split at h
 ·split at h
  ·rename_i d1 kd h1 h2;exact⟨_,h,fun X k=>by simp only[jv,h1,h2]⟩
  ·cases h
 ·rename_i y hy
  obtain⟨z,h2,hd⟩:=sF h
  obtain⟨y',h3,eP⟩:=VF h2
  refine⟨_,h3,fun X k=>?_⟩
  have:jv P σ src dst (.lf y) k=eg σ y fun z=>pJ P src dst z k:=by
   unfold jv
   split
   ·rename_i n e;injection e with e;exact(hy _ _ e).elim
   ·rename_i e;injection e with e;subst e;rfl
   ·rename_i h' ;exact absurd rfl (h' _)
  show jv P σ src dst (.lf y) k=k y'
  rw[this]
  exact(hd X _).trans (eP X k)
 ·cases h
end
end Go.Proofs.YtjldnlbiefpekaaDoor
namespace Go.Proofs.YtjldnlbiefpekaaDoor
open Go.RowKit
set_option linter.unusedVariables false
section
variable {P:Program} {N:Nat} {σ:S} {X:Type} {r:X} {d:Nat} {m:Nat->Option ax} {o:Oper}
theorem aS.at_{α:Type}{f:(X:Type)->(α->Option X)->Option X}{y:α}(h:aS f y){X:Type}(k:α->Option X):f X k=k y:=h X k
theorem oq{x:ax}{y:A}{k:S->Option X}(h:en N σ d x y k=some r):k (((σ.drop d).root d x).set d y)=some r/\aS (fun X k=>en (X:=X) N σ d x y k) (((σ.drop d).root d x).set d y):=by
 unfold en at h
 cases hN:Nat.blt d N with
 | false=>rw[hN]at h;cases h
 | true=>rw[hN]at h;exact⟨h,fun X k=>by simp only[en,hN,cond_true]⟩
theorem Mv{e:TypeId}{k:S->Option X}(h:mc P N σ d e k=some r):∃ x y,k (((σ.drop d).root d x).set d y)=some r/\y = .aF d 0/\(∀ (aa:S),aS (fun X k=>mc (X:=X) P N aa d e k) (((aa.drop d).root d x).set d y)):=by
 unfold mc at h
 split at h
 ·rename_i z hz
  obtain⟨h1,_⟩:=oq h
  refine⟨_,_,h1,rfl,fun aa X k=>?_⟩
  obtain⟨hN,_⟩:=jt h
  have U:Nat.blt d N=true:=Nat.ble_eq_true_of_le hN
  simp only[mc,hz,en,U,cond_true]
 ·cases h
theorem Hi{t:TypeId}{l c:A}{k:S->Option X}(h:tB P N σ d t l c k=some r):∃ y,k (((σ.drop d).root d (.sl y)).set d (.lf (.own [d])))=some r/\(∀ (aa:S),aS (fun X k=>tB (X:=X) P N aa d t l c k) (((aa.drop d).root d (.sl y)).set d (.lf (.own [d])))):=by
 unfold tB at h
 split at h
 ·rename_i e tc kl n kc c eo
  split at h
  ·cases h
  ·rename_i z hz
   split at h
   ·rename_i U
    obtain⟨h1,_⟩:=oq h
    refine⟨_,h1,fun aa X k=>?_⟩
    obtain⟨hN,_⟩:=jt h
    have eI:Nat.blt d N=true:=Nat.ble_eq_true_of_le hN
    simp only[tB,eo,hz,if_pos U,en,eI,cond_true]
   ·cases h
 ·cases h
theorem Hj{t:TypeId}{len:Nat}{parts:List (Nat×Operand)}{k:S->Option X}(h:tE P N σ d t len parts k=some r):∃ y,k (((σ.drop d).root d (.sl y)).set d (.lf (.own [d])))=some r/\
  (∀ (aa:S),(∀ p∈parts,ah aa p.2=ah σ p.2)->aS (fun X k=>tE (X:=X) P N aa d t len parts k) (((aa.drop d).root d (.sl y)).set d (.lf (.own [d])))):=by
 unfold tE at h
 split at h
 ·rename_i e tc eo
  split at h
  ·rename_i z hz
   cases hc:(Nat.beq (full tc) 0&&Nat.beq z.cells.size (aj tc)&&Nat.blt (len*aj tc) 16777217)with
   | false=>rw[hc]at h;cases h
   | true=>
    rw[hc,cond_true]at h
    split at h
    ·rename_i cs bZ
     split at h
     ·rename_i vs cT
      split at h
      ·rename_i l hl
       obtain⟨h1,_⟩:=oq h
       refine⟨_,h1,fun aa Al X k=>?_⟩
       obtain⟨hN,_⟩:=jt h
       have eI:Nat.blt d N=true:=Nat.ble_eq_true_of_le hN
       have e:(parts.map fun p=>(p.1,ah aa p.2))=parts.map fun p=>(p.1,ah σ p.2):=List.map_congr_left fun p hp=>by rw[Al p hp]
       simp only[tE,eo,hz,hc,cond_true,e,bZ,cT,hl,en,eI]
      ·cases h
     ·cases h
    ·cases h
  ·cases h
 ·cases h
theorem VH{t:TypeId}{x:A}{lo hi:Option A}{k:A->Option X}(h:kF P σ t x lo hi k=some r):∃ y,k y=some r/\aS (fun X k=>kF (X:=X) P σ t x lo hi k) y:=by
 unfold kF at h
 split at h
 ·rename_i q
  unfold r8 at h
  split at h
  ·rename_i e he
   split at h
   ·rename_i n hn
    obtain⟨y,h1,_,hd⟩:=mm q _ h
    obtain⟨tc,g,qn,xs,l,m,rfl,gY,e1,e2,b1,b2,b3,h3,hf⟩:=LQ h1
    refine⟨_,h3,fun X k=>?_⟩
    simp only[kF,r8,he,hn]
    exact(hd X _).trans (hf X k)
   ·cases h
  ·cases h
 ·rename_i hx
  obtain⟨y,h1,hd,_⟩:=LP h
  refine⟨y,h1,fun X k=>?_⟩
  simp only[kF]
  exact hd X k
theorem VI{t:TypeId}{x y:A}{k:S->Option X}(h:kD P N σ d t x y k=some r):∃ τ,k τ=some r/\aS (fun X k=>kD (X:=X) P N σ d t x y k) τ:=by
 unfold kD at h
 split at h
 ·rename_i e tc eo
  cases hc:(Nat.beq (full tc) 0&&(zeroOf P e).any (fun z=>Nat.beq z.cells.size (aj tc)))with
  | false=>rw[hc]at h;cases h
  | true=>
   rw[hc,cond_true]at h
   obtain⟨yv,h2,hd⟩:=Hh h
   clear h
   split at h2
   ·cases h2
   ·rename_i l2 ep
    split at h2
    ·cases hL:aY l2.length with
     | false=>rw[hL]at h2;cases h2
     | true=>
      rw[hL,cond_true]at h2
      obtain⟨h3,h4⟩:=oq h2
      exact⟨_,h3,fun X k=>by
       simp only[kD,eo,hc,cond_true]
       exact(hd.at_ _).trans (by simp only[ep,hL,cond_true];exact h4 X k)⟩
    ·rename_i rr
     split at h2
     ·rename_i t' o q l hm
      split at h2
      ·rename_i dy
       cases hL:(Nat.blt d N&&(Nat.blt rr N || Nat.ble 60000 rr)&&aY (l.length+l2.length))with
       | false=>rw[hL]at h2;cases h2
       | true=>
        rw[hL,cond_true]at h2
        exact⟨_,h2,fun X k=>by
         simp only[kD,eo,hc,cond_true]
         exact(hd.at_ _).trans (by simp only[ep,hm,dif_pos dy,hL,cond_true])⟩
      ·cases h2
     ·cases h2
    ·cases h2
 ·cases h
theorem Mw:∀ (q:List Nat) (y:V) (k:(Nat->Option ax)->Option X),jM m q y k=some r->∃ m',k m'=some r/\aS (fun X k=>jM (X:=X) m q y k) m'
 | [],_,_,h=>by simp[jM]at h
 | [x],y,k,h=>by
  simp only[jM]at h
  split at h
  ·rename_i y0 hy;exact⟨_,h,fun X k=>by simp only[jM,hy]⟩
  ·cases h
 | [_,_],_,_,h=>by simp[jM]at h
 | j :: i :: s :: q,y,k,h=>by
  simp only[jM]at h
  obtain⟨z,h2,_,hd⟩:=mm q _ h
  clear h
  split at h2
  ·split at h2
   ·rename_i hs
    split at h2
    ·rename_i hi
     split at h2
     ·rename_i hj
      split at h2
      ·rename_i e he
       obtain⟨m',h3,h4⟩:=Mw q _ k h2
       exact⟨m',h3,fun X k=>by
        simp only[jM]
        exact(hd.at_ _).trans (by simp only[if_pos hs,dif_pos hi,if_pos hj,he];exact h4 X k)⟩
      ·cases h2
     ·cases h2
    ·cases h2
   ·cases h2
  ·cases h2
theorem Mx{t:TypeId}{x y:A}{k:S->Option X}(h:iU P σ t x y k=some r):∃ τ,k τ=some r/\aS (fun X k=>iU (X:=X) P σ t x y k) τ:=by
 unfold iU at h
 split at h
 ·rename_i n xs hn dO
  split at h
  ·rename_i hlen
   split at h
   ·rename_i r' j
    split at h
    ·rename_i cs bZ
     split at h
     ·rename_i hj
      cases hl:xs.all Lf.live with
      | false=>rw[hl]at h;cases h
      | true=>rw[hl]at h;exact⟨_,h,fun X k=>by simp only[iU,hn,dO,if_pos hlen,bZ,if_pos hj,hl,cond_true]⟩
     ·cases h
    ·cases h
   ·rename_i j i s q
    split at h
    ·cases h
    ·rename_i vs cT
     obtain⟨y0,h2,hg0,hd⟩:=mm _ _ h
     clear h
     split at h2
     ·rename_i t' o' qn l
      split at h2
      ·rename_i hs
       split at h2
       ·rename_i hi
        split at h2
        ·rename_i hj
         cases hold:(((enc t' o' l[i]).drop j).take vs.length).all V.plain with
         | false=>rw[hold]at h2;cases h2
         | true=>
          rw[hold,cond_true]at h2
          split at h2
          ·rename_i e he
           obtain⟨m',h3,h4⟩:=Mw q _ _ h2
           exact⟨_,h3,fun X k=>by
            simp only[iU,hn,dO,if_pos hlen,cT]
            exact(hd.at_ _).trans (by simp only[if_pos hs,dif_pos hi,if_pos hj,hold,cond_true,he];exact h4.at_ _)⟩
          ·cases h2
        ·cases h2
       ·cases h2
      ·cases h2
     ·cases h2
   ·cases h
  ·cases h
 ·cases h
theorem Am:∀ (xs:List Lf) (k:List V->Option X),iZ σ xs k=some r->∃ vs,k vs=some r/\aS (fun X k=>iZ (X:=X) σ xs k) vs
 | [],k,h=>⟨[],h,fun X k=>rfl⟩
 | x :: xs,k,h=>by
  unfold iZ at h
  obtain⟨y,h2,hd⟩:=sF h
  obtain⟨ys,h3,eP⟩:=Am xs _ h2
  exact⟨_,h3,fun X k=>by
   simp only[iZ]
   exact(hd.at_ _).trans (eP.at_ _)⟩
theorem My{x:A}{k:Pt->Option X}(h:iu σ x k=some r):∃ p,k p=some r/\aS (fun X k=>iu (X:=X) σ x k) p:=by
 unfold iu at h
 split at h
 ·obtain⟨vs,h2,hd⟩:=Am _ _ h;exact⟨_,h2,fun X k=>by simp only[iu];exact hd.at_ _⟩
 ·obtain⟨vs,h2,hd⟩:=Am _ _ h;exact⟨_,h2,fun X k=>by simp only[iu];exact hd.at_ _⟩
 ·obtain⟨y,h2,hd⟩:=Mq h;exact⟨_,h2,fun X k=>by simp only[iu];exact hd.at_ _⟩
 ·exact⟨_,h,fun X k=>rfl⟩
 ·cases h
theorem Hl:∀ (xs:List Operand) (k:List Pt->Option X),fF σ xs k=some r->∃ ps,k ps=some r/\aS (fun X k=>fF (X:=X) σ xs k) ps
 | [],k,h=>⟨[],h,fun X k=>rfl⟩
 | x :: xs,k,h=>by
  unfold fF at h
  obtain⟨p,h2,hd⟩:=My h
  obtain⟨ps,h3,eP⟩:=Hl xs _ h2
  exact⟨_,h3,fun X k=>by
   simp only[fF]
   exact(hd.at_ _).trans (eP.at_ _)⟩
theorem VJ{x:A}{k:Pt->Option X}(h:pN σ x k=some r):∃ p,k p=some r/\aS (fun X k=>pN (X:=X) σ x k) p:=by
 unfold pN at h
 split at h
 ·exact⟨_,h,fun X k=>rfl⟩
 ·exact⟨_,h,fun X k=>rfl⟩
 ·split at h
  ·rename_i cs hm
   obtain⟨vs,h2,hd⟩:=Am _ _ h
   split at h2
   ·exact⟨_,h2,fun X k=>by simp only[pN,hm];exact hd.at_ _⟩
   ·cases h2
  ·cases h
 ·split at h
  ·rename_i cs hm
   obtain⟨vs,h2,hd⟩:=Am _ _ h
   split at h2
   ·exact⟨_,h2,fun X k=>by simp only[pN,hm];exact hd.at_ _⟩
   ·cases h2
  ·cases h
 ·rename_i y h1 h2 h3 h4
  obtain⟨p,h5,hd⟩:=My h
  exact⟨p,h5,fun X k=>by
   unfold pN
   split
   ·exact absurd rfl (h1 _ _)
   ·exact absurd rfl (h2 _ _ _)
   ·exact absurd rfl (h3 _ _)
   ·exact absurd rfl (h4 _ _ _)
   ·exact hd.at_ _⟩
theorem Mz:∀ (xs:List Operand) (k:List Pt->Option X),sn σ xs k=some r->∃ ps,k ps=some r/\aS (fun X k=>sn (X:=X) σ xs k) ps
 | [],k,h=>⟨[],h,fun X k=>rfl⟩
 | x :: xs,k,h=>by
  unfold sn at h
  obtain⟨p,h2,hd⟩:=VJ h
  obtain⟨ps,h3,eP⟩:=Mz xs _ h2
  exact⟨_,h3,fun X k=>by
   simp only[sn]
   exact(hd.at_ _).trans (eP.at_ _)⟩
theorem VK{f:Nat}{c:cu}{args:List Operand}{k:S->Option X}(hc:cw P f c)(h:so N σ d c args k=some r):∃ τ,k τ=some r/\aS (fun X k=>so (X:=X) N σ d c args k) τ:=by
 unfold so at h
 cases hN:Nat.blt d N with
 | false=>rw[hN]at h;cases h
 | true=>
  rw[hN,cond_true]at h
  obtain⟨ps,h2,hd⟩:=Mz _ _ h
  obtain⟨res,h3,eP,_⟩:=hc X ps _ r h2
  cases res with
  | one p=>
   simp only at h3
   split at h3
   ·rename_i y hy
    refine⟨_,h3,fun X k=>?_⟩
    simp only[so,hN,cond_true]
    refine(hd.at_ _).trans ((eP X _).trans ?_)
    simp only[hy]
   ·cases h3
  | aU jS=>
   refine⟨_,h3,fun X k=>?_⟩
   simp only[so,hN,cond_true]
   exact(hd.at_ _).trans (eP X _)
def ot(d:Nat)(res:dz)(σ:S):Option S:=match res with
 | .one p=>match mb (p.1,fO (1000000000100000+1000*d) p.2)with
  | some y=>some ((dF (1000000000100000+1000*d) σ p.2).set d y)
  | none=>none
 | .aU ps=>some ((eW (1000000000100000+1000*d) σ ps).set d (.aU (gv (1000000000100000+1000*d) ps)))
theorem wL{f:Nat}{c:cu}{args:List Operand}{k:S->Option X}(hc:cw P f c)(h:pO N σ d c args k=some r):∃ res τ,ot d res σ=some τ/\k τ=some r/\
  (∀ aa dD,(∀ (X:Type) (k:List Pt->Option X),fF aa args k=fF σ args k)->ot d res aa=some dD->aS (fun X k=>pO (X:=X) N aa d c args k) dD):=by
 unfold pO at h
 cases hN:Nat.blt d N with
 | false=>rw[hN]at h;cases h
 | true=>
  rw[hN,cond_true]at h
  obtain⟨ps,h2,hd⟩:=Hl _ _ h
  obtain⟨res,h3,eP,_⟩:=hc X ps _ r h2
  have step:∀ aa dD,(∀ (X:Type) (k:List Pt->Option X),fF aa args k=fF σ args k)->ot d res aa=some dD->aS (fun X k=>pO (X:=X) N aa d c args k) dD:=by
   intro aa dD ha cr X k
   simp only[pO,hN,cond_true]
   rw[ha]
   refine(hd.at_ _).trans ((eP X _).trans ?_)
   unfold ot at cr
   cases res with
   | one p=>
    simp only at cr ⊢
    split at cr
    ·rename_i y hy
     injection cr with cr
     subst cr
     simp only[hy]
    ·cases cr
   | aU jS=>
    injection cr with cr
    subst cr
    rfl
  cases res with
  | one p=>
   simp only at h3
   split at h3
   ·rename_i y hy
    exact⟨.one p,_,by simp only[ot,hy],h3,step⟩
   ·cases h3
  | aU jS=>exact⟨.aU jS,_,rfl,h3,step⟩
/-! Keys that do not end in certain names. -/
def ct(p:Nat->Bool)(k:List Nat):Bool:=match k.getLast? with
 | some r=>!p r
 | none=>true
def Lf.nr(p:Nat->Bool):Lf->Bool
 | .own k=>ct p k
 | _=>true
def A.nr(p:Nat->Bool):A->Bool
 | .lf x=>x.nr p
 | .agg cs=>cs.all (Lf.nr p)
 | .aU xs=>xs.all fun q=>q.2.all (Lf.nr p)
 | .ptr k=>ct p k
 | .aF r _=>!p r
 | .pk r _=>!p r
 | .view k _ _ _=>ct p k
 | .fn _ cap=>cap.all fun q=>!p q.1
 | _=>true
theorem mV{p:Nat->Bool}{k:List Nat}{n:Nat}(h:ct p k=true)(hn:p n=true):aE n k=false:=by
 unfold ct at h
 unfold aE
 split at h
 ·rename_i r hr
  rw[hr]
  have:r≠n:=by rintro rfl;simp[hn]at h
  simpa using this
 ·rename_i hr;rw[hr];rfl
theorem Lf.gN{p:Nat->Bool}{x:Lf}{n:Nat}(h:x.nr p=true)(hn:p n=true):x.drop n=x:=by
 cases x with
 | own k=>
  have e:Lf.drop n (.own k)=(bif aE n k then .dead else .own k):=rfl
  rw[e,mV h hn]
  rfl
 | v x=>rfl
 | dead=>rfl
theorem dX.gN{p:Nat->Bool}{xs:List Lf}{n:Nat}(h:xs.all (Lf.nr p)=true)(hn:p n=true):xs.map (Lf.drop n)=xs:=by
 conv=>rhs;rw[<-List.map_id xs]
 exact List.map_congr_left fun x hx=>Lf.gN (List.all_eq_true.1 h x hx) hn
theorem A.gN{p:Nat->Bool}{x:A}{n:Nat}(h:x.nr p=true)(hn:p n=true):x.drop n=x:=by
 cases x with
 | lf x=>exact congrArg A.lf (Lf.gN h hn)
 | agg cs=>exact congrArg A.agg (dX.gN h hn)
 | aU xs=>
  refine congrArg A.aU ?_
  conv=>rhs;rw[<-List.map_id xs]
  refine List.map_congr_left fun q hq=>?_
  have:=dX.gN (List.all_eq_true.1 h q hq) hn
  simp only[id]
  rw[this]
 | ptr k=>
  have e:A.drop n (.ptr k)=(bif aE n k then .undef else .ptr k):=rfl
  rw[e,mV h hn];rfl
 | view k s i j=>
  have e:A.drop n (.view k s i j)=(bif aE n k then .undef else .view k s i j):=rfl
  rw[e,mV h hn];rfl
 | pk r j=>
  have e:A.drop n (.pk r j)=(bif Nat.beq r n then .undef else .pk r j):=rfl
  have:Nat.beq r n=false:=by
   cases U:Nat.beq r n with
   | false=>rfl
   | true=>
    obtain rfl:=Nat.eq_of_beq_eq_true U
    have h:(!p r)=true:=h
    rw[hn]at h;cases h
  rw[e,this];rfl
 | aF r j=>
  have e:A.drop n (.aF r j)=(bif Nat.beq r n then .undef else .aF r j):=rfl
  have:Nat.beq r n=false:=by
   cases U:Nat.beq r n with
   | false=>rfl
   | true=>
    obtain rfl:=Nat.eq_of_beq_eq_true U
    have h:(!p r)=true:=h
    rw[hn]at h;cases h
  rw[e,this];rfl
 | fn f cap=>
  have e:A.drop n (.fn f cap)=(bif cap.any (fun p=>Nat.beq p.1 n)then .undef else .fn f cap):=rfl
  have:cap.any (fun p=>Nat.beq p.1 n)=false:=by
   rw[List.any_eq_false]
   intro q hq U
   obtain U:=Nat.eq_of_beq_eq_true U
   have:=List.all_eq_true.1 h q hq
   rw[U,hn]at this;cases this
  rw[e,this];rfl
 | _=>rfl
theorem S.ext'{σ τ:S}(h1:∀ k,σ.t k=τ.t k)(h2:∀ r,σ.m r=τ.m r):σ=τ:=by
 cases σ;cases τ
 simp only[S.mk.injEq]
 exact⟨funext h1,funext h2⟩
theorem S.set_set{e d:Nat}(h:e≠d)(v u:A):(σ.set d v).set e u=(σ.set e u).set d v:=by
 refine S.ext' (fun k=>?_) fun _=>rfl
 show aI (aI σ.t d v) e u k=aI (aI σ.t e u) d v k
 by_cases h1:k=e
 ·subst h1;rw[aK,aQ _ _ _ h,aK]
 ·by_cases h2:k=d
  ·subst h2;rw[aQ _ _ _ h1,aK,aK]
  ·rw[aQ _ _ _ h1,aQ _ _ _ h2,aQ _ _ _ h2,aQ _ _ _ h1]
theorem S.drop_set(n:Nat){v:A}(hv:v.drop n=v):(σ.set d v).drop n=(σ.drop n).set d v:=by
 refine S.ext' (fun k=>?_) fun _=>rfl
 show (aI σ.t d v k).drop n=aI (fun k=>(σ.t k).drop n) d v k
 by_cases h:k=d
 ·subst h;rw[aK,aK,hv]
 ·rw[aQ _ _ _ h,aQ _ _ _ h]
theorem An(v:A):∀ (xs:List V) (c:Nat) (σ:S),(∀ n,c<=n->v.drop n=v)->dF c (σ.set d v) xs=(dF c σ xs).set d v
 | [],c,σ,h=>rfl
 | x :: xs,c,σ,h=>by
  simp only[dF]
  cases hf:x.av with
  | true=>
   simp only[cond_true]
   exact An v xs (c+1) σ (fun n hn=>h n (by omega))
  | false=>
   simp only[cond_false]
   rw[S.drop_set c (h c (Nat.le_refl _))]
   exact An v xs (c+1) ((σ.drop c).root c (.sl x)) (fun n hn=>h n (by omega))
theorem Ho(v:A):∀ (ps:List Pt) (c:Nat) (σ:S),(∀ n,c<=n->v.drop n=v)->eW c (σ.set d v) ps=(eW c σ ps).set d v
 | [],c,σ,h=>rfl
 | p :: ps,c,σ,h=>by
  simp only[eW]
  rw[An v p.2 c σ h]
  exact Ho v ps _ _ (fun n hn=>h n (by omega))
end
end Go.Proofs.YtjldnlbiefpekaaDoor
namespace Go.Proofs.YtjldnlbiefpekaaDoor
open Go.RowKit
set_option linter.unusedVariables false
def tX{X:Type}(N:Nat)(σ:S)(d:Nat)(x:A)(k:S->Option X):Option X:=
 match x.rS with
 | some xs=>bif xs.all Lf.live then en N σ d (.blk (xs.map (Lf.drop d))) (.aF d 0) k else none
 | none=>none
def CP{X:Type}(x:A)(k:A->Option X):Option X:=
 match x with
 | .aF r j=>k (.aF r j)
 | .ptr q=>k (.ptr q)
 | .ec cs=>k (.ec cs)
 | _=>none
section
variable {P:Program} {w w':World} {w0:Wd} {B N:Nat} {lab af:aH} {ρ ρ':Nat->Loc} {σ:S} {a:Act} {X:Type} {d:Nat} {r:X} {o:Oper}
theorem VL{e:TypeId}{x:A}{k:S->Option X}(h:tX N σ d x k=some r):∃ aa,k aa=some r/\∀ lab ρ a w,Rl w0 N lab ρ σ a w->∀ u,RA w w0.heap.size lab ρ x u->
  ∃ w' af ρ' v,(Instr.box e u).run P w = .ok v w'/\Rl w0 N af ρ' aa (a.put (some d) v) w':=by
 unfold tX at h
 split at h
 ·rename_i xs dO
  cases eU:xs.all Lf.live with
  | false=>rw[eU]at h;cases h
  | true=>
   rw[eU,cond_true]at h
   obtain⟨hd,h⟩:=jt h
   refine⟨_,h,fun lab ρ a w hR u hu=>?_⟩
   obtain⟨hl,_⟩:=zA dO eU hu
   have aD:(Instr.box e u).run P w = .ok (.pointer (some ⟨w.heap.size,0,none⟩)) (w.alloc (.cells u.cells e)):=by
    simp[Instr.box,newVar,newRow]
   refine⟨_,aI lab w.heap.size (some [d]),aI ρ d (.blk w.heap.size 0),_,aD,(hR.wz (hR.cF d (.inl hd)) (fun r hr=>aQ _ _ _ hr) ?_).set ⟨w.heap.size,0,aK _ _ _,rfl⟩ hd⟩
   have h1:bK (w.alloc (.cells u.cells e)) w0.heap.size (aI lab w.heap.size (some [d])) ρ xs u.cells:=
    hl.dh (by simp) (fun b U=>⟨Below.heap_alloc w _ b U,aQ _ _ _ (by omega)⟩) (fun b k U=>(hR.bh b k U).2.1)
   have h2:=h1.b8 (ρ':=aI ρ d (.blk w.heap.size 0)) (d:=d) (fun r hr=>aQ _ _ _ hr)
   refine .blk w.heap.size 0 u.cells e _ (fun j=>u.cells.getD j undef) (aK _ _ _) (aK _ _ _) (heap_alloc_new w _) (by rw[h2.1];omega) fun j y hy=>?_
   obtain⟨v,hv,hr⟩:=h2.2 j y hy
   have hg:u.cells.getD j undef=v:=by rw[Array.getD_eq_getD_getElem?,hv];rfl
   rw[hg,Nat.zero_add]
   exact⟨hv,hr⟩
 ·cases h
theorem MA{x:A}{k:S->Option X}(h:tX N σ d x k=some r):∃ y u,k (((σ.drop d).root d y).set d u)=some r/\(∀ (aa:S),aS (fun X k=>tX (X:=X) N aa d x k) (((aa.drop d).root d y).set d u)):=by
 unfold tX at h
 split at h
 ·rename_i xs dO
  cases eU:xs.all Lf.live with
  | false=>rw[eU]at h;cases h
  | true=>
   rw[eU,cond_true]at h
   obtain⟨h1,_⟩:=oq h
   refine⟨_,_,h1,fun aa X k=>?_⟩
   obtain⟨hN,_⟩:=jt h
   have U:Nat.blt d N=true:=Nat.ble_eq_true_of_le hN
   simp only[tX,dO,eU,en,U,cond_true]
 ·cases h
theorem MB{x:A}{k:A->Option X}(h:CP x k=some r):k x=some r/\aS (fun X k=>CP (X:=X) x k) x/\∀ u,RA w B lab ρ x u->∃ ad,u = .pointer (some ad):=by
 unfold CP at h
 split at h
 ·exact⟨h,fun X k=>rfl,fun u hu=>by obtain⟨b,off,_,rfl⟩:=hu;exact⟨_,rfl⟩⟩
 ·exact⟨h,fun X k=>rfl,fun u hu=>by obtain⟨ad,rfl,_⟩:=hu;exact⟨_,rfl⟩⟩
 ·exact⟨h,fun X k=>rfl,fun u hu=>by obtain⟨b,off,rfl,_⟩:=hu;exact⟨_,rfl⟩⟩
 ·cases h
end
end Go.Proofs.YtjldnlbiefpekaaDoor
namespace Go.Proofs.YtjldnlbiefpekaaDoor
open Go.RowKit
set_option linter.unusedVariables false
def jz(t:TypeId):Bool:=[999999,999999,999999,999999,999999,999999,999999,999999,999999,999999,999999,999999,999999,999999,999999,999999,999999,999999,38,999999,999999,999999,999999,999999].any (Nat.beq t)
def sG{X:Type}(P:Program)(N:Nat)(σ:S)(d:Nat)(t:TypeId)(len:Nat)(parts:List (Nat×Operand))(k:S->Option X):Option X:=
 match pe P t with
 | some (e,tc)=>match zeroOf P e with
  | some z=>bif Nat.beq z.cells.size (aj tc)&&Nat.blt (len*aj tc) 16777217 then (match rV (fun i=>some (i*aj tc,aj tc)) (List.replicate len (z.cells.toList.map eJ)).flatten (parts.map fun p=>(p.1,ah σ p.2))with
   | some cs=>bif Nat.beq len 0 then en N σ d (.sl (.sl tc (full tc+2) true [])) (.lf (.own [d])) k else en N σ d (.blk (cs.map (Lf.drop d))) (.pk d len) k
   | none=>none)else none
  | none=>none
 | none=>none
def qb{X:Type}(N:Nat)(σ:S)(d r ry:Nat)(tc:TC)(n:Nat)(k:S->Option X):Option X:=
 match σ.m ry,σ.m r with
 | some (.blk cs),some (.sl (.sl t' (o+2) q l))=>if h:t'=tc then (match k8 r (fun j=>(j % aj tc) :: (l.length+j / aj tc) :: aj tc :: [r]) cs.length 0 cs σ with
  | some (vs,τ)=>(match zG tc o n vs with
   | some l2=>bif Nat.blt d N&&aY (l.length+l2.length)then k (((τ.drop r).root r (.sl (.sl tc (o+2) false ((h ▸ l)++l2)))).set d (.lf (.own [r])))else none
   | none=>none)
  | none=>none)else none
 | _,_=>none
def sH{X:Type}(P:Program)(N:Nat)(σ:S)(d:Nat)(t:TypeId)(x y:A)(k:S->Option X):Option X:=
 match pe P t,y with
 | some (e,tc),.pk ry n=>bif (zeroOf P e).any (fun z=>Nat.beq z.cells.size (aj tc))&&(Nat.blt d N&&Nat.blt n kA)then (match x with
  | .lf (.v .nil)=>qb N ((σ.drop d).root d (.sl (.sl tc (full tc+2) false []))) d d ry tc n k
  | .lf (.own [r])=>bif Nat.blt r N || Nat.ble 60000 r then qb N σ d r ry tc n k else none
  | _=>none)else none
 | _,_=>none
def tY{X:Type}(P:Program)(σ:S)(t:TypeId)(x y:A)(k:S->Option X):Option X:=
 match fM P t,y.rS,x with
 | some n,some xs,.ptr [j,i,s,r]=>if xs.length=n then (bif xs.all Lf.live then (match k8 r (fun m=>(j+m) :: i :: s :: [r]) xs.length 0 xs σ with
  | some (vs,τ)=>(match τ.m r with
   | some (.sl (.sl t' (o+2) qn l))=>if s=aj t' then (if h:i<l.length then (if j+n<=aj t' then (match dec t' o (cQ (enc t' o l[i]) j vs)with
    | some e=>k (τ.aG [r] [] [(r,.sl (.sl t' (o+2) qn (l.set i e)))])
    | none=>none)else none)else none)else none
   | _=>none)
  | none=>none)else none)else none
 | _,_,_=>none
def tZ(x y:A):Bool:=match x,y.rS with
 | .ptr _,some xs=>(o5 xs).isNone
 | _,_=>false
section
variable {P:Program} {w w':World} {w0:Wd} {B N:Nat} {lab af:aH} {ρ ρ':Nat->Loc} {σ:S} {a:Act} {X:Type} {d:Nat} {r:X} {o:Oper}
theorem MC{place:Nat->Option (Nat×Nat)}:∀ (parts:List (Nat×A)) (cells out:List Lf),rV place cells parts=some out->out.length=cells.length
 | [],cells,out,h=>by injection h with h;rw[h]
 | (i,x) :: rest,cells,out,h=>by
  unfold rV at h
  split at h
  ·rename_i off n xs hp hx
   split at h
   ·rename_i hc
    cases hl:xs.all Lf.live with
    | true=>
     rw[hl,cond_true]at h
     rw[MC rest _ _ h,tj _ _ _ (by omega)]
    | false=>rw[hl]at h;cases h
   ·cases h
  ·cases h
theorem VM{t:TypeId}{len:Nat}{parts:Array (Nat×Operand)}{k:S->Option X}(h:sG P N σ d t len parts.toList k=some r):∃ aa,k aa=some r/\∀ lab ρ a w,Rl w0 N lab ρ σ a w->
  ∃ w' af ρ' v,(Instr.buildSlice t len (parts.map fun(i,x)=>(i,a.eval x))).run P w = .ok v w'/\Rl w0 N af ρ' aa (a.put (some d) v) w':=by
 unfold sG at h
 split at h
 ·rename_i e tc eo
  obtain⟨cP,ht,i,hi,hsz,dS⟩:=tC eo
  split at h
  ·rename_i z hz
   cases hc:(Nat.beq z.cells.size (aj tc)&&Nat.blt (len*aj tc) 16777217)with
   | false=>rw[hc]at h;cases h
   | true=>
    rw[hc,cond_true]at h
    rw[Bool.and_eq_true]at hc
    have dL:=Nat.eq_of_beq_eq_true hc.1
    have Uk:len*aj tc<16777217:=by have:=Nat.le_of_ble_eq_true hc.2;omega
    have k9:i.zero=some z:=by unfold zeroOf at hz;simpa [hi]using hz
    split at h
    ·rename_i cs bZ
     have key:∀ lab ρ (a:Act) w,Rl w0 N lab ρ σ a w->∃ c9,(Instr.buildSlice t len (parts.map fun(i,x)=>(i,a.eval x))).run P w = .ok (.slice (some ⟨w.heap.size,0,none⟩) len len) (w.alloc (.cells c9 e))/\bK w w0.heap.size lab ρ cs c9/\c9.size=cs.length:=fun lab ρ a w hR=>by
      have Gs:bK w w0.heap.size lab ρ (List.replicate len (z.cells.toList.map eJ)).flatten (madeCells z.cells (len*aj tc)):=by
       have e1:(List.replicate len (z.cells.toList.map eJ)).flatten=((List.replicate len z.cells.toList).flatten).map eJ:=by
        rw[List.map_flatten,List.map_replicate]
       rw[e1,<-LH z.cells (aj tc) len dL (lY tc)]
       refine⟨by simp,fun j x hx=>?_⟩
       rw[List.getElem?_map]at hx
       cases hv:(madeCells z.cells (len*aj tc)).toList[j]? with
       | none=>rw[hv]at hx;cases hx
       | some v=>
        rw[hv]at hx
        injection hx with hx
        subst hx
        exact⟨v,by simpa using hv,Ck v⟩
      obtain⟨c9,pK,hl⟩:=Cp (w:=w) (B:=w0.heap.size) (lab:=lab) (ρ:=ρ) _ _ _ (parts.toList.map fun p=>(p.1,a.eval p.2)) cs bZ Gs (by simp) (fun j p q hp hq=>by
       rw[List.getElem?_map]at hp hq
       cases hx:parts.toList[j]? with
       | none=>rw[hx]at hp;cases hp
       | some x=>
        rw[hx]at hp hq
        injection hp with hp
        injection hq with hq
        subst hp hq
        exact⟨rfl,hR.ah x.2⟩)
      have aD:(Instr.buildSlice t len (parts.map fun(i,x)=>(i,a.eval x))).run P w = .ok (.slice (some ⟨w.heap.size,0,none⟩) len len) (w.alloc (.cells c9 e)):=by
       have zH:(parts.map fun(i,x)=>(i,a.eval x)).toList=parts.toList.map fun p=>(p.1,a.eval p.2):=by simp
       by_cases h0:len*aj tc=0
       ·have hm:madeCells z.cells (len*aj tc) = #[]:=by rw[h0];simp[madeCells]
        rw[hm]at pK
        have Gt:len*i.size=0:=by rw[hsz];exact h0
        rw[<-hsz]at pK
        have e0:∀ f:Nat->Value,Array.map f (Array.range 0) = #[]:=fun f=>by simp
        simp only[Instr.buildSlice,Sem.run_bind,run_underlying cP,Result.andThen_ok,sizeOf,typeInfo]
        simp[hi,Gt]
        rw[e0,pK]
        simp[newRow]
       ·exact run_buildSlice (P:=P) w t e len _ c9 i z cP hi k9 (by rw[hsz];omega) (by rw[hsz];exact h0) (by rw[hsz,zH];exact pK)
      exact⟨c9,aD,hl,hl.1⟩
     cases fh:Nat.beq len 0 with
     | true=>
      rw[fh,cond_true]at h
      have VN:=Nat.eq_of_beq_eq_true fh
      subst VN
      obtain⟨hd,h⟩:=jt h
      refine⟨_,h,fun lab ρ a w hR=>?_⟩
      obtain⟨c9,aD,hl,hcz⟩:=key lab ρ a w hR
      have tL:cs.length=0:=by
       have h1:=MC _ _ _ bZ
       rw[h1]
       simp
      refine⟨_,aI lab w.heap.size (some [d]),aI ρ d (.bX (.slice (some ⟨w.heap.size,0,none⟩) 0 0)),_,aD,(hR.wz (hR.cF d (.inl hd)) (fun r hr=>aQ _ _ _ hr) (.sl _ _ (aK _ _ _) ?_)).set ⟨rfl,by simp[aP,aK]⟩ hd⟩
      exact RV.own (w:=w.alloc (.cells c9 e)) (B:=w0.heap.size) (lab:=aI lab w.heap.size (some [d])) [d] tc (full tc) true [] w.heap.size 0 c9 (fun _ _=>undef)
       (aK _ _ _) (by rw[ht];exact heap_alloc_new w _) (by omega) (Nat.le_refl _) ⟨by unfold maxLen;omega,fun _=>rfl⟩ (fun i' h'=>absurd h' (by simp)) (fun i' h'=>absurd h' (by simp))
     | false=>
     rw[fh,cond_false]at h
     obtain⟨hd,h⟩:=jt h
     refine⟨_,h,fun lab ρ a w hR=>?_⟩
     obtain⟨c9,aD,hl,_⟩:=key lab ρ a w hR
     refine⟨_,aI lab w.heap.size (some [d]),aI ρ d (.blk w.heap.size 0),_,aD,(hR.wz (hR.cF d (.inl hd)) (fun r hr=>aQ _ _ _ hr) ?_).set ⟨w.heap.size,aK _ _ _,(FR (by have:=Nat.le_mul_of_pos_right len (lY tc);unfold kA;omega)).symm⟩ hd⟩
     have h1:bK (w.alloc (.cells c9 e)) w0.heap.size (aI lab w.heap.size (some [d])) ρ cs c9:=
      hl.dh (by simp) (fun b U=>⟨Below.heap_alloc w _ b U,aQ _ _ _ (by omega)⟩) (fun b k U=>(hR.bh b k U).2.1)
     have h2:=h1.b8 (ρ':=aI ρ d (.blk w.heap.size 0)) (d:=d) (fun r hr=>aQ _ _ _ hr)
     refine .blk w.heap.size 0 c9 e _ (fun j=>c9.getD j undef) (aK _ _ _) (aK _ _ _) (heap_alloc_new w _) (by rw[h2.1];omega) fun j y hy=>?_
     obtain⟨v,hv,hr⟩:=h2.2 j y hy
     have hg:c9.getD j undef=v:=by rw[Array.getD_eq_getD_getElem?,hv];rfl
     rw[hg,Nat.zero_add]
     exact⟨hv,hr⟩
    ·cases h
  ·cases h
 ·cases h
theorem MD{t:TypeId}{len:Nat}{parts:List (Nat×Operand)}{k:S->Option X}(h:sG P N σ d t len parts k=some r):∃ y u,k (((σ.drop d).root d y).set d u)=some r/\
  (∀ (aa:S),(∀ p∈parts,ah aa p.2=ah σ p.2)->aS (fun X k=>sG (X:=X) P N aa d t len parts k) (((aa.drop d).root d y).set d u)):=by
 unfold sG at h
 split at h
 ·rename_i e tc eo
  split at h
  ·rename_i z hz
   cases hc:(Nat.beq z.cells.size (aj tc)&&Nat.blt (len*aj tc) 16777217)with
   | false=>rw[hc]at h;cases h
   | true=>
    rw[hc,cond_true]at h
    split at h
    ·rename_i cs bZ
     cases fh:Nat.beq len 0 with
     | true=>
      rw[fh,cond_true]at h
      obtain⟨h1,_⟩:=oq h
      refine⟨_,_,h1,fun aa Al X k=>?_⟩
      obtain⟨hN,_⟩:=jt h
      have eI:Nat.blt d N=true:=Nat.ble_eq_true_of_le hN
      have e:(parts.map fun p=>(p.1,ah aa p.2))=parts.map fun p=>(p.1,ah σ p.2):=List.map_congr_left fun p hp=>by rw[Al p hp]
      simp only[sG,eo,hz,hc,cond_true,e,bZ,en,eI,fh]
     | false=>
      rw[fh,cond_false]at h
      obtain⟨h1,_⟩:=oq h
      refine⟨_,_,h1,fun aa Al X k=>?_⟩
      obtain⟨hN,_⟩:=jt h
      have eI:Nat.blt d N=true:=Nat.ble_eq_true_of_le hN
      have e:(parts.map fun p=>(p.1,ah aa p.2))=parts.map fun p=>(p.1,ah σ p.2):=List.map_congr_left fun p hp=>by rw[Al p hp]
      simp only[sG,eo,hz,hc,cond_true,e,bZ,en,eI,fh,cond_false]
    ·cases h
  ·cases h
 ·cases h
theorem ME{t e ty:TypeId}{tc:TC}{i:TypeInfo}{z:Value}{rr ry n:Nat}{k:S->Option X}(cP:P.underlying t=some (.slice e))(ht:tid tc=e)(hi:P.info? e=some i)(hz:i.zero=some z)
  (hsz:i.size=aj tc) (dS:i.bytes<=65536) (dL:z.cells.size=aj tc) (h:qb N σ d rr ry tc n k=some r):∃ aa,k aa=some r/\∀ lab ρ a w,Rl w0 N lab ρ σ a w->w0.F rr=none->∀ u v b,ρ rr = .bX u->ρ ry = .blk b 0->v = .slice (some ⟨b,0,none⟩) n n->
  ∃ w' af ρ' z,(Builtin.append_ #[t,t] ty #[u,v]).run P w = .ok z w'/\Rl w0 N af ρ' aa (a.put (some d) z) w':=by
 unfold qb at h
 split at h
 ·rename_i cs t' o q l Ao hr
  split at h
  ·rename_i dy
   subst dy
   split at h
   ·rename_i vs τ ua
    split at h
    ·rename_i l2 ep
     cases hL:(Nat.blt d N&&aY (l.length+l2.length))with
     | false=>rw[hL]at h;cases h
     | true=>
      rw[hL,cond_true]at h
      rw[Bool.and_eq_true]at hL
      have rU:l.length+l2.length<1073741824:=by simpa [aY]using hL.2
      have hd:d<N:=by have:=Nat.le_of_ble_eq_true hL.1;omega
      refine⟨_,h,fun lab ρ a w hR hF u v b VO VP hv=>?_⟩
      subst hv
      have hy:=hR.root ry _ Ao
      generalize he:ax.blk cs=x at hy
      cases hy with
      | sl=>cases he
      | mp=>cases he
      | gh=>cases he
      | blk b' off cells e' cZ us au bL hh hs hc=>
       injection he with he
       subst he
       rw[VP]at au
       injection au with e1 e2
       subst e1 e2
       have cI:bK w w0.heap.size lab ρ cs ((List.range cs.length).map us).toArray:=by
        refine⟨by simp,fun j x hx=>?_⟩
        have hj:j<cs.length:=(List.getElem?_eq_some_iff.1 hx).1
        exact⟨us j,by simp[hj],(hc j x hx).2⟩
       obtain⟨af,aB,l9,CQ,_,ij,bD,_,_⟩:=Ci (w0:=w0) (N:=N) (fun j=>by simp[aE]) _ _ _ _ _ _ ua lab ρ a w hR _ cI
       obtain⟨Cr,VQ,iY⟩:=Gr t' o n vs l2 ep
       have b5:cs.length=n*aj t':=by rw[<-l9,VQ]
       have gJ:∀ j,j<cs.length->(us j).oneCell'=true:=by
        intro j hj
        have hx:=List.getElem?_eq_getElem (l:=vs) (i:=j) (by rw[l9];exact hj)
        obtain⟨u',gp,bx⟩:=CQ j _ hx
        have:u'=us j:=by simpa [hj]using gp.symm
        rw[<-this]
        exact bx.one
       have ou:b<w.heap.size:=(Array.getElem?_eq_some_iff.1 hh).1
       have pz:Reads w w.heap.size (aj t') (some ⟨b,0,none⟩) n ((List.range cs.length).map us):=by
        refine⟨by simp[b5],fun hn=>⟨b,0,rfl,ou,fun j v hv=>?_⟩⟩
        have hj:j<cs.length:=by have:=(List.getElem?_eq_some_iff.1 hv).1;simpa using this
        have:v=us j:=by simpa [hj]using hv.symm
        subst this
        rw[cell_of_row w b _ cells _ _ hh]
        exact(hc j _ (List.getElem?_eq_getElem hj)).1
       have eI:mK w w0.heap.size af rr l.length t' o l2 ((List.range cs.length).map us):=by
        intro i' pZ j x hx
        have hj:j<aj t':=by have:=(List.getElem?_eq_some_iff.1 hx).1;rwa [iP]at this
        obtain⟨y,hy,hw⟩:=iY i' pZ j x hx
        obtain⟨u',gp,bx⟩:=CQ _ _ hy
        refine⟨u',gp,?_⟩
        have e1:(0+(i'*aj t'+j)) % aj t'=j:=by rw[Nat.zero_add,Nat.add_comm,Nat.add_mul_mod_self_right,Nat.mod_eq_of_lt hj]
        have e2:(0+(i'*aj t'+j)) / aj t'=i':=by rw[Nat.zero_add,Nat.add_comm,Nat.add_mul_div_right _ _ (lY t'),Nat.div_eq_of_lt hj,Nat.zero_add]
        simp only[e1,e2]at bx
        exact bx.wk hw
       have uc:=aB.root rr _ (ij _ hr)
       generalize he:ax.sl (.sl t' (o+2) q l)=x at uc
       cases uc with
       | blk=>cases he
       | mp=>cases he
       | gh=>cases he
       | sl uu y dV bx=>
        injection he with he
        subst he
        rw[VO]at dV
        injection dV with dV
        subst dV
        obtain⟨v',w',bH,aD,gb,dU⟩:=aB.Ug (ty:=ty) (c:=n) hF cP ht hi hz hsz dS dL bx pz (fun v hv=>by
         obtain⟨j,hj⟩:=List.mem_iff_getElem?.1 hv
         have MF:j<cs.length:=by have:=(List.getElem?_eq_some_iff.1 hj).1;simpa using this
         have:v=us j:=by simpa [MF]using hj.symm
         rw[this];exact gJ j MF) Cr.symm eI rU
        exact⟨w',bH,_,v',aD,gb.set ⟨dU,by simp[aP,aK]⟩ hd⟩
    ·cases h
   ·cases h
  ·cases h
 ·cases h
theorem MG{rr ry n:Nat}{tc:TC}{k:S->Option X}(h:qb N σ d rr ry tc n k=some r):∃ τ,k τ=some r/\aS (fun X k=>qb (X:=X) N σ d rr ry tc n k) τ:=by
 unfold qb at h
 split at h
 ·rename_i cs t' o q l Ao hr
  split at h
  ·rename_i dy
   split at h
   ·rename_i vs τ ua
    split at h
    ·rename_i l2 ep
     cases hL:(Nat.blt d N&&aY (l.length+l2.length))with
     | false=>rw[hL]at h;cases h
     | true=>
      rw[hL,cond_true]at h
      exact⟨_,h,fun X k=>by simp only[qb,Ao,hr,dif_pos dy,ua,ep,hL,cond_true]⟩
    ·cases h
   ·cases h
  ·cases h
 ·cases h
theorem VR{t ty:TypeId}{x y:A}{k:S->Option X}(h:sH P N σ d t x y k=some r):∃ aa,k aa=some r/\∀ lab ρ a w,Rl w0 N lab ρ σ a w->∀ u v,RA w w0.heap.size lab ρ x u->RA w w0.heap.size lab ρ y v->
  ∃ w' af ρ' z,(Builtin.append_ #[t,t] ty #[u,v]).run P w = .ok z w'/\Rl w0 N af ρ' aa (a.put (some d) z) w':=by
 unfold sH at h
 split at h
 ·rename_i e tc ry n eo
  obtain⟨cP,ht,i,hi,hsz,dS⟩:=tC eo
  cases hc:((zeroOf P e).any (fun z=>Nat.beq z.cells.size (aj tc))&&(Nat.blt d N&&Nat.blt n kA))with
  | false=>rw[hc]at h;cases h
  | true=>
   rw[hc,cond_true]at h
   rw[Bool.and_eq_true]at hc
   obtain⟨z,hz,dL⟩:=(Option.any_eq_true _ _).1 hc.1
   have dL:=Nat.eq_of_beq_eq_true dL
   have k9:i.zero=some z:=by unfold zeroOf at hz;simpa [hi]using hz
   have iR:=hc.2
   rw[Bool.and_eq_true]at iR
   have hd:d<N:=by have:=Nat.le_of_ble_eq_true iR.1;omega
   have b6:n<kA:=by have:=Nat.le_of_ble_eq_true iR.2;omega
   split at h
   ·obtain⟨aa,h2,hs⟩:=ME (w0:=w0) (ty:=ty) cP ht hi k9 hsz dS dL h
    refine⟨aa,h2,fun lab ρ a w hR u v hu hv=>?_⟩
    have hu:u = .slice none 0 0:=by cases hu.2;rfl
    subst hu
    obtain⟨b,U,rfl⟩:=hv
    have Ao:ry≠d:=by
     rintro rfl
     unfold qb at h
     split at h
     ·rename_i h1 h2
      have:(aI (σ.drop ry).m ry (some (ax.sl (.sl tc (full tc+2) false [])))) ry=_:=h1
      rw[aK]at this
      cases this
     ·cases h
    have VS:=hR.new (d:=d) (x:=.sl (.sl tc (full tc+2) false [])) (.bX (.slice none 0 0)) (.sl _ _ (aK _ _ _) (.bg _ _ _)) (hR.cF d (.inl hd))
    exact hs _ _ a w VS (hR.cF d (.inl hd)) _ _ b (aK _ _ _) ((aQ _ _ _ Ao).trans U) (FR b6)
   ·rename_i rr
    cases hL:(Nat.blt rr N || Nat.ble 60000 rr)with
    | false=>rw[hL]at h;cases h
    | true=>
     rw[hL,cond_true]at h
     rw[Bool.or_eq_true]at hL
     have ij:rr<N\/60000<=rr:=hL.imp (fun h=>by have:=Nat.le_of_ble_eq_true h;omega) (fun h=>Nat.le_of_ble_eq_true h)
     obtain⟨aa,h2,hs⟩:=ME (w0:=w0) (ty:=ty) cP ht hi k9 hsz dS dL h
     refine⟨aa,h2,fun lab ρ a w hR u v hu hv=>?_⟩
     obtain⟨b,U,rfl⟩:=hv
     have au:ρ rr = .bX u:=by
      have h4:=hu.2
      simp only[aP]at h4
      cases hl:ρ rr with
      | blk b o=>rw[hl]at h4;cases h4
      | aM us=>rw[hl]at h4;cases h4
      | bX v=>rw[hl]at h4;injection h4 with h4;rw[h4]
     exact hs lab ρ a w hR (hR.cF rr ij) _ _ b au U (FR b6)
   ·cases h
 ·cases h
theorem VT{t:TypeId}{x y:A}{k:S->Option X}(h:sH P N σ d t x y k=some r):∃ τ,k τ=some r/\aS (fun X k=>sH (X:=X) P N σ d t x y k) τ:=by
 unfold sH at h
 split at h
 ·rename_i e tc ry n eo
  cases hc:((zeroOf P e).any (fun z=>Nat.beq z.cells.size (aj tc))&&(Nat.blt d N&&Nat.blt n kA))with
  | false=>rw[hc]at h;cases h
  | true=>
   rw[hc,cond_true]at h
   split at h
   ·obtain⟨τ,h1,h2⟩:=MG h
    exact⟨τ,h1,fun X k=>by simp only[sH,eo,hc,cond_true];exact h2 X k⟩
   ·rename_i rr
    cases hL:(Nat.blt rr N || Nat.ble 60000 rr)with
    | false=>rw[hL]at h;cases h
    | true=>
     rw[hL,cond_true]at h
     obtain⟨τ,h1,h2⟩:=MG h
     exact⟨τ,h1,fun X k=>by simp only[sH,eo,hc,hL,cond_true];exact h2 X k⟩
   ·cases h
 ·cases h
theorem VU{t:TypeId}{x y:A}{k:S->Option X}(h:tY P σ t x y k=some r):∃ aa,k aa=some r/\∀ lab ρ a w,Rl w0 N lab ρ σ a w->∀ u v,RA w w0.heap.size lab ρ x u->RA w w0.heap.size lab ρ y v->
  ∃ w' af,(Instr.storeAt t u v).run P w = .ok () w'/\Rl w0 N af ρ aa a w':=by
 unfold tY at h
 split at h
 ·rename_i n xs j i s rr hn dO
  split at h
  ·rename_i hlen
   cases eU:xs.all Lf.live with
   | false=>rw[eU]at h;cases h
   | true=>
    rw[eU,cond_true]at h
    split at h
    ·rename_i vs τ ua
     split at h
     ·rename_i t' o' qn l cr
      split at h
      ·rename_i iS
       split at h
       ·rename_i hi
        split at h
        ·rename_i hj
         split at h
         ·rename_i e he
          refine⟨_,h,fun lab ρ a w hR u v hu hv=>?_⟩
          obtain⟨ad,rfl,fe⟩:=hu
          obtain⟨hl,gJ⟩:=zA dO eU hv
          have cI:bK w w0.heap.size lab ρ xs v.cells.toList.toArray:=by simpa using hl
          obtain⟨af,aB,l9,CQ,_,ij,bD,ac2,_⟩:=Ci (w0:=w0) (N:=N) (fun m=>by simp[aE]) _ _ _ _ _ _ ua lab ρ a w hR _ cI
          simp only[addrAt]at fe
          split at fe
          ·rename_i b n0 c0 au
           split at fe
           ·rename_i bL
            injection fe with fe
            subst fe
            have uc:=aB.root rr _ cr
            generalize hx:ax.sl (.sl t' (o'+2) qn l)=x at uc
            cases uc with
            | blk=>cases hx
            | mp=>cases hx
            | gh=>cases hx
            | sl uu y dV bx=>
             injection hx with hx
             subst hx
             rw[au]at dV
             injection dV with dV
             subst dV
             cases bx with
             | av _ _ _ _ _ _ _ _ _ ho=>omega
             | bw=>simp at hi
             | bI=>simp at hi
             | own _ _ _ _ _ _ cap cs us CR hh hs wj hm hc hr=>
              subst iS
              have Hp:v.cells.size=n:=by rw[hl.1,hlen]
              have b9:i*aj t'+aj t'<=c0*aj t':=by
               have:(i+1)*aj t'<=c0*aj t':=Nat.mul_le_mul_right _ (by omega)
               rw[Nat.succ_mul]at this
               exact this
              have fL:i*aj t'+j+v.cells.toList.length<=cs.size:=by rw[Array.length_toList,Hp,hs];omega
              have hW:=FW w b (i*aj t'+j) v.cells.toList
              obtain⟨c2,eI,iR⟩:=BK b (tid t') v.cells.toList (i*aj t'+j) w cs hh fL
              have wh:∀ m,c2[m]?=if m<i*aj t'+j then cs[m]? else if m<i*aj t'+j+n then v.cells[m-(i*aj t'+j)]? else cs[m]?:=by
               intro m
               have e2:c2[m]?=(cQ cs.toList (i*aj t'+j) v.cells.toList)[m]?:=by
                rw[show c2[m]?=c2.toList[m]? by simp,iR]
                rfl
               rw[e2,tn _ _ _ (by simpa using fL),Array.length_toList,Hp]
               simp
              have F1:c2.size=cs.size:=by
               rw[<-Array.length_toList,iR]
               have:=tj cs.toList (i*aj t'+j) v.cells.toList (by simpa using fL)
               simp only[cQ]at this
               rw[this]
               simp
              have ou:b<w.heap.size:=(Array.getElem?_eq_some_iff.1 hh).1
              have hz:w.heap.size<=(w.setCells b (i*aj t'+j) v.cells.toList).heap.size:=Nat.le_of_eq hW.size.symm
              have pG:∀ b',b'<w.heap.size->af b'≠some [rr]->(w.setCells b (i*aj t'+j) v.cells.toList).heap[b']?=w.heap[b']?:=fun b' _ aA=>hW.block b' (by rintro rfl;exact aA CR)
              have zB:w.there b (i*aj t'+j) v.cells.size:=by
               intro m iV
               refine⟨?_,frozen_of_row w b _ cs _ hh⟩
               rw[cell_of_row w b _ cs _ _ hh]
               rw[Array.length_toList]at fL
               simp
               omega
              have cT:vs.length=n:=by rw[l9,hlen]
              refine⟨_,af,F6 w b _ t v zB (by rw[Hp];exact hn) gJ,aB.eX (ns:=[rr]) (cn:=[]) (cB:=ρ) (bH:=af) ⟨hz,fun b' ig hk=>⟨hW.block b' ?_,rfl⟩,fun _ _=>rfl,fun b' k hk=>(aB.bh b' k hk).2⟩
               ⟨hW.os,hW.tape,hW.output,hz,fun k hk hL=>hW.block k ?_⟩ (fun b' k hk=>?_) (fun r hr=>by cases hr) (fun r0 x hx=>?_)⟩
              ·rintro rfl
               have:=hk _ CR
               simp[aT,aN]at this
              ·rintro rfl
               rcases(aB.bh k _ CR).1 with h1 | h1
               ·exact absurd hk (Nat.not_lt.2 h1)
               ·exact h1 hL
              ·have:=aB.bh b' k hk
               exact⟨this.1,Nat.lt_of_lt_of_le this.2.1 hz,this.2.2⟩
              ·have aX:r0=rr/\x = .sl (.sl t' (o'+2) qn (l.set i e)):=by
                simp only[List.lookup]at hx
                split at hx
                ·rename_i ig
                 injection hx with hx
                 exact⟨by simpa using ig,hx.symm⟩
                ·cases hx
               obtain⟨rfl,rfl⟩:=aX
               refine .sl _ _ au ?_
               refine RV.Cd (u:=us) (us:=fun _ m=>v.cells.getD (m-j) undef) (cs:=cs) (xs:=vs) CR eI (F1.trans hs) wj hm hi (by rw[cT];exact hj) he (fun i' h' j' x bC zw=>?_) (fun m x bC=>?_)
               ·have kB:j'<aj t':=by have:=(List.getElem?_eq_some_iff.1 bC).1;rwa [iP]at this
                refine⟨?_,(hr i' h' j' x bC).under (n:=r0) (.inl (by simp)) hz pG (fun _ _=>rfl)⟩
                rw[wh]
                have mG:¬ (¬ i'*aj t'+j'<i*aj t'+j/\i'*aj t'+j'<i*aj t'+j+n):=by
                 rintro⟨h1,h2⟩
                 rcases Nat.lt_trichotomy i' i with aW | heq | F2
                 ·have:(i'+1)*aj t'<=i*aj t':=Nat.mul_le_mul_right _ aW
                  rw[Nat.succ_mul]at this
                  omega
                 ·subst heq
                  exact zw ⟨rfl,by omega,by omega⟩
                 ·have:(i+1)*aj t'<=i'*aj t':=Nat.mul_le_mul_right _ F2
                  rw[Nat.succ_mul]at this
                  omega
                split
                ·exact hc i' h' j' x bC
                ·rw[if_neg (by omega)]
                 exact hc i' h' j' x bC
               ·obtain⟨v0,jP,Ce⟩:=CQ m x bC
                have iV:m<n:=by rw[<-cT];exact(List.getElem?_eq_some_iff.1 bC).1
                have MI:v.cells[m]?=some v0:=by simpa using jP
                have o3:v.cells.getD (j+m-j) undef=v0:=by rw[show j+m-j=m by omega,Array.getD_eq_getD_getElem?,MI];rfl
                show c2[_]?=some (v.cells.getD (j+m-j) undef)/\RV _ _ _ _ _ (v.cells.getD (j+m-j) undef)
                rw[o3,wh,if_neg (by omega),if_pos (by omega)]
                rw[Nat.zero_add]at Ce
                refine⟨?_,Ce.under (n:=r0) (.inl (by simp)) hz pG (fun _ _=>rfl)⟩
                rw[show i*aj t'+(j+m)-(i*aj t'+j)=m by omega]
                exact MI
           ·cases fe
          ·cases fe
         ·cases h
        ·cases h
       ·cases h
      ·cases h
     ·cases h
    ·cases h
  ·cases h
 ·cases h
theorem VV{t:TypeId}{x y:A}{k:S->Option X}(h:tY P σ t x y k=some r):∃ τ,k τ=some r/\aS (fun X k=>tY (X:=X) P σ t x y k) τ:=by
 unfold tY at h
 split at h
 ·rename_i n xs j i s rr hn dO
  split at h
  ·rename_i hlen
   cases eU:xs.all Lf.live with
   | false=>rw[eU]at h;cases h
   | true=>
    rw[eU,cond_true]at h
    split at h
    ·rename_i vs τ ua
     split at h
     ·rename_i t' o' qn l cr
      split at h
      ·rename_i iS
       split at h
       ·rename_i hi
        split at h
        ·rename_i hj
         split at h
         ·rename_i e he
          exact⟨_,h,fun X k=>by simp only[tY,hn,dO,if_pos hlen,eU,cond_true,ua,cr,if_pos iS,dif_pos hi,if_pos hj,he]⟩
         ·cases h
        ·cases h
       ·cases h
      ·cases h
     ·cases h
    ·cases h
  ·cases h
 ·cases h
end
end Go.Proofs.YtjldnlbiefpekaaDoor
namespace Go.Proofs.YtjldnlbiefpekaaDoor
open Go.RowKit
set_option linter.unusedVariables false
def MJ(P:Program)(f:Nat)(F:List Int->Option Int):Prop:=
 ∀ (w:World) (l:List (T .u8)) (h:Int) (v:Value),F l=some h->RV w w.heap.size (fun _=>none) [] (.sl .u8 0 false l) v->Hd w (fun _=>none)->Calls P f #[v] w fun e w'=>
  ∃ b off cells t,e = .returned (.pointer (some ⟨b,off,none⟩))/\Below w.heap.size w w'/\w.heap.size<=b/\w'.heap[b]?=some (.cells cells t (0,0))/\cells[off]?=some v/\cells[off+1]?=some (.int .i64 0)/\cells[off+2]?=some (.int .i64 h)
def ud{X:Type}(N:Nat)(σ:S)(d:Nat)(F:List Int->Option Int)(x:A)(k:S->Option X):Option X:=
 match x with
 | .lf (.v (.sl .u8 0 q l))=>bif Nat.blt d N then (match F l with
  | some h=>k (((σ.drop (1000000000100000+1000*d)).root (1000000000100000+1000*d) (.blk [.v (.sl .u8 0 q l),.v (.int .i64 0),.v (.int .i64 h)])).set d (.aF (1000000000100000+1000*d) 0))
  | none=>none)else none
 | _=>none
structure Ap where
 a:Nat
 j:Nat
 t:TC
 run:List Pt->Option (Nat×Nat)
def MK(aM:Array Value)(a j:Nat):Option Value:=match aM[a]? with
 | some (.agg us)=>us[j]?
 | some u=>bif Nat.beq j 0 then some u else none
 | none=>none
def ML(P:Program)(f:Nat)(c:Ap):Prop:=
 ∀ (args:List Pt) (p:Nat×Nat),c.run args=some p->∀ (w:World) (aM:Array Value),si w args aM->Hd w (fun _=>none)->Calls P f aM w fun e w'=>
  ∃ A n cap,MK aM c.a c.j=some (.slice A n cap)/\p.1<=p.2/\p.2<=n/\e = .returned (sliced A p.1 p.2 cap (aj c.t))/\Below w.heap.size w w'
def MM(σ:S)(args:List Operand)(a j:Nat):Option Lf:=match args[a]? with
 | some x=>(match ah σ x with
  | .agg cs=>cs[j]?
  | .lf l=>bif Nat.beq j 0 then some l else none
  | _=>none)
 | none=>none
def ue{X:Type}(N:Nat)(σ:S)(d:Nat)(c:Ap)(args:List Operand)(k:S->Option X):Option X:=
 bif Nat.blt d N then fF σ args fun ps=>(match c.run ps with
  | some p=>(match MM σ args c.a c.j with
   | some (.v (.sl t g _ l))=>if t=c.t then (bif Nat.blt g 2&&Nat.ble p.1 p.2&&Nat.ble p.2 l.length then k (σ.set d (.lf (.v (.sl t g false ((l.take p.2).drop p.1)))))else none)else none
   | _=>none)
  | none=>none)else none
structure mW where
 run:(X:Type)->Nat->S->List A->(S->A->Option X)->Option X
def ow(P:Program)(f:Nat)(c:mW):Prop:=
 ∀ [Inhabited Wd] (X:Type) (N:Nat) (σ:S) (xs:List A) (k:S->A->Option X) (r:X),c.run X N σ xs k=some r->∃ aa y,k aa y=some r/\(∀ (X':Type) (k':S->A->Option X'),c.run X' N σ xs k'=k' aa y)/\
  ∀ (w0:Wd) (lab:aH) (ρ:Nat->Loc) (a:Act) (w:World) (aM:Array Value),Rl w0 N lab ρ σ a w->aM.size=xs.length->(∀ i,RA w w0.heap.size lab ρ ((xs[i]?).getD .undef) (aM.getD i undef))->
   Calls P f aM w fun e w'=>∃ v af ρ',e = .returned v/\Rl w0 N af ρ' aa a w'/\RA w' w0.heap.size af ρ' y v
inductive mX where
 | p (c:cu)
 | m (c:gy)
 | n (F:List Int->Option Int)
 | v (c:Ap)
 | i (c:mW)
 | d (c:gy)
 | q (c:cu)
 | c (c:gy)
def MN(P:Program)(f:Nat):mX->Prop
 | .p c=>cw P f c
 | .m c=>mR P f c
 | .n F=>MJ P f F
 | .v c=>ML P f c
 | .i c=>ow P f c
 | .d c=>mR P f c
 | .q c=>cw P f c
 | .c c=>mR P f c
section
variable {P:Program} {w w':World} {w0:Wd} {B N:Nat} {lab bH af:aH} {ρ cB ρ':Nat->Loc} {σ:S} {a:Act} {X:Type} {d:Nat} {r:X} {ns cn:List Nat} {o:Oper}
theorem Hq:∀ (xs:List Lf) (k:List V->Option X),jU σ ns xs k=some r->∃ vs,k vs=some r/\aS (fun X k=>jU (X:=X) σ ns xs k) vs
 | [],k,h=>⟨[],h,fun X k=>rfl⟩
 | x :: xs,k,h=>by
  unfold jU at h
  cases ho:CC ns x with
  | false=>rw[ho]at h;cases h
  | true=>
   rw[ho,cond_true]at h
   obtain⟨y,h2,hd⟩:=sF h
   obtain⟨ys,h3,eP⟩:=Hq xs _ h2
   exact⟨_,h3,fun X k=>by
    simp only[jU,ho,cond_true]
    exact(hd.at_ _).trans (eP.at_ _)⟩
theorem MO{x:A}{k:Pt->Option X}(h:kH σ ns x k=some r):∃ p,k p=some r/\aS (fun X k=>kH (X:=X) σ ns x k) p:=by
 unfold kH at h
 split at h
 ·rename_i y
  obtain⟨vs,h2,hd⟩:=Hq _ _ h
  exact⟨_,h2,fun X k=>hd X (fun vs=>k (false,vs))⟩
 ·rename_i ys
  obtain⟨vs,h2,hd⟩:=Hq _ _ h
  exact⟨_,h2,fun X k=>hd X (fun vs=>k (true,vs))⟩
 ·cases h
theorem uf:∀ (ps:List PK) (xs:List Operand) (aq:List Mu) (k:jd ps->Option X),eB σ ns ps xs aq k=some r->∃ x,k x=some r/\aS (fun X k=>eB (X:=X) σ ns ps xs aq k) x
 | [],[],[],k,h=>⟨(),h,fun X k=>rfl⟩
 | .v b t :: ps,x :: xs,aq,k,h=>by
  unfold eB at h
  obtain⟨p,h2,hd⟩:=MO h
  cases U:p.1==b with
  | false=>rw[U]at h2;cases h2
  | true=>
   rw[U,cond_true]at h2
   split at h2
   ·rename_i y hy
    obtain⟨ys,h3,eP⟩:=uf ps xs aq _ h2
    exact⟨_,h3,fun X k=>by
     show kH σ ns (ah σ x) _=_
     refine(hd.at_ _).trans ?_
     rw[U,cond_true,hy]
     exact eP.at_ _⟩
   ·cases h2
 | .p t g off :: ps,x :: xs,.blk r' cs vs :: aq,k,h=>by
  unfold eB at h
  split at h
  ·rename_i y hy
   obtain⟨ys,h3,eP⟩:=uf ps xs aq _ h
   exact⟨_,h3,fun X k=>by
    simp only[eB,hy]
    exact eP.at_ _⟩
  ·cases h
 | .s t g :: ps,x :: xs,.sl q y0 :: aq,k,h=>by
  unfold eB at h
  split at h
  ·rename_i y hy
   obtain⟨ys,h3,eP⟩:=uf ps xs aq _ h
   exact⟨_,h3,fun X k=>by
    simp only[eB,hy]
    exact eP.at_ _⟩
  ·cases h
 | [],[],_ :: _,k,h=>by cases h
 | [],_ :: _,_,k,h=>by cases h
 | .v _ _ :: _,[],_,k,h=>by cases h
 | .p _ _ _ :: _,[],_,k,h=>by cases h
 | .s _ _ :: _,[],_,k,h=>by cases h
 | .p _ _ _ :: _,_ :: _,[],k,h=>by cases h
 | .s _ _ :: _,_ :: _,[],k,h=>by cases h
 | .p _ _ _ :: _,_ :: _,.sl _ _ :: _,k,h=>by cases h
 | .s _ _ :: _,_ :: _,.blk _ _ _ :: _,k,h=>by cases h
theorem MP{dst:Option Tmp}{res:dz}{k:S->Option X}(h:iC N σ dst res k=some r):∃ τ,k τ=some r/\aS (fun X k=>iC (X:=X) N σ dst res k) τ:=by
 unfold iC at h
 cases dst with
 | none=>exact⟨σ,h,fun X k=>rfl⟩
 | some d=>
  have h:(bif Nat.blt d N then (match res with
   | .one p=>(match mb (p.1,fO (1000000000100000+1000*d) p.2)with
    | some y=>k ((dF (1000000000100000+1000*d) σ p.2).set d y)
    | none=>none)
   | .aU ps=>k ((eW (1000000000100000+1000*d) σ ps).set d (.aU (gv (1000000000100000+1000*d) ps))))else none)=some r:=h
  cases hN:Nat.blt d N with
  | false=>rw[hN]at h;cases h
  | true=>
   rw[hN,cond_true]at h
   cases res with
   | one p=>
    simp only at h
    split at h
    ·rename_i y hy
     exact⟨_,h,fun X k=>by simp only[iC,hN,cond_true,hy]⟩
    ·cases h
   | aU ps=>exact⟨_,h,fun X k=>by simp only[iC,hN,cond_true]⟩
theorem Hr{dst:Option Tmp}{c:gy}{args:List Operand}{k:S->Option X}(h:gM N σ dst c args k=some r):∃ τ,k τ=some r/\aS (fun X k=>gM (X:=X) N σ dst c args k) τ:=by
 unfold gM at h
 split at h
 ·rename_i aq iF
  cases eO:(once (gf 0 aq)&&Nat.ble aq.length 40)with
  | false=>rw[eO]at h;cases h
  | true=>
   rw[eO,cond_true]at h
   obtain⟨x,h2,hd⟩:=uf _ _ _ _ h
   split at h2
   ·rename_i y hy
    unfold sC at h2
    generalize bM:tP N aq (eA (cJ c.ps) y.2) (iB (dW dst) (cG c.ro y.1).len aq (eA (cJ c.ps) y.2))=ok at h2
    cases ok with
    | false=>cases h2
    | true=>
     rw[cond_true]at h2
     obtain⟨τ,h3,tW⟩:=MP h2
     exact⟨τ,h3,fun X k=>by
      simp only[gM,iF,eO,cond_true]
      refine(hd X _).trans ?_
      simp only[hy,sC,bM,cond_true]
      exact tW.at_ _⟩
   ·cases h2
 ·cases h
theorem VW{F:List Int->Option Int}{x:A}{k:S->Option X}(h:ud N σ d F x k=some r):∃ τ,k τ=some r/\aS (fun X k=>ud (X:=X) N σ d F x k) τ:=by
 unfold ud at h
 split at h
 ·cases hN:Nat.blt d N with
  | false=>rw[hN]at h;cases h
  | true=>
   rw[hN,cond_true]at h
   split at h
   ·rename_i z hz
    exact⟨_,h,fun X k=>by simp only[ud,hN,cond_true,hz]⟩
   ·cases h
 ·cases h
theorem VX{f:Nat}{x:Operand}{args:Array Operand}{bG:Array TypeId}{F:List Int->Option Int}{k:S->Option X}(ho:o.op = .call { callee:=.value (.func f),args,argTypes:=bG })(hx:args.toList=[x])(hd:o.dst=some d)(he:enters P f)(hc:MJ P f F)(h:ud N σ d F (ah σ x) k=some r):
  ∃ aa,k aa=some r/\gH P w0 N o σ aa:=by
 unfold ud at h
 split at h
 ·rename_i q l hq
  cases hN:Nat.blt d N with
  | false=>rw[hN]at h;cases h
  | true=>
   rw[hN,cond_true]at h
   have pR:d<N:=Nat.le_of_ble_eq_true hN
   split at h
   ·rename_i hz VY
    refine⟨_,h,fun a w K Q hR hK=>?_⟩
    obtain⟨lab,ρ,hR⟩:=hR
    have hv:=hR.ah x
    rw[hq]at hv
    have jP:RV w w.heap.size (fun _=>none) [] (.sl .u8 0 false l) (a.eval x):=by
     have h0:RV w w.heap.size (fun _=>none) [] (.sl .u8 0 q l) (a.eval x):=hv.2.fE
     cases q with
     | false=>exact h0
     | true=>exact h0.wk (.q _ _ _)
    unfold Oper.wp
    rw[Cy w o a f args bG ho he,Oper.upon_enter]
    have jR:(args.map a.eval) = #[a.eval x]:=by apply Array.ext';rw[Array.toList_map,hx];rfl
    rw[jR]
    refine(hc w l _ _ VY jP (w0.on hR.below (fun _ _ h=>by cases h))).mono fun e w' fG=>?_
    obtain⟨b,off,cells,t,rfl,dj,U,hh,tL,VZ,iR⟩:=fG
    have hB:=hR.below.size
    have eK:b<w'.heap.size:=(Array.getElem?_eq_some_iff.1 hh).1
    have kK:Rl w0 N (aI lab b (some [1000000000100000+1000*d])) ρ σ a w':=by
     refine hR.grow dj (fun c Aq=>aQ _ _ _ (by omega)) (fun c k Aq hk=>?_)
     by_cases e:c=b
     ·subst e
      rw[aK]at hk
      injection hk with hk
      subst hk
      exact⟨eK,by simp⟩
     ·rw[aQ _ _ _ e]at hk
      have:=(hR.bh c k hk).2.1
      omega
    have gb:=kK.new (d:=1000000000100000+1000*d) (x:=.blk [.v (.sl .u8 0 q l),.v (.int .i64 0),.v (.int .i64 hz)]) (.blk b off) (by
     refine .blk b off cells t _ (fun j=>(#[a.eval x,.int .i64 0,.int .i64 hz]:Array Value).getD j undef) (aK _ _ _) (aK _ _ _) hh (by
      have:=(Array.getElem?_eq_some_iff.1 iR).1
      simp;omega) (fun j y hy=>?_)
     have n8:bB w' w0.heap.size (aI lab b (some [1000000000100000+1000*d])) (aI ρ (1000000000100000+1000*d) (.blk b off)) (.v (.sl .u8 0 q l)) (a.eval x):=by
      refine⟨rfl,hv.2.dh dj.size (fun c Aq=>⟨dj.block c Aq,aQ _ _ _ (by omega)⟩)⟩
     match j,hy with
     | 0,hy=>simp at hy;subst hy;exact⟨tL,n8⟩
     | 1,hy=>simp at hy;subst hy;exact⟨VZ,rfl,.int _ _ _⟩
     | 2,hy=>simp at hy;subst hy;exact⟨iR,rfl,.int _ _ _⟩
     | j+3,hy=>simp at hy) (hR.cF _ (.inr (by omega)))
    rw[hd]
    exact hK _ _ ⟨_,_,gb.set ⟨b,off,aK _ _ _,rfl⟩ pR⟩
   ·cases h
 ·cases h
theorem V0{f:Nat}{args:Array Operand}{bG:Array TypeId}{c:Ap}{k:S->Option X}(ho:o.op = .call { callee:=.value (.func f),args,argTypes:=bG })(hd:o.dst=some d)(he:enters P f)(hc:ML P f c)(h:ue N σ d c args.toList k=some r):∃ aa,k aa=some r/\gH P w0 N o σ aa:=by
 unfold ue at h
 cases hN:Nat.blt d N with
 | false=>rw[hN]at h;cases h
 | true=>
  rw[hN,cond_true]at h
  have pR:d<N:=by have:=Nat.le_of_ble_eq_true hN;omega
  obtain⟨ps,h2,cR⟩:=Gz (w0:=w0) (N:=N) _ _ h
  split at h2
  ·rename_i p hp
   split at h2
   ·rename_i t g q l hl
    split at h2
    ·rename_i dy
     cases U:(Nat.blt g 2&&Nat.ble p.1 p.2&&Nat.ble p.2 l.length)with
     | false=>rw[U]at h2;cases h2
     | true=>
      rw[U,cond_true]at h2
      rw[Bool.and_eq_true,Bool.and_eq_true]at U
      have hg:g<2:=by have:=Nat.le_of_ble_eq_true U.1.1;omega
      have jq:=Nat.le_of_ble_eq_true U.1.2
      have V1:=Nat.le_of_ble_eq_true U.2
      refine⟨_,h2,fun a w K Q hR hK=>?_⟩
      obtain⟨lab,ρ,hR⟩:=hR
      unfold Oper.wp
      rw[Cy w o a f args bG ho he,Oper.upon_enter]
      have jR:(args.map a.eval)=(args.toList.map a.eval).toArray:=by apply Array.ext';rw[Array.toList_map]
      rw[jR]
      refine(hc ps p hp w _ (cR lab ρ a w hR) (w0.on hR.below (fun _ _ h=>by cases h))).mono fun e w' fG=>?_
      obtain⟨A,n,cap,e1,hle,hn,rfl,dj⟩:=fG
      have iT:RV w w0.heap.size lab [] (.sl t g q l) (.slice A n cap):=by
       unfold MM at hl
       split at hl
       ·rename_i x hx
        have V2:((args.toList.map a.eval).toArray)[c.a]?=some (a.eval x):=by
         rw[List.getElem?_toArray,List.getElem?_map,hx];rfl
        unfold MK at e1
        rw[V2]at e1
        have qc:=hR.ah x
        split at hl
        ·rename_i cs bZ
         rw[bZ]at qc
         obtain⟨us,cI,wC⟩:=qc
         rw[cI]at e1
         obtain⟨u,hu,hr⟩:=wC.2 _ _ hl
         simp only at e1
         rw[e1]at hu
         injection hu with hu
         subst hu
         exact hr.2
        ·rename_i lf mO
         rw[mO]at qc
         cases hj:Nat.beq c.j 0 with
         | false=>rw[hj]at hl;cases hl
         | true=>
          rw[hj]at hl e1
          injection hl with hl
          subst hl
          have qc:bB w w0.heap.size lab ρ (.v (.sl t g q l)) (a.eval x):=qc
          have ug:∀ us,a.eval x ≠ .agg us:=by
           intro us e
           rw[e]at qc
           cases qc.2
          generalize a.eval x=z at e1 qc ug
          cases z <;>first | exact absurd rfl (ug _) | (simp only[cond_true,Option.some.injEq]at e1;cases e1;exact qc.2) | (simp only[cond_true,Option.some.injEq]at e1;cases e1)
        ·cases hl
       ·cases hl
      obtain⟨Hs,r7,Cw⟩:=iT.part (a:=p.1) (h:=p.2) hg jq V1
      subst dy
      rw[hd]
      have aB:=hR.grow dj (af:=lab) (fun _ _=>rfl) (fun b k U hk=>absurd (hR.bh b k hk).2.1 (Nat.not_lt.2 U))
      refine hK _ _ ⟨lab,ρ,aB.set ⟨by simp[V.av,hg],?_⟩ pR⟩
      exact Hs.dh dj.size fun b U=>⟨dj.block b U,rfl⟩
    ·cases h2
   ·cases h2
  ·cases h2
theorem V3{c:Ap}{args:List Operand}{k:S->Option X}(h:ue N σ d c args k=some r):∃ τ,k τ=some r/\aS (fun X k=>ue (X:=X) N σ d c args k) τ:=by
 unfold ue at h
 cases hN:Nat.blt d N with
 | false=>rw[hN]at h;cases h
 | true=>
  rw[hN,cond_true]at h
  obtain⟨ps,h2,mY⟩:=Hl _ _ h
  split at h2
  ·rename_i p hp
   split at h2
   ·rename_i t g q l hl
    split at h2
    ·rename_i dy
     cases U:(Nat.blt g 2&&Nat.ble p.1 p.2&&Nat.ble p.2 l.length)with
     | false=>rw[U]at h2;cases h2
     | true=>
      rw[U,cond_true]at h2
      refine⟨_,h2,fun X k=>?_⟩
      simp only[ue,hN,cond_true]
      exact(mY.at_ _).trans (by simp only[hp,hl,if_pos dy,U,cond_true])
    ·cases h2
   ·cases h2
  ·cases h2
/-! Calls of functions that are run in the state of their caller. -/
def uh{X:Type}(N:Nat)(σ:S)(dst:Option Tmp)(c:mW)(xs:List A)(k:S->Option X):Option X:=c.run X N σ xs fun aa y=>eT N aa dst y k
def V4(p:Nat×Nat):A:=.aF p.1 p.2
def As(σ:S):List Operand->Option (List (Nat×Nat))
 | []=>some []
 | x :: xs=>match ah σ x,As σ xs with
  | .aF r j,some ps=>some ((r,j) :: ps)
  | _,_=>none
theorem V5(w:World)(o:Oper)(a:Act)(f:Nat)(cl:Operand)(vs:Array Value)(args:Array Operand)(bG:Array TypeId)(ho:o.op = .call { callee:=.value cl,args,argTypes:=bG })(hv:a.eval cl = .func (.func f) #[] vs)(he:enters P f):
  (execOp a.eval o).run P w = .ok (.enter f (args.map a.eval++vs)) w:=by
 obtain⟨fn,h1,h2,h3⟩:=he
 have zS:¬ fn.name = "runtime.NumGoroutine":=by simpa using h2
 have tH:¬ fn.body=none:=by intro e;rw[e]at h3;cases h3
 simp[execOp,ho,resolve,hv,Deferred.ofValue,invoke,callFunc,Sem.run_bind,Sem.run,program,h1,zS,tH]
def CS:A->Option (Nat×List A)
 | .fn f cap=>some (f,cap.map V4)
 | .ic f cs=>some (f,[.ec cs])
 | _=>none
theorem V6{x:A}{f:Nat}{ex:List A}{u:Value}(h:CS x=some (f,ex))(hu:RA w B lab ρ x u):∃ vs:Array Value,u = .func (.func f) #[] vs/\vs.size=ex.length/\∀ (j:Nat) y,ex[j]?=some y->RA w B lab ρ y (vs.getD j undef):=by
 unfold CS at h
 split at h
 ·rename_i f' cap
  injection h with h
  injection h with h1 h2
  subst h1 h2
  obtain⟨vs,hv,hs,cT⟩:=hu
  refine⟨vs,hv,by simp[hs],fun j y hy=>?_⟩
  rw[List.getElem?_map]at hy
  cases hp:cap[j]? with
  | none=>rw[hp]at hy;cases hy
  | some p=>
   rw[hp]at hy
   injection hy with hy
   subst hy
   obtain⟨b,off,h1,h2⟩:=cT _ p hp
   rw[Array.getD_eq_getD_getElem?,h2]
   exact⟨b,off,h1,rfl⟩
 ·injection h with h
  injection h with h1 h2
  subst h1 h2
  obtain⟨pv,e,hp⟩:=hu
  refine⟨#[pv],e,rfl,fun j y hy=>?_⟩
  rcases j with _ | j
  ·injection hy with hy
   subst hy
   exact hp
  ·cases hy
 ·cases h
theorem MQ{f:Nat}{cl:Operand}{ex:List A}{args:Array Operand}{bG:Array TypeId}{c:mW}{k:S->Option X}(ho:o.op = .call { callee:=.value cl,args,argTypes:=bG })(b5:CS (ah σ cl)=some (f,ex))(he:enters P f)(hc:ow P f c)
  (h:uh N σ o.dst c (args.toList.map (ah σ)++ex) k=some r):∃ aa,k aa=some r/\gH P w0 N o σ aa:=by
 unfold uh at h
 haveI:Inhabited Wd:=⟨w0⟩
 obtain⟨jy,y,hk,_,zT⟩:=hc _ _ _ _ _ _ h
 have step:∀ a w K Q,R w0 N σ a w->(∀ v w' af ρ',Rl w0 N af ρ' jy a w'->RA w' w0.heap.size af ρ' y v->K (a.put o.dst v) w')->o.wp P a w K Q:=by
  intro a w K Q hR hK
  obtain⟨lab,ρ,hR⟩:=hR
  obtain⟨vs,hv,hs,cT⟩:=V6 b5 (hR.ah cl)
  unfold Oper.wp
  rw[V5 w o a f cl vs args bG ho hv he,Oper.upon_enter]
  refine(zT w0 lab ρ a w _ hR (by simp[hs]) fun i=>?_).mono fun e w' fG=>?_
  ·by_cases hi:i<args.size
   ·have e1:(args.toList.map (ah σ)++ex)[i]?=some (ah σ args[i]):=by
     rw[List.getElem?_append_left (by simpa using hi),List.getElem?_map,Array.getElem?_toList,Array.getElem?_eq_getElem hi];rfl
    have e2:(args.map a.eval++vs).getD i undef=a.eval args[i]:=by
     rw[Array.getD_eq_getD_getElem?,Array.getElem?_append_left (by simpa using hi)]
     simp[hi]
    rw[e1,e2]
    exact hR.ah _
   ·have e0:(args.toList.map (ah σ)++ex)[i]?=ex[i-args.size]?:=by
     rw[List.getElem?_append_right (by simp;omega)]
     simp
    rw[e0]
    cases hp:ex[i-args.size]? with
    | none=>trivial
    | some p=>
     have e2:(args.map a.eval++vs).getD i undef=vs.getD (i-args.size) undef:=by
      rw[Array.getD_eq_getD_getElem?,Array.getElem?_append_right (by simp;omega),Array.getD_eq_getD_getElem?]
      simp
     rw[e2]
     exact cT _ p hp
  ·obtain⟨v,af,ρ',rfl,aB,hy⟩:=fG
   exact hK v w' af ρ' aB hy
 unfold eT at hk
 split at hk
 ·rename_i hd
  refine⟨jy,hk,fun a w K Q hR hK=>step a w K Q hR fun v w' af ρ' aB _=>?_⟩
  rw[hd]
  exact hK _ _ ⟨af,ρ',aB⟩
 ·rename_i d hd
  cases hN:Nat.blt d N with
  | false=>rw[hN]at hk;cases hk
  | true=>
   rw[hN,cond_true]at hk
   refine⟨_,hk,fun a w K Q hR hK=>step a w K Q hR fun v w' af ρ' aB hy=>?_⟩
   rw[hd]
   exact hK _ _ ⟨af,ρ',aB.set hy (by have:=Nat.le_of_ble_eq_true hN;omega)⟩
theorem MR:∀ (xs:List Operand) (ps:List (Nat×Nat)),As σ xs=some ps->ps.length=xs.length/\∀ lab ρ a w,Rl w0 N lab ρ σ a w->∀ (j:Nat) p,ps[j]?=some p->∃ b off,ρ p.1 = .blk b off/\(xs.map a.eval)[j]?=some (.pointer (some ⟨b,off+p.2,none⟩))
 | [],ps,h=>by
  simp only[As,Option.some.injEq]at h
  subst h
  exact⟨rfl,fun _ _ _ _ _ j p hp=>by simp at hp⟩
 | x :: xs,ps,h=>by
  unfold As at h
  split at h
  ·rename_i rr j jS h1 h2
   injection h with h
   subst h
   obtain⟨k1,k2⟩:=MR xs jS h2
   refine⟨by simp[k1],fun lab ρ a w hR j' p hp=>?_⟩
   cases j' with
   | zero=>
    simp only[List.getElem?_cons_zero,Option.some.injEq]at hp
    subst hp
    have hv:=hR.ah x
    rw[h1]at hv
    obtain⟨b,off,e1,e2⟩:=hv
    exact⟨b,off,e1,by simp[e2]⟩
   | succ j'=>
    obtain⟨b,off,e1,e2⟩:=k2 lab ρ a w hR j' p (by simpa using hp)
    exact⟨b,off,e1,by simpa using e2⟩
  ·cases h
end
end Go.Proofs.YtjldnlbiefpekaaDoor
namespace Go.Proofs.YtjldnlbiefpekaaDoor
open Go.RowKit
set_option linter.unusedVariables false
def A.sI(q s n:Nat):A->A
 | .lf (.own [q'])=>bif Nat.beq q' q then .view [q] s 0 n else .lf (.own [q'])
 | x=>x
def S.sI(σ:S)(p:Nat×Nat×Nat):S:=⟨fun k=>(σ.t k).sI p.1 p.2.1 p.2.2,σ.m⟩
def Ht:List (Nat×Nat×Nat)->S->S
 | [],σ=>σ
 | p :: l,σ=>Ht l (σ.sI p)
def Hu(c0 g:Nat):Mu->List (Nat×Nat×Nat)
 | .sl q (.sl t _ _ l)=>bif Nat.ble 1000000 g&&Nat.blt q c0 then [(q,aj t,l.length)]else []
 | _=>[]
def At(c0:Nat):List PK->List Mu->List (Nat×Nat×Nat)
 | .v _ _ :: ps,aq=>At c0 ps aq
 | .p _ _ _ :: ps,_ :: aq=>At c0 ps aq
 | .s _ g :: ps,mu :: aq=>Hu c0 g mu++At c0 ps aq
 | _,_=>[]
def uj{X:Type}(N:Nat)(σ:S)(dst:Option Tmp)(c:gy)(args:List Operand)(k:S->Option X):Option X:=
 match fo σ c.ps args with
 | some aq=>gM N σ dst c args fun aa=>k (Ht (At (dW dst) c.ps aq) aa)
 | none=>none
section
variable {P:Program} {w w':World} {w0:Wd} {B N:Nat} {lab bH af:aH} {ρ cB ρ':Nat->Loc} {σ:S} {a:Act} {X:Type} {d:Nat} {r:X} {o:Oper}
theorem Rl.sI{p:Nat×Nat×Nat}{ad:Option Addr}{c:Nat}(h:Rl w0 N lab ρ σ a w)(hq:ρ p.1 = .bX (.slice ad p.2.2 c)):Rl w0 N lab ρ (σ.sI p) a w:=by
 refine⟨h.below,h.bh,h.root,fun k=>?_,h.size,h.defers,h.fix,h.cF⟩
 have hk:=h.tmp k
 show RA _ _ _ _ ((σ.t k).sI p.1 p.2.1 p.2.2) _
 generalize σ.t k=x at hk
 unfold A.sI
 split
 ·rename_i q'
  cases U:Nat.beq q' p.1 with
  | false=>exact hk
  | true=>
   obtain rfl:=Nat.eq_of_beq_eq_true U
   have h2:=hk.2
   simp only[aP,hq]at h2
   injection h2 with h2
   refine⟨ad,p.2.2,c,by simp only[aP,hq],Nat.zero_le _,Nat.le_refl _,?_⟩
   rw[<-h2]
   cases ad <;>simp[sliced,Addr.add]
 ·exact hk
theorem MS:∀ (l:List (Nat×Nat×Nat)) (σ:S),Rl w0 N lab ρ σ a w->(∀ p∈l,∃ A c,ρ p.1 = .bX (.slice A p.2.2 c))->Rl w0 N lab ρ (Ht l σ) a w
 | [],σ,h,_=>h
 | p :: l,σ,h,hl=>by
  obtain⟨A,c,hp⟩:=hl p (.head _)
  exact MS l _ (h.sI hp) fun p hp=>hl p (.tail _ hp)
theorem V7{c0 g:Nat}{mu:Mu}{p:Nat×Nat×Nat}(h:p∈Hu c0 g mu):∃ q t o qn l,mu = .sl q (.sl t o qn l)/\p=(q,aj t,l.length)/\q<c0:=by
 unfold Hu at h
 split at h
 ·rename_i q t o qn l
  cases U:(Nat.ble 1000000 g&&Nat.blt q c0)with
  | false=>rw[U]at h;cases h
  | true=>
   rw[U,cond_true]at h
   rw[Bool.and_eq_true]at U
   exact⟨q,t,o,qn,l,rfl,List.mem_singleton.1 h,Nat.le_of_ble_eq_true U.2⟩
 ·cases h
theorem CT{c0:Nat}{p:Nat×Nat×Nat}:∀ (ps:List PK) (aq:List Mu),p∈At c0 ps aq->∃ q t o qn l,Mu.sl q (.sl t o qn l)∈aq/\p=(q,aj t,l.length)/\q<c0
 | .v _ _ :: ps,aq,h=>CT ps aq h
 | .p _ _ _ :: ps,mu :: aq,h=>let ⟨q,t,o,qn,l,h1,h2⟩:=CT ps aq h;⟨q,t,o,qn,l,.tail _ h1,h2⟩
 | .s _ g :: ps,mu :: aq,h=>by
  rcases List.mem_append.1 h with h | h
  ·obtain⟨q,t,o,qn,l,rfl,h2⟩:=V7 h
   exact⟨q,t,o,qn,l,.head _,h2⟩
  ·obtain⟨q,t,o,qn,l,h1,h2⟩:=CT ps aq h
   exact⟨q,t,o,qn,l,.tail _ h1,h2⟩
 | [],_,h=>by cases h
 | .p _ _ _ :: _,[],h=>by cases h
 | .s _ _ :: _,[],h=>by cases h
theorem RV.V8{q:List Nat}{t:TC}{g:Nat}{qn:Bool}{l:List (T t)}{v:Value}(h:RV w B lab q (.sl t g qn l) v):∃ A c,v = .slice A l.length c:=by
 cases h <;>exact⟨_,_,rfl⟩
theorem V9{f:Nat}{args:Array Operand}{bG:Array TypeId}{c:gy}{k:S->Option X}(ho:o.op = .call { callee:=.value (.func f),args,argTypes:=bG })(he:enters P f)(hc:mR P f c)(h:uj N σ o.dst c args.toList k=some r):∃ aa,k aa=some r/\gH P w0 N o σ aa:=by
 unfold uj at h
 split at h
 ·rename_i aq iF
  obtain⟨jy,fH,cn,h1,h2,_,h4,h5⟩:=G4 (w0:=w0) ho he hc h
  rw[iF]at h2
  injection h2 with h2
  subst h2
  refine⟨_,h1,fun a w K Q hR hK=>?_⟩
  obtain⟨lab,ρ,hR⟩:=hR
  refine h5 a w K Q lab ρ hR fun v w' bH cB mh aB hv _ au=>hK _ _ ⟨bH,mh,MS _ _ aB fun p hp=>?_⟩
  obtain⟨q,t,oo,qn,l,hm,rfl,hq⟩:=CT _ _ hp
  have dA:=(CE _ _ _ iF _ hm).1
  have bE:=hR.root q _ dA
  generalize hz:ax.sl _=z at bE
  cases bE with
  | blk=>cases hz
  | mp=>cases hz
  | gh=>cases hz
  | sl u y dN hr=>
   injection hz with hz
   subst hz
   obtain⟨A,c,rfl⟩:=hr.V8
   exact⟨A,c,(au q hq).trans ((hv.b8 q (h4 _ hm)).trans dN)⟩
 ·cases h
theorem Wa{dst:Option Tmp}{c:gy}{args:List Operand}{k:S->Option X}(h:uj N σ dst c args k=some r):∃ τ,k τ=some r/\∀ (X:Type) (k:S->Option X),uj N σ dst c args k=k τ:=by
 unfold uj at h
 split at h
 ·rename_i aq iF
  obtain⟨τ,h1,h2⟩:=Hr h
  exact⟨_,h1,fun X k=>by simp only[uj,iF];exact h2 X _⟩
 ·cases h
end
end Go.Proofs.YtjldnlbiefpekaaDoor
namespace Go.Proofs.YtjldnlbiefpekaaDoor
open Go.RowKit
set_option linter.unusedVariables false
def aH.un(lab:aH)(q:Nat):aH:=fun b=>match lab b with
 | some k=>bif aE q k then none else some k
 | none=>none
def sJ{X:Type}(P:Program)(σ:S)(q s i j:Nat)(t:TypeId)(x:A)(k:S->Option X):Option X:=
 match σ.m q with
 | some (.sl (.sl tc (o+2) qn l))=>bif Nat.beq s (aj tc)&&Nat.beq (full tc) 0 then iU P (σ.drop q) t (x.drop q) (.lf (.v (.sl tc 0 false ((l.take j).drop i)))) k else none
 | _=>none
section
variable {P:Program} {w w':World} {w0:Wd} {B N:Nat} {lab af:aH} {ρ ρ':Nat->Loc} {σ:S} {a:Act} {X:Type} {d q:Nat} {r:X} {o:Oper}
theorem MT(aA:∀ b,lab b≠some []):Rel q lab (lab.un q):=
 ⟨aA,fun b h=>by simp[aH.un,h],fun b k h hk=>by simp[aH.un,h,hk]⟩
theorem RV.cL{tc:TC}{g:Nat}{qn:Bool}{l:List (T tc)}{A:Option Addr}{n c:Nat}(hr:RV w B lab [q] (.sl tc (g+2) qn l) (.slice A n c))(hf:full tc=0):RV w B (lab.un q) [] (.sl tc 0 false l) (.slice A n c)/\n=l.length:=by
 cases hr with
 | bg=>exact⟨.bg _ _ _,rfl⟩
 | bw=>exact⟨.bw _ _ _ _ _ (by omega),rfl⟩
 | bI=>exact⟨.bw _ _ _ _ _ (by omega),rfl⟩
 | av _ _ _ _ _ _ _ _ _ ho=>omega
 | own=>
  rename_i b cs u hl hh hc hr hs hn hm
  have ff:∀ (i:Nat) (h:i<l.length) (j:Nat) (x:V),(enc tc 0 l[i])[j]?=some x->(enc tc g l[i])[j]?=some x/\x.plain=true:=by
   intro i h j x hx
   obtain⟨y,hy,rfl⟩:=oX tc g l[i] j x hx
   have hp:=B9 tc g l[i] y (List.mem_of_getElem? hy)
   cases y with
   | sl t' o' q' l'=>
    have:=Nat.le_of_ble_eq_true (show Nat.ble (full t'+2) (full tc)=true from hp)
    omega
   | nil=>
    have:=FQ tc g l[i] _ (List.mem_of_getElem? hy)
    cases this
   | _=>exact⟨hy,rfl⟩
  refine⟨.av _ _ _ _ _ b 0 c u (by omega) (by simp[aH.un,hl,aE]) (Array.getElem?_eq_some_iff.1 hh).1 (by omega) hn (fun i h j x hx=>?_) (fun i h j x hx=>?_),rfl⟩
  ·rw[Nat.zero_add,cell_of_row w b _ cs _ _ hh]
   exact hc i h j x (ff i h j x hx).1
  ·exact(hr i h j x (ff i h j x hx).1).rQ (ff i h j x hx).2
theorem Wb{s i j:Nat}{t:TypeId}{x:A}{k:S->Option X}(h:sJ P σ q s i j t x k=some r):∃ aa,k aa=some r/\∀ lab ρ a w,Rl w0 N lab ρ σ a w->∀ u v,RA w w0.heap.size lab ρ x u->RA w w0.heap.size lab ρ (.view [q] s i j) v->
  ∃ w' af,(Instr.storeAt t u v).run P w = .ok () w'/\Rl w0 N af ρ aa a w':=by
 unfold sJ at h
 split at h
 ·rename_i tc g qn l hm
  cases U:(Nat.beq s (aj tc)&&Nat.beq (full tc) 0)with
  | false=>rw[U]at h;cases h
  | true=>
   rw[U,cond_true]at h
   rw[Bool.and_eq_true]at U
   obtain rfl:=Nat.eq_of_beq_eq_true U.1
   have hf:=Nat.eq_of_beq_eq_true U.2
   obtain⟨aa,h1,hs⟩:=Lp (w0:=w0) (N:=N) h
   refine⟨aa,h1,fun lab ρ a w hR u v hu hv=>?_⟩
   have gA:Rel q lab (lab.un q):=MT hR.rT
   have kK:=hR.rel gA (fun b k hk=>by
    unfold aH.un at hk
    cases hl:lab b with
    | none=>rw[hl]at hk;cases hk
    | some k'=>
     rw[hl]at hk
     simp only at hk
     cases hq:aE q k' with
     | true=>rw[hq]at hk;cases hk
     | false=>
      rw[hq,cond_false]at hk
      injection hk with hk
      subst hk
      exact⟨⟨_,rfl⟩,(hR.bh b k' hl).2.2⟩)
   obtain⟨A,n,c,bD,h3,h4,rfl⟩:=hv
   have bE:=hR.root q _ hm
   generalize he:ax.sl (.sl tc (g+2) qn l)=z at bE
   cases bE with
   | blk=>cases he
   | mp=>cases he
   | gh=>cases he
   | sl vq y au hr=>
    injection he with he
    subst he
    have Hv:vq = .slice A n c:=by
     simp only[aP,au]at bD
     injection bD
    subst Hv
    obtain⟨h5,h6⟩:=hr.cL hf
    have h7:=(h5.part (by omega) h3 (by omega)).1
    obtain⟨w',aD,gb⟩:=hs _ _ _ _ kK u _ (hu.rel gA) (show RA _ _ _ _ (.lf (.v _)) _ from ⟨rfl,h7⟩)
    exact⟨w',_,aD,gb⟩
 ·cases h
theorem Wc{s i j:Nat}{t:TypeId}{x:A}{k:S->Option X}(h:sJ P σ q s i j t x k=some r):∃ τ,k τ=some r/\aS (fun X k=>sJ (X:=X) P σ q s i j t x k) τ:=by
 unfold sJ at h
 split at h
 ·rename_i tc g qn l hm
  cases U:(Nat.beq s (aj tc)&&Nat.beq (full tc) 0)with
  | false=>rw[U]at h;cases h
  | true=>
   rw[U,cond_true]at h
   obtain⟨τ,h1,h2⟩:=Mx h
   exact⟨τ,h1,fun X k=>by simp only[sJ,hm,U,cond_true];exact h2.at_ _⟩
 ·cases h
end
end Go.Proofs.YtjldnlbiefpekaaDoor
namespace Go.Proofs.YtjldnlbiefpekaaDoor
open Go.RowKit
set_option linter.unusedVariables false
def Lf.cL(q:Nat)(y:V):Lf->Lf
 | .own [r]=>bif Nat.beq r q then .v y else .own [r]
 | x=>x.drop q
def A.cL(q:Nat)(y:V):A->A
 | .lf x=>.lf (x.cL q y)
 | .agg cs=>.agg (cs.map (Lf.cL q y))
 | .aU xs=>.aU (xs.map fun p=>(p.1,p.2.map (Lf.cL q y)))
 | x=>x.drop q
def ax.cL(q:Nat)(y:V):ax->ax
 | .blk cs=>.blk (cs.map (Lf.cL q y))
 | .gh xs=>.gh (xs.map (A.cL q y))
 | x=>x.drop q
def S.cL(σ:S)(q:Nat)(y:V):S:=⟨fun k=>(σ.t k).cL q y,fun r=>bif Nat.beq r q then none else (σ.m r).map (ax.cL q y)⟩
section
variable {P:Program} {w w':World} {w0:Wd} {B N:Nat} {lab af:aH} {ρ ρ':Nat->Loc} {σ:S} {a:Act} {X:Type} {d q:Nat} {r:X} {o:Oper} {y:V}
theorem bB.cL(aX:Rel q lab (lab.un q))(hq:∀ u,aP w lab ρ [q]=some u->RV w B (lab.un q) [] y u)(hy:y.av=true){x:Lf}{u:Value}(h:bB w B lab ρ x u):bB w B (lab.un q) ρ (x.cL q y) u:=by
 unfold Lf.cL
 split
 ·rename_i r
  cases U:Nat.beq r q with
  | true=>
   obtain rfl:=Nat.eq_of_beq_eq_true U
   exact⟨hy,hq u h.2⟩
  | false=>
   have aA:r≠q:=by rintro rfl;simp at U
   have hl:aE q [r]=false:=by simpa [aE]using fun e=>aA e
   have h1:bB w B (lab.un q) ρ (bif aE q [r]then .dead else .own [r]) u:=bB.rel aX h
   rw[hl]at h1
   exact h1
 ·exact bB.rel aX h
theorem bK.cL(aX:Rel q lab (lab.un q))(hq:∀ u,aP w lab ρ [q]=some u->RV w B (lab.un q) [] y u)(hy:y.av=true){cs:List Lf}{us:Array Value}(h:bK w B lab ρ cs us):bK w B (lab.un q) ρ (cs.map (Lf.cL q y)) us:=by
 refine⟨by rw[List.length_map];exact h.1,fun j x hx=>?_⟩
 rw[List.getElem?_map]at hx
 cases hz:cs[j]? with
 | none=>rw[hz]at hx;cases hx
 | some z=>
  rw[hz]at hx
  injection hx with hx
  subst hx
  obtain⟨u,h1,h2⟩:=h.2 j z hz
  exact⟨u,h1,h2.cL aX hq hy⟩
theorem RP.cL(aX:Rel q lab (lab.un q))(hq:∀ u,aP w lab ρ [q]=some u->RV w B (lab.un q) [] y u)(hy:y.av=true){p:Bool×List Lf}{u:Value}(h:RP w B lab ρ p u):RP w B (lab.un q) ρ (p.1,p.2.map (Lf.cL q y)) u:=by
 obtain⟨b,cs⟩:=p
 cases b with
 | true=>obtain⟨us,e,h⟩:=h;exact⟨us,e,bK.cL aX hq hy h⟩
 | false=>exact bK.cL aX hq hy h
theorem RA.cL(aX:Rel q lab (lab.un q))(hq:∀ u,aP w lab ρ [q]=some u->RV w B (lab.un q) [] y u)(hy:y.av=true){x:A}{u:Value}(h:RA w B lab ρ x u):RA w B (lab.un q) ρ (x.cL q y) u:=by
 unfold A.cL
 split
 ·exact bB.cL aX hq hy h
 ·exact RP.cL aX hq hy (p:=(true,_)) h
 ·rename_i xs
  obtain⟨us,rfl,h1,h2⟩:=h
  refine⟨us,rfl,by rw[List.length_map];exact h1,fun j p hp=>?_⟩
  rw[List.getElem?_map]at hp
  cases hz:xs[j]? with
  | none=>rw[hz]at hp;cases hp
  | some z=>
   rw[hz]at hp
   injection hp with hp
   subst hp
   obtain⟨v,h3,h4⟩:=h2 j z hz
   exact⟨v,h3,h4.cL aX hq hy⟩
 ·exact RA.rel aX h
theorem bU.cL(aX:Rel q lab (lab.un q))(hq:∀ u,aP w lab ρ [q]=some u->RV w B (lab.un q) [] y u)(hy:y.av=true){r:Nat}(hr:r≠q){x:ax}(h:bU w B lab ρ r x):bU w B (lab.un q) ρ r (x.cL q y):=by
 have mJ:aE q [r]=false:=by simpa [aE]using fun e=>hr e
 unfold ax.cL
 split
 ·cases h with
  | blk b off cells e cs us dN hl hh hs hc=>
   refine .blk b off cells e _ us dN (aX.dh _ _ hl mJ) hh (by rw[List.length_map];exact hs) (fun j x hx=>?_)
   rw[List.getElem?_map]at hx
   rename_i cs
   cases hz:cs[j]? with
   | none=>rw[hz]at hx;cases hx
   | some z=>
    rw[hz]at hx
    injection hx with hx
    subst hx
    exact⟨(hc j z hz).1,(hc j z hz).2.cL aX hq hy⟩
 ·cases h with
  | gh us xs dN hx=>
   refine .gh us _ dN fun j x hj=>?_
   rw[List.getElem?_map]at hj
   rename_i xs
   cases hz:xs[j]? with
   | none=>rw[hz]at hj;cases hj
   | some z=>
    rw[hz]at hj
    injection hj with hj
    subst hj
    exact RA.cL aX hq hy (hx j z hz)
 ·exact bU.rel aX hr h
theorem R.cL{tc:TC}{g:Nat}{qn:Bool}{l:List (T tc)}(hf:full tc=0)(hm:σ.m q=some (.sl (.sl tc (g+2) qn l)))(h:R w0 N σ a w):R w0 N (σ.cL q (.sl tc 0 false l)) a w:=by
 obtain⟨lab,ρ,hR⟩:=h
 have gA:Rel q lab (lab.un q):=MT hR.rT
 have hq:∀ u,aP w lab ρ [q]=some u->RV w w0.heap.size (lab.un q) [] (.sl tc 0 false l) u:=by
  intro u hu
  have bE:=hR.root q _ hm
  generalize he:ax.sl (.sl tc (g+2) qn l)=z at bE
  cases bE with
  | blk=>cases he
  | mp=>cases he
  | gh=>cases he
  | sl vq y au hr=>
   injection he with he
   subst he
   have Hv:vq=u:=by
    simp only[aP,au]at hu
    injection hu
   subst Hv
   have hs:=hr.Ca (by simp[V.av])
   cases vq with
   | slice A n c=>exact(hr.cL hf).1
   | _=>cases hs
 refine⟨lab.un q,ρ,hR.below,fun b k hk=>?_,fun r x hx=>?_,fun k=>RA.cL gA hq rfl (hR.tmp k),hR.size,hR.defers,hR.fix,hR.cF⟩
 ·unfold aH.un at hk
  cases hl:lab b with
  | none=>rw[hl]at hk;cases hk
  | some k'=>
   rw[hl]at hk
   simp only at hk
   cases hq:aE q k' with
   | true=>rw[hq]at hk;cases hk
   | false=>
    rw[hq,cond_false]at hk
    injection hk with hk
    subst hk
    exact hR.bh b k' hl
 ·have hx:(bif Nat.beq r q then none else (σ.m r).map (ax.cL q (.sl tc 0 false l)))=some x:=hx
  cases U:Nat.beq r q with
  | true=>rw[U]at hx;cases hx
  | false=>
   have We:r≠q:=by rintro rfl;simp at U
   rw[U,cond_false]at hx
   cases ox:σ.m r with
   | none=>rw[ox]at hx;cases hx
   | some y=>
    rw[ox]at hx
    injection hx with hx
    subst hx
    exact bU.cL gA hq rfl We (hR.root r y ox)
def wM(σ:S)(x:A):S:=match x with
 | .lf (.own [q])=>(match σ.m q with
  | some (.sl (.sl .str (_+2) _ l))=>σ.cL q (.sl .str 0 false l)
  | _=>σ)
 | _=>σ
theorem R.wM{x:A}(h:R w0 N σ a w):R w0 N (Proofs.YtjldnlbiefpekaaDoor.wM σ x) a w:=by
 unfold Proofs.YtjldnlbiefpekaaDoor.wM
 split
 ·rename_i q
  split
  ·rename_i g qn l hm
   exact R.cL rfl hm h
  ·exact h
 ·exact h
end
end Go.Proofs.YtjldnlbiefpekaaDoor
namespace Go.Proofs.YtjldnlbiefpekaaDoor
open Go.RowKit
set_option linter.unusedVariables false
section
variable {P:Program} (w:World)
theorem Wf(base:Nat)(t u ty e:TypeId)(i:TypeInfo)(ht:P.underlying t=some (.slice e))(hu:P.underlying u=some .string)(hi:P.info? e=some i)(hz:i.zero=some (.int .u8 0))
  (xR:i.size=1) (dS:i.bytes=1)
  (v:Value) (n:Nat) (xs:List Value) (eH:w.ownsRow base e 1 v n xs) (s:ByteArray)
  (qR:n+s.size<=maxLen) (xS:n+s.size<=140737488355328) (Ew:base<=w.heap.size):
  ∃ v' w',(Builtin.append_ #[t,u] ty #[v,.string s]).run P w = .ok v' w'/\w'.ownsRow base e 1 v' (n+s.size) (xs++Lib.strCells s)/\w.grownBy w' v.ownBlock/\
   (v'.ownBlock=v.ownBlock\/v'.ownBlock=some w.heap.size):=by
 obtain⟨v',w',aD,h2,h3,h4⟩:=Lib.run_append_own_string (P:=P) w base t u ty e i ht hu hi hz xR dS v n xs eH s qR xS Ew
 refine⟨v',w',aD,h2,h3,?_⟩
 have ac3:n+s.size<=9223372036854775807:=by simp only[maxLen]at qR;omega
 have Wg:xs.length=n:=by simpa using eH.1
 rcases eH.2 with ⟨rfl,rfl⟩ | ⟨g,cap,cur,rfl,hbg,hg,gY,Mp,bZ,ac4⟩
 ·by_cases hm:s.size=0
  ·exact .inl (by rw[h4.2 ⟨rfl,hm⟩])
  ·have hr:=run_append_nil_string (P:=P) w t u ty e i (.int .u8 0) ht hu hi hz s (by omega) (by omega) (by rw[dS];omega)
   rw[aD]at hr
   injection hr with hr
   subst hr
   exact .inr rfl
 ·by_cases Wh:n+s.size<=cap
  ·have ac5:cur.size=cap:=by simpa using bZ
   have hr:=Lib.run_append_room_string (P:=P) w t u ty e i ht hu hi xR g n cap cur hg s Wh (by omega)
   rw[aD]at hr
   injection hr with hr
   subst hr
   exact .inl rfl
  ·have holds:∀ j u,xs[j]?=some u->w.cell? ((⟨g,0,none⟩:Addr).add j)=some u:=eH.cells (g:=g) rfl
   have hr:=Lib.run_append_grow_string (P:=P) w t u ty e i (.int .u8 0) ht hu hi hz ⟨g,0,none⟩ n cap xs (by rw[xR];simpa using Wg) holds s (by omega) (by omega) (by rw[dS];exact growslice_fits (by omega) (by omega))
   rw[aD]at hr
   injection hr with hr
   subst hr
   exact .inr rfl
end
def qd(s:ByteArray):List Int:=s.data.toList.map fun b=>(b.toNat:Int)
theorem Wi(s:ByteArray):(qd s).length=s.size:=by
 rw[qd,List.length_map,Array.length_toList];rfl
theorem Wj(s:ByteArray):pq .u8 (qd s) (Lib.strCells s):=by
 intro i hi o j x hx
 have pZ:i<(qd s).length:=hi
 rcases j with _ | j
 ·have hx:x = .int .u8 (qd s)[i]:=by cases hx;rfl
  subst hx
  refine⟨.int .u8 (qd s)[i],?_,rfl,fun w' B' af q'=>.int _ _ _⟩
  have hs:i<s.data.toList.length:=by rw[qd,List.length_map]at pZ;exact pZ
  show (Lib.strCells s)[i*1+0]?=_
  rw[Nat.mul_one,Nat.add_zero,Lib.strCells,List.getElem?_map,List.getElem?_eq_getElem hs]
  simp[qd]
 ·cases hx
def kL(s:ByteArray):List (T .u8):=qd s
theorem Hw(s:ByteArray):(kL s).length=s.size:=Wi s
theorem Wl(s:ByteArray):pq .u8 (kL s) (Lib.strCells s):=Wj s
section
variable {P:Program} {w w':World} {w0:Wd} {B N:Nat} {lab af:aH} {ρ ρ':Nat->Loc} {σ:S} {a:Act} {X:Type} {d:Nat} {r:X}
theorem Rl.MU{t ut e ty:TypeId}{i:TypeInfo}{rr o:Nat}{q:Bool}{l:List (T .u8)}{u:Value}{s:ByteArray}(h:Rl w0 N lab ρ σ a w)(hF:w0.F rr=none)(cP:P.underlying t=some (.slice e))(cI:P.underlying ut=some .string)(ht:tid .u8=e)(hi:P.info? e=some i)(hz:i.zero=some (.int .u8 0))
  (hsz:i.size=1) (dS:i.bytes=1) (hd:RV w w0.heap.size lab [rr] (.sl .u8 (o+2) q l) u) (hlen:l.length+s.size<1073741824):
  ∃ v' w' af,(Builtin.append_ #[t,ut] ty #[u,.string s]).run P w = .ok v' w'/\Rl w0 N af (aI ρ rr (.bX v')) ((σ.drop rr).root rr (.sl (.sl .u8 (o+2) false (l++kL s)))) a w'/\ia v'=true:=by
 subst ht
 obtain⟨xs,eH,kE,wA,iY⟩:=hd.owns rfl (B':=0) (fun b _=>Nat.zero_le b)
 have tD:=Wl s
 have ep:=Hw s
 obtain⟨v',w',aD,gq,fj,eK⟩:=Wf (P:=P) w 0 t ut ty (tid .u8) i cP cI hi hz hsz dS u l.length xs eH s (by unfold maxLen;omega) (by omega) (Nat.zero_le _)
 have pF:(l++kL s).length=l.length+s.size:=by rw[List.length_append,ep]
 rw[<-pF]at gq
 have nY:=iY.append tD eH.1
 have dU:ia v'=true:=by rcases gq.2 with ⟨rfl,_⟩ | ⟨_,_,_,rfl,_⟩ <;>rfl
 have gL:Below 0 w w':=(Below.refl 0 w).grown fj (Nat.zero_le _) (fun _ _=>Nat.zero_le _)
 have dj:eL w0 w w':=⟨gL.os,gL.tape,gL.output,gL.size,fun k hk hL=>fj.block k (Nat.lt_of_lt_of_le hk h.below.size) (fun e'=>by
  rcases(h.bh k _ (kE k e'.symm)).1 with h1 | h1
  ·exact absurd hk (Nat.not_lt.2 h1)
  ·exact h1 hL)⟩
 by_cases ju:v'.ownBlock=some w.heap.size
 ·have aW:w.heap.size<w'.heap.size:=by
   rcases gq.2 with ⟨rfl,_⟩ | ⟨b,cap,cs,rfl,_,hh,_⟩
   ·cases ju
   ·have:b=w.heap.size:=by simpa [Value.ownBlock]using ju
    subst this
    exact(Array.getElem?_eq_some_iff.1 hh).1
  refine⟨v',w',aI lab w.heap.size (some [rr]),aD,h.o8 hF dj ⟨fj.size,fun b U aA=>fj.block b U (fun e'=>aA (kE b e'.symm)),fun b U=>aQ _ _ _ (by omega),fun b U=>(h.bh b [] U).2.2 rfl⟩ (fun b k U hk=>?_) (fun r hr=>aQ _ _ _ hr) (.sl v' _ (aK _ _ _) (zE gq nY (fun b U=>?_))),dU⟩
  ·by_cases e:b=w.heap.size
   ·subst e
    rw[aK]at hk
    injection hk with hk
    subst hk
    exact⟨aW,by simp⟩
   ·rw[aQ _ _ _ e]at hk
    have:=(h.bh b k hk).2.1
    omega
  ·rw[ju]at U
   injection U with U
   subst U
   exact aK _ _ _
 ·have zF:v'.ownBlock=u.ownBlock:=by
   rcases eK with eK | eK
   ·exact eK
   ·exact absurd eK ju
  refine⟨v',w',lab,aD,h.o8 hF dj ⟨fj.size,fun b U aA=>fj.block b U (fun e'=>aA (kE b e'.symm)),fun _ _=>rfl,fun b U=>(h.bh b [] U).2.2 rfl⟩ (fun b k U hk=>?_) (fun r hr=>aQ _ _ _ hr) (.sl v' _ (aK _ _ _) (zE gq nY (fun b U=>kE b (by rw[<-zF];exact U)))),dU⟩
  have:=(h.bh b k hk).2.1
  omega
def Au(P:Program)(t ut:TypeId):Bool:=
 (match pe P t with
 | some (e,.u8)=>(match P.info? e with
  | some i=>Nat.beq i.size 1&&Nat.beq i.bytes 1&&(match i.zero with
   | some (.int .u8 0)=>true
   | _=>false)
  | none=>false)
 | _=>false)&&(match P.underlying ut with
 | some .string=>true
 | _=>false)
def sK{X:Type}(P:Program)(N:Nat)(σ:S)(d:Nat)(t ut:TypeId)(x y:A)(k:S->Option X):Option X:=
 match y with
 | .lf (.v (.str s))=>bif Au P t ut then (match x with
  | .lf (.v .nil)=>bif aY (kL s).length then en N σ d (.sl (.sl .u8 2 false (kL s))) (.lf (.own [d])) k else none
  | .lf (.own [r])=>(match σ.m r with
   | some (.sl (.sl .u8 (o+2) q l))=>bif Nat.blt d N&&(Nat.blt r N || Nat.ble 60000 r)&&aY (l.length+(kL s).length)then k (((σ.drop r).root r (.sl (.sl .u8 (o+2) false (l++kL s)))).set d (.lf (.own [r])))else none
   | _=>none)
  | _=>none)else none
 | _=>none
theorem Wm{t ut:TypeId}(h:Au P t ut=true):∃ e i,P.underlying t=some (.slice e)/\tid .u8=e/\P.info? e=some i/\i.size=1/\i.bytes=1/\i.zero=some (.int .u8 0)/\P.underlying ut=some .string:=by
 unfold Au at h
 rw[Bool.and_eq_true]at h
 obtain⟨h1,h2⟩:=h
 have hu:P.underlying ut=some .string:=by
  split at h2
  ·assumption
  ·cases h2
 split at h1
 ·rename_i e he
  obtain⟨cP,ht,i,hi,hsz,dS⟩:=tC he
  rw[hi]at h1
  simp only[Bool.and_eq_true]at h1
  obtain⟨⟨h3,h4⟩,h5⟩:=h1
  refine⟨e,i,cP,ht,hi,Nat.eq_of_beq_eq_true h3,Nat.eq_of_beq_eq_true h4,?_,hu⟩
  split at h5
  ·assumption
  ·cases h5
 ·cases h1
theorem Wn{t ut ty:TypeId}{x y:A}{k:S->Option X}(h:sK P N σ d t ut x y k=some r):∃ aa,k aa=some r/\∀ lab ρ a w,Rl w0 N lab ρ σ a w->∀ u v,RA w w0.heap.size lab ρ x u->RA w w0.heap.size lab ρ y v->
  ∃ w' af ρ' z,(Builtin.append_ #[t,ut] ty #[u,v]).run P w = .ok z w'/\Rl w0 N af ρ' aa (a.put (some d) z) w':=by
 unfold sK at h
 split at h
 ·rename_i s
  cases U:Au P t ut with
  | false=>rw[U]at h;cases h
  | true=>
   rw[U,cond_true]at h
   obtain⟨e,i,cP,ht,hi,hsz,dS,hz,cI⟩:=Wm U
   split at h
   ·cases hL:aY (kL s).length with
    | false=>rw[hL]at h;cases h
    | true=>
     rw[hL,cond_true]at h
     have hL:(kL s).length<1073741824:=by simpa [aY]using hL
     obtain⟨hd,h3⟩:=jt h
     refine⟨_,h3,fun lab ρ a w hR u v hu hv=>?_⟩
     have hu:u = .slice none 0 0:=by cases hu.2;rfl
     subst hu
     obtain rfl:=hv.2.js
     obtain⟨v',w',af,aD,aB,dU⟩:=hR.MU (ty:=ty) (rr:=d) (o:=0) (q:=false) (l:=[]) (s:=s) (hR.cF d (.inl hd)) cP cI ht hi hz hsz dS (.bg _ _ _) (by rw[Hw]at hL;simpa using hL)
     exact⟨w',af,_,v',aD,aB.set ⟨dU,by simp[aP,aK]⟩ hd⟩
   ·rename_i rr
    split at h
    ·rename_i o q l hm
     cases hL:(Nat.blt d N&&(Nat.blt rr N || Nat.ble 60000 rr)&&aY (l.length+(kL s).length))with
     | false=>rw[hL]at h;cases h
     | true=>
      rw[hL,cond_true]at h
      rw[Bool.and_eq_true,Bool.and_eq_true,Bool.or_eq_true]at hL
      have rU:l.length+(kL s).length<1073741824:=by simpa [aY]using hL.2
      have hd:d<N:=by have:=Nat.le_of_ble_eq_true hL.1.1;omega
      have ij:rr<N\/60000<=rr:=hL.1.2.imp (fun h=>by have:=Nat.le_of_ble_eq_true h;omega) (fun h=>Nat.le_of_ble_eq_true h)
      refine⟨_,h,fun lab ρ a w hR u v hu hv=>?_⟩
      obtain rfl:=hv.2.js
      have bE:=hR.root rr _ hm
      generalize he:ax.sl (.sl .u8 (o+2) q l)=x at bE
      cases bE with
      | blk=>cases he
      | mp=>cases he
      | gh=>cases he
      | sl uu y au hr=>
       injection he with he
       subst he
       have tA:uu=u:=by
        have h4:=hu.2
        simp only[aP,au]at h4
        injection h4
       subst tA
       obtain⟨v',w',af,aD,aB,dU⟩:=hR.MU (ty:=ty) (s:=s) (hR.cF rr ij) cP cI ht hi hz hsz dS hr (by rw[Hw]at rU;exact rU)
       exact⟨w',af,_,v',aD,aB.set ⟨dU,by simp[aP,aK]⟩ hd⟩
    ·cases h
   ·cases h
 ·cases h
theorem Wo{t ut:TypeId}{x y:A}{k:S->Option X}(h:sK P N σ d t ut x y k=some r):∃ τ,k τ=some r/\aS (fun X k=>sK (X:=X) P N σ d t ut x y k) τ:=by
 unfold sK at h
 split at h
 ·rename_i s
  cases U:Au P t ut with
  | false=>rw[U]at h;cases h
  | true=>
   rw[U,cond_true]at h
   split at h
   ·cases hL:aY (kL s).length with
    | false=>rw[hL]at h;cases h
    | true=>
     rw[hL,cond_true]at h
     obtain⟨h3,h4⟩:=oq h
     exact⟨_,h3,fun X k=>by simp only[sK,U,hL,cond_true];exact h4 X k⟩
   ·rename_i rr
    split at h
    ·rename_i o q l hm
     cases hL:(Nat.blt d N&&(Nat.blt rr N || Nat.ble 60000 rr)&&aY (l.length+(kL s).length))with
     | false=>rw[hL]at h;cases h
     | true=>
      rw[hL,cond_true]at h
      exact⟨_,h,fun X k=>by simp only[sK,U,hm,hL,cond_true]⟩
    ·cases h
   ·cases h
 ·cases h
end
end Go.Proofs.YtjldnlbiefpekaaDoor
namespace Go.Proofs.YtjldnlbiefpekaaDoor
open Go.RowKit
set_option linter.unusedVariables false
def sL(l:List (Int×Bool))(k:Int):Bool:=match l with
 | []=>false
 | p :: ps=>bif k==p.1 then p.2 else sL ps k
def oy(l:List (Int×Bool))(k:Int)(v:Bool):List (Int×Bool):=match l with
 | []=>[(k,v)]
 | p :: ps=>bif k==p.1 then (k,v) :: ps else p :: oy ps k v
def wN(P:Program)(t:TypeId):Bool:=match P.underlying t with
 | some (.map k e)=>(match P.underlying k with
  | some (.int .i64)=>true
  | _=>false)&&(match zeroOf P e with
  | some (.bool false)=>true
  | _=>false)
 | _=>false
def CU{X:Type}(N:Nat)(σ:S)(d:Nat)(k:S->Option X):Option X:=en N σ d (.mp []) (.pk d kA) k
def Av{X:Type}(P:Program)(σ:S)(t:TypeId)(x i:A)(k:A->Option X):Option X:=
 match x,i with
 | .pk r n,.lf (.v (.int .i64 key))=>bif Nat.beq n kA&&wN P t then (match σ.m r with
  | some (.mp l)=>k (.lf (.v (.bool (sL l key))))
  | _=>none)else none
 | _,_=>none
def Aw{X:Type}(P:Program)(σ:S)(t:TypeId)(x i v:A)(k:S->Option X):Option X:=
 match x,i,v with
 | .pk r n,.lf (.v (.int .i64 key)),.lf (.v (.bool b))=>bif Nat.beq n kA&&wN P t then (match σ.m r with
  | some (.mp l)=>k ⟨σ.t,aI σ.m r (some (.mp (oy l key b)))⟩
  | _=>none)else none
 | _,_,_=>none
section
variable {P:Program} {w w':World} {w0:Wd} {B N:Nat} {lab af:aH} {ρ ρ':Nat->Loc} {σ:S} {a:Act} {X:Type} {d:Nat} {r:X} {o:Oper}
theorem MV{t:TypeId}(h:wN P t=true):∃ k e i,P.underlying t=some (.map k e)/\P.underlying k=some (.int .i64)/\P.info? e=some i/\i.zero=some (.bool false):=by
 unfold wN at h
 split at h
 ·rename_i k e he
  rw[Bool.and_eq_true]at h
  obtain⟨h1,h2⟩:=h
  have hk:P.underlying k=some (.int .i64):=by
   split at h1
   ·assumption
   ·cases h1
  have hz:zeroOf P e=some (.bool false):=by
   split at h2
   ·assumption
   ·cases h2
  unfold zeroOf at hz
  cases hi:P.info? e with
  | none=>rw[hi]at hz;cases hz
  | some i=>
   rw[hi]at hz
   exact⟨k,e,i,he,hk,hi,hz⟩
 ·cases h
theorem Rl.newObj{ob:Obj}{x:ax}{ρ':Nat->Loc}(h:Rl w0 N lab ρ σ a w)(hF:w0.F d=none)(au:∀ r,r≠d->ρ' r=ρ r)
  (hx:bU (w.alloc ob) w0.heap.size (aI lab w.heap.size (some [d])) ρ' d x):Rl w0 N (aI lab w.heap.size (some [d])) ρ' ((σ.drop d).root d x) a (w.alloc ob):=by
 refine h.o8 hF (eL.Lz w0 w _ h.below.size) ⟨by simp,fun b U _=>Below.heap_alloc w _ b U,fun b U=>aQ _ _ _ (by omega),fun b U=>(h.bh b [] U).2.2 rfl⟩ (fun b k U hk=>?_) au hx
 by_cases e:b=w.heap.size
 ·subst e
  rw[aK]at hk
  injection hk with hk
  subst hk
  exact⟨by simp,by simp⟩
 ·rw[aQ _ _ _ e]at hk
  have:=(h.bh b k hk).2.1
  omega
theorem Wp{t:TypeId}{k:S->Option X}(h:CU N σ d k=some r):∃ aa,k aa=some r/\∀ lab ρ a w,Rl w0 N lab ρ σ a w->∃ w' af ρ' v,(Instr.makeMap t none).run P w = .ok v w'/\Rl w0 N af ρ' aa (a.put (some d) v) w':=by
 obtain⟨hd,h⟩:=jt h
 refine⟨_,h,fun lab ρ a w hR=>?_⟩
 have aD:(Instr.makeMap t none).run P w = .ok (.map (some w.heap.size)) (w.alloc (.map #[] 0)):=rfl
 refine⟨_,aI lab w.heap.size (some [d]),aI ρ d (.blk w.heap.size 0),_,aD,(hR.newObj (hR.cF d (.inl hd)) (fun r hr=>aQ _ _ _ hr) ?_).set ⟨w.heap.size,aK _ _ _,(FT _).symm⟩ hd⟩
 exact .mp w.heap.size 0 #[] [] (aK _ _ _) (aK _ _ _) (heap_alloc_new w _) rfl
theorem Wq{k:S->Option X}(h:CU N σ d k=some r):∃ τ,k τ=some r/\aS (fun X k=>CU (X:=X) N σ d k) τ:=by
 obtain⟨h1,h2⟩:=oq h
 exact⟨_,h1,h2⟩
def uk(l:List (Int×Bool)):List (Value×Value):=l.map fun p=>(.int .i64 p.1,.bool p.2)
theorem Hx:∀ (es:List MapEntry) (l:List (Int×Bool)) (k:Int) (n:Nat),es.map (fun e=>(e.key,e.val))=uk l->
  (Instr.findNow (.int .i64) (.int .i64 k) es n=some none/\sL l k=false/\∀ v,oy l k v=l++[(k,v)])\/
  (∃ i b,Instr.findNow (.int .i64) (.int .i64 k) es n=some (some (n+i,.bool b))/\sL l k=b/\∃ h:i<es.length,es[i].key = .int .i64 k/\∀ v,uk (oy l k v)=(es.modify i fun e=>{ e with key:=.int .i64 k,val:=.bool v }).map (fun e=>(e.key,e.val)))
 | [],[],k,n,_=>.inl ⟨rfl,rfl,fun v=>rfl⟩
 | [],_ :: _,k,n,h=>by cases h
 | _ :: _,[],k,n,h=>by cases h
 | e :: es,p :: l,k,n,h=>by
  have h:(e.key,e.val) :: es.map (fun e=>(e.key,e.val))=(.int .i64 p.1,.bool p.2) :: uk l:=h
  injection h with h1 h2
  injection h1 with hk hv
  have hs:Instr.sameNow (.int .i64) (.int .i64 k) e.key=some (k==p.1):=by
   rw[hk]
   simp[Instr.sameNow]
  cases U:(k==p.1)with
  | true=>
   have CV:k=p.1:=by simpa using U
   refine .inr ⟨0,p.2,?_,by simp only[sL,U,cond_true],by simp,by simp[hk,CV],fun v=>?_⟩
   ·simp only[Instr.findNow,hs,U,hv]
    rfl
   ·simp only[oy,U,cond_true]
    simp only[List.modify_zero_cons,List.map_cons]
    show (Value.int .i64 k,Value.bool v) :: uk l=_
    rw[h2]
  | false=>
   rcases Hx es l k (n+1) h2 with ⟨a1,a2,a3⟩ | ⟨i,b,a1,a2,hi,a3,a4⟩
   ·refine .inl ⟨?_,by simp only[sL,U,cond_false,a2],fun v=>by simp only[oy,U,cond_false,a3];rfl⟩
    simp only[Instr.findNow,hs,U]
    exact a1
   ·refine .inr ⟨i+1,b,?_,by simp only[sL,U,cond_false,a2],by simpa using hi,by simpa using a3,fun v=>?_⟩
    ·simp only[Instr.findNow,hs,U]
     rw[a1]
     congr 3
     omega
    ·simp only[oy,U,cond_false]
     simp only[List.modify_succ_cons,List.map_cons]
     show (Value.int .i64 p.1,Value.bool p.2) :: uk (oy l k v)=_
     rw[a4,hk,hv]
theorem CW{kt:TypeId}{k:Int}{es:List MapEntry}{z:Option (Nat×Value)}(hk:P.underlying kt=some (.int .i64))(h:Instr.findNow (.int .i64) (.int .i64 k) es 0=some z):(Instr.findKey kt (.int .i64 k) es).run P w = .ok z w:=by
 unfold Instr.findKey
 simp only[Sem.run_bind,run_underlying hk,Result.andThen_ok,h]
 rfl
theorem MW{t:TypeId}{x i:A}{k:A->Option X}(h:Av P σ t x i k=some r):∃ v,k v=some r/\aS (fun X k=>Av (X:=X) P σ t x i k) v/\∀ lab ρ a w,Rl w0 N lab ρ σ a w->∀ u z,RA w w0.heap.size lab ρ x u->RA w w0.heap.size lab ρ i z->
  ∃ y,(Instr.lookup t u z false).run P w = .ok y w/\RA w w0.heap.size lab ρ v y:=by
 unfold Av at h
 split at h
 ·rename_i rr n key
  cases U:(Nat.beq n kA&&wN P t)with
  | false=>rw[U]at h;cases h
  | true=>
   rw[U,cond_true]at h
   split at h
   ·rename_i l hm
    refine⟨_,h,fun X k=>by simp only[Av,U,cond_true,hm],fun lab ρ a w hR u z hu hz=>?_⟩
    rw[Bool.and_eq_true]at U
    obtain⟨kt,et,ti,ht,um,hi,MX⟩:=MV U.2
    have hn:=Nat.eq_of_beq_eq_true U.1
    subst hn
    obtain⟨b,au,rfl⟩:=hu
    have hz:z = .int .i64 key:=by
     have h2:=hz.2
     cases h2
     rfl
    subst hz
    have bE:=hR.root rr _ hm
    generalize he:ax.mp l=y at bE
    cases bE with
    | blk=>cases he
    | sl=>cases he
    | gh=>cases he
    | mp b' c es l' dV hl hh CX=>
     injection he with he
     subst he
     rw[au]at dV
     injection dV with e1 _
     subst e1
     refine⟨.bool (sL l key),?_,rfl,.bool _ _⟩
     rw[FT]
     unfold Instr.lookup
     simp only[Sem.run_bind,run_underlying ht,Result.andThen_ok,MapKept.run_getObj_map hh,Sem.run_pure]
     rw[MapKept.run_checkKey (k:=.int .i64 key) um rfl]
     simp only[Result.andThen_ok]
     rcases Hx es.toList l key 0 CX with ⟨a1,a2,_⟩ | ⟨i,v,a1,a2,_⟩
     ·rw[CW um a1]
      have Cl:(zeroValue et).run P w = .ok (.bool false) w:=by simp[zeroValue,typeInfo,hi,MX]
      simp only[Result.andThen_ok,a2,Sem.run_bind,Sem.run_pure,Cl]
      rfl
     ·rw[CW um a1]
      simp only[Result.andThen_ok,a2,Sem.run_bind,Sem.run_pure]
      rfl
   ·cases h
 ·cases h
theorem MY{t:TypeId}{x i v:A}{k:S->Option X}(h:Aw P σ t x i v k=some r):∃ aa,k aa=some r/\aS (fun X k=>Aw (X:=X) P σ t x i v k) aa/\∀ lab ρ a w,Rl w0 N lab ρ σ a w->∀ u z y,RA w w0.heap.size lab ρ x u->RA w w0.heap.size lab ρ i z->RA w w0.heap.size lab ρ v y->
  ∃ w',(Instr.mapUpdate t u z y).run P w = .ok () w'/\Rl w0 N lab ρ aa a w':=by
 unfold Aw at h
 split at h
 ·rename_i rr n key bv
  cases U:(Nat.beq n kA&&wN P t)with
  | false=>rw[U]at h;cases h
  | true=>
   rw[U,cond_true]at h
   split at h
   ·rename_i l hm
    refine⟨_,h,fun X k=>by simp only[Aw,U,cond_true,hm],fun lab ρ a w hR u z y hu hz hy=>?_⟩
    rw[Bool.and_eq_true]at U
    obtain⟨kt,et,ti,ht,um,hi,MX⟩:=MV U.2
    have hn:=Nat.eq_of_beq_eq_true U.1
    subst hn
    obtain⟨b,au,rfl⟩:=hu
    have hz:z = .int .i64 key:=by
     have h2:=hz.2
     cases h2
     rfl
    subst hz
    have hy:y = .bool bv:=by
     have h2:=hy.2
     cases h2
     rfl
    subst hy
    have bE:=hR.root rr _ hm
    generalize he:ax.mp l=y at bE
    cases bE with
    | blk=>cases he
    | sl=>cases he
    | gh=>cases he
    | mp b' c es l' dV hl hh CX=>
     injection he with he
     subst he
     rw[au]at dV
     injection dV with e1 _
     subst e1
     have ou:b<w.heap.size:=(Array.getElem?_eq_some_iff.1 hh).1
     have CK:∀ (wO:Array MapEntry) (c':Nat),wO.toList.map (fun e=>(e.key,e.val))=uk (oy l key bv)->Rl w0 N lab ρ ⟨σ.t,aI σ.m rr (some (.mp (oy l key bv)))⟩ a { w with heap:=w.heap.setIfInBounds b (.map wO c') }:=by
      intro wO c' Wr
      have hW:nW w { w with heap:=w.heap.setIfInBounds b (.map wO c') } b:=by
       refine⟨by simp,rfl,rfl,rfl,fun k hk=>?_⟩
       show (w.heap.setIfInBounds b _)[k]?=_
       rw[Array.getElem?_setIfInBounds_ne (Ne.symm hk)]
      have hC:l6 w { w with heap:=w.heap.setIfInBounds b (.map wO c') } lab ρ:=by
       intro k ad v ha hv dU
       obtain⟨j',i',s',q,rfl,hq,_,_,FZ⟩:=rP k ad ha
       have aA:ad.block≠b:=by
        intro e
        rw[e,hl]at hq
        injection hq with hq
        obtain⟨v',bY⟩:=FZ rr hq.symm
        rw[au]at bY
        cases bY
       exact(World.cell?_of_block (hW.block _ aA)).trans hv
      refine hR.wrote hW hl hC fun r' y hy=>?_
      by_cases ij:r'=rr
      ·subst ij
       rw[aK]at hy
       injection hy with hy
       subst hy
       refine .mp b c' wO _ au hl ?_ Wr
       show (w.heap.setIfInBounds b _)[b]?=_
       rw[Array.getElem?_setIfInBounds_self]
       simp[ou]
      ·rw[aQ _ _ _ ij]at hy
       exact(hR.root r' y hy).wrote hW hl hC (FY ij)
     rw[FT]
     unfold Instr.mapUpdate
     simp only[Sem.run_bind,run_underlying ht,Result.andThen_ok,MapKept.run_getObj_map hh,Sem.run_pure]
     rw[MapKept.run_checkKey (k:=.int .i64 key) um rfl]
     simp only[Result.andThen_ok]
     rcases Hx es.toList l key 0 CX with ⟨a1,a2,a3⟩ | ⟨i,v,a1,a2,pZ,a3,a4⟩
     ·rw[CW um a1]
      simp only[Result.andThen_ok]
      rw[MapKept.run_setObj_map _ hh]
      refine⟨_,rfl,CK _ _ ?_⟩
      rw[a3]
      simp only[Array.toList_push,List.map_append,CX,uk]
      rfl
     ·rw[CW um a1]
      simp only[Result.andThen_ok,Nat.zero_add]
      have o9:(es[i]?.map (·.key)).getD (.int .i64 key) = .int .i64 key:=by
       have h1:i<es.size:=by simpa using pZ
       rw[Array.getElem?_eq_getElem h1]
       simpa using a3
      rw[o9]
      have eV:(Instr.keyThatStays (.int .i64 key) (.int .i64 key)).run P w = .ok (.int .i64 key) w:=by
       unfold Instr.keyThatStays
       simp[Instr.sameBits]
      simp only[Sem.run_bind]
      rw[eV]
      simp only[Result.andThen_ok]
      rw[MapKept.run_setObj_map _ hh]
      refine⟨_,rfl,CK _ _ ?_⟩
      rw[a4]
      simp
   ·cases h
 ·cases h
end
end Go.Proofs.YtjldnlbiefpekaaDoor
namespace Go.Proofs.YtjldnlbiefpekaaDoor
open Go.RowKit
set_option linter.unusedVariables false
def Ax(t:TypeId)(d:Nat):Bool:=[].any fun(p:Nat×Nat)=>Nat.beq p.1 t&&Nat.beq p.2 d
def uo(dst:Option Tmp)(t:TypeId):Bool:=match dst with
 | some d=>Ax t d
 | none=>false
def uq{X:Type}(P:Program)(N:Nat)(σ:S)(d:Nat)(t:TypeId)(x y:A)(k:S->Option X):Option X:=
 match pe P t with
 | some (e,tc)=>bif Nat.beq (full tc) 0&&(zeroOf P e).any (fun z=>Nat.beq z.cells.size (aj tc))then kC σ y fun yv=>(match yv.Cj tc with
  | none=>none
  | some l2=>match x with
   | .lf (.own [r])=>(match σ.m r with
    | some (.sl (.sl t' (o+2) true l))=>if h:t'=tc then (bif !tG l2&&aY (l.length+l2.length)then en N σ d (.sl (.sl tc (o+2) false ((h ▸ l)++l2))) (.lf (.own [d])) k else none)else none
    | _=>none)
   | _=>none)else none
 | none=>none
section
variable {P:Program} {w w':World} {w0:Wd} {B N:Nat} {lab af:aH} {ρ ρ':Nat->Loc} {σ:S} {a:Act} {X:Type} {d:Nat} {r:X}
theorem Rl.Ws{t e ty:TypeId}{tc:TC}{i:TypeInfo}{z:Value}{rr o g:Nat}{qn:Bool}{l l2:List (T tc)}{u v:Value}{q':List Nat}{Bx:Nat}{Gl:aH}(h:Rl w0 N lab ρ σ a w)(hF:w0.F d=none)(cP:P.underlying t=some (.slice e))(ht:tid tc=e)(hi:P.info? e=some i)(hz:i.zero=some z)
  (hsz:i.size=aj tc) (dS:i.bytes<=65536) (dL:z.cells.size=aj tc) (hf:full tc=0) (hd:RV w w0.heap.size lab [rr] (.sl tc (o+2) true l) u) (hs:RV w Bx Gl q' (.sl tc g qn l2) v) (aA:l2≠[]) (hlen:l.length+l2.length<1073741824):
  ∃ v' w' af,(Builtin.append_ #[t,t] ty #[u,v]).run P w = .ok v' w'/\Rl w0 N af (aI ρ d (.bX v')) ((σ.drop d).root d (.sl (.sl tc (o+2) false (l++l2)))) a w'/\ia v'=true:=by
 subst ht
 obtain⟨xs,eH,kE,wA,iY⟩:=hd.owns hf (B':=0) (fun b _=>Nat.zero_le b)
 obtain⟨A,c,news,rfl,pz,gJ,tD⟩:=hs.reads hf
 have eI:(l.length+l2.length)*i.bytes<=140737488355328:=by
  have h1:(l.length+l2.length)*i.bytes<=1073741824*65536:=Nat.mul_le_mul (by omega) dS
  omega
 have Af:0<l2.length:=List.length_pos_iff.2 aA
 obtain⟨v',w',aD,gq,fj,eK⟩:=Ev (P:=P) w 0 t ty (tid tc) i z (aj tc) i.bytes cP hi hz hsz rfl dL (lY tc) u l.length xs eH _ A l2.length c news pz gJ (by unfold maxLen;omega) eI (Nat.zero_le _)
 have pF:(l++l2).length=l.length+l2.length:=List.length_append
 have hex:∃ b,u = .slice (some ⟨b,0,none⟩) l.length l.length:=by
  cases hd with
  | av _ _ _ _ _ _ _ _ _ ho=>omega
  | bI _ _ _ _ _ ho=>omega
  | own _ _ _ _ _ b cap cs us hl hh hs hn hm hc hr=>exact⟨b,by rw[hm.2 rfl]⟩
 obtain⟨b,rfl⟩:=hex
 obtain⟨b',lS,rfl,_,bZ⟩:=pz.2 Af
 have Wt:∀ j x,news[j]?=some x->w.cell? ((⟨b',lS,none⟩:Addr).add j)=some x:=by
  intro j x hx
  have xT:(⟨b',lS,none⟩:Addr).add j=⟨b',lS+j,none⟩:=by unfold Addr.add;split <;>simp_all
  rw[xT]
  exact bZ j x hx
 have MZ:=run_append_grow (P:=P) w t ty (tid tc) i z cP hi hz ⟨b,0,none⟩ l.length l.length xs (by rw[hsz];exact eH.1) (eH.cells (g:=b) rfl) ⟨b',lS,none⟩ l2.length c news (by rw[hsz];exact pz.1) Wt (by omega) (by omega) (growslice_fits (by omega) eI)
 rw[aD]at MZ
 injection MZ with e1 e2
 have hold:∀ k,k<w.heap.size->w'.heap[k]?=w.heap[k]?:=by
  intro k hk
  rw[e2]
  exact heap_alloc_old w.drew _ hk
 have Wu:v'.ownBlock=some w.heap.size:=by rw[e1];rfl
 have aW:w.heap.size<w'.heap.size:=by rw[e2];simp
 rw[<-pF]at gq
 have nY:=iY.append tD eH.1
 have dU:ia v'=true:=by rw[e1];rfl
 have gL:Below 0 w w':=(Below.refl 0 w).grown fj (Nat.zero_le _) (fun _ _=>Nat.zero_le _)
 have dj:eL w0 w w':=⟨gL.os,gL.tape,gL.output,gL.size,fun k hk hL=>hold k (Nat.lt_of_lt_of_le hk h.below.size)⟩
 refine⟨v',w',aI lab w.heap.size (some [d]),aD,h.o8 hF dj ⟨fj.size,fun b U _=>hold b U,fun b U=>aQ _ _ _ (by omega),fun b U=>(h.bh b [] U).2.2 rfl⟩ (fun b k U hk=>?_) (fun r hr=>aQ _ _ _ hr) (.sl v' _ (aK _ _ _) (zE gq nY (fun b U=>?_))),dU⟩
 ·by_cases e:b=w.heap.size
  ·subst e
   rw[aK]at hk
   injection hk with hk
   subst hk
   exact⟨aW,by simp⟩
  ·rw[aQ _ _ _ e]at hk
   have:=(h.bh b k hk).2.1
   omega
 ·rw[Wu]at U
  injection U with U
  subst U
  exact aK _ _ _
theorem Wv{t ty:TypeId}{x y:A}{k:S->Option X}(h:uq P N σ d t x y k=some r):∃ aa,k aa=some r/\∀ lab ρ a w,Rl w0 N lab ρ σ a w->∀ u v,RA w w0.heap.size lab ρ x u->RA w w0.heap.size lab ρ y v->
  ∃ w' af ρ' z,(Builtin.append_ #[t,t] ty #[u,v]).run P w = .ok z w'/\Rl w0 N af ρ' aa (a.put (some d) z) w':=by
 unfold uq at h
 split at h
 ·rename_i e tc eo
  obtain⟨cP,ht,i,hi,hsz,dS⟩:=tC eo
  cases hc:(Nat.beq (full tc) 0&&(zeroOf P e).any (fun z=>Nat.beq z.cells.size (aj tc)))with
  | false=>rw[hc]at h;cases h
  | true=>
   rw[hc,cond_true]at h
   rw[Bool.and_eq_true]at hc
   have hf:=Nat.eq_of_beq_eq_true hc.1
   obtain⟨z,hz,dL⟩:=(Option.any_eq_true _ _).1 hc.2
   have dL:=Nat.eq_of_beq_eq_true dL
   have k9:i.zero=some z:=by unfold zeroOf at hz;simpa [hi]using hz
   obtain⟨yv,Co,h2⟩:=LB (w0:=w0) (N:=N) h
   clear h
   split at h2
   ·cases h2
   ·rename_i l2 ep
    split at h2
    ·rename_i rr
     split at h2
     ·rename_i t' o l hm
      split at h2
      ·rename_i dy
       subst dy
       cases hL:(!tG l2&&aY (l.length+l2.length))with
       | false=>rw[hL]at h2;cases h2
       | true=>
        rw[hL,cond_true]at h2
        rw[Bool.and_eq_true]at hL
        have aA:l2≠[]:=by rintro rfl;cases hL.1
        have rU:l.length+l2.length<1073741824:=by simpa [aY]using hL.2
        obtain⟨hd,h3⟩:=jt h2
        refine⟨_,h3,fun lab ρ a w hR u v hu hv=>?_⟩
        obtain⟨q',_,_,bY⟩:=Co lab ρ a w hR v hv
        obtain⟨g,qn,bY⟩:=Gm ep bY
        have bE:=hR.root rr _ hm
        generalize he:ax.sl (.sl t' (o+2) true l)=x at bE
        cases bE with
        | blk=>cases he
        | mp=>cases he
        | gh=>cases he
        | sl uu y au hr=>
         injection he with he
         subst he
         have tA:uu=u:=by
          have h4:=hu.2
          simp only[aP,au]at h4
          injection h4
         subst tA
         obtain⟨v',w',af,aD,aB,dU⟩:=hR.Ws (ty:=ty) (d:=d) (hR.cF d (.inl hd)) cP ht hi k9 hsz dS dL hf hr bY aA rU
         exact⟨w',af,_,v',aD,aB.set ⟨dU,by simp[aP,aK]⟩ hd⟩
      ·cases h2
     ·cases h2
    ·cases h2
 ·cases h
theorem Ww{t:TypeId}{x y:A}{k:S->Option X}(h:uq P N σ d t x y k=some r):∃ τ,k τ=some r/\aS (fun X k=>uq (X:=X) P N σ d t x y k) τ:=by
 unfold uq at h
 split at h
 ·rename_i e tc eo
  cases hc:(Nat.beq (full tc) 0&&(zeroOf P e).any (fun z=>Nat.beq z.cells.size (aj tc)))with
  | false=>rw[hc]at h;cases h
  | true=>
   rw[hc,cond_true]at h
   obtain⟨yv,h2,hd⟩:=Hh h
   clear h
   split at h2
   ·cases h2
   ·rename_i l2 ep
    split at h2
    ·rename_i rr
     split at h2
     ·rename_i t' o l hm
      split at h2
      ·rename_i dy
       subst dy
       cases hL:(!tG l2&&aY (l.length+l2.length))with
       | false=>rw[hL]at h2;cases h2
       | true=>
        rw[hL,cond_true]at h2
        obtain⟨h3,h4⟩:=oq h2
        exact⟨_,h3,fun X k=>by
         simp only[uq,eo,hc,cond_true]
         exact(hd.at_ _).trans (by simp only[ep,hm,dif_pos,hL,cond_true];exact h4 X k)⟩
      ·cases h2
     ·cases h2
    ·cases h2
 ·cases h
end
end Go.Proofs.YtjldnlbiefpekaaDoor
namespace Go.Proofs.YtjldnlbiefpekaaDoor
open Go.RowKit
set_option linter.unusedVariables false
abbrev cc:=Nat->Option mX
def dB(P:Program)(Φ:cc):Prop:=∀ f c,Φ f=some c->enters P f/\MN P f c
def cx{X:Type}(o:Oper)(k:Nat->Option X):Option X:=
 match o.dst with
 | some d=>k d
 | none=>none
def cV:Op->Bool
 | .move _ | .assign _ | .pick .. | .build .. | .load .. | .binOp .. | .unOp .. | .convert .. | .fieldAddr .. | .field .. | .indexAddr .. | .index .. | .extract .. | .nilCheck _=>true
 | .call ⟨.builtin .len,_,_⟩ | .call ⟨.builtin .max,_,_⟩ | .call ⟨.builtin .min,_,_⟩=>true
 | .slice _ _ _ _ none=>true
 | _=>false
def aZ{X:Type}(P:Program)(σ:S)(op:Op)(k:A->Option X):Option X:=
 match op with
 | .move x=>k (ah σ x)
 | .assign x=>k (ah σ x)
 | .pick c x y=>(match ah σ c with
  | .lf (.v (.bool b))=>bif b then k (ah σ x)else k (ah σ y)
  | _=>none)
 | .build t parts=>nZ P σ t parts.toList k
 | .load t x=>eN P σ t (ah σ x) k
 | .binOp op t x y _=>gu P σ op t (ah σ x) (ah σ y) k
 | .unOp op _ x=>vK (ah σ x) fun a=>wo op a fun z=>k (.lf (.v z))
 | .convert s d x=>jv P σ s d (ah σ x) k
 | .fieldAddr s x f=>mI P s (ah σ x) f k
 | .field s x f=>pH P s (ah σ x) f k
 | .indexAddr t x i=>jN P σ t (ah σ x) (ah σ i) k
 | .index t x i=>rW P t (ah σ x) (ah σ i) k
 | .extract x i=>tv (ah σ x) i k
 | .nilCheck x=>CP (ah σ x) k
 | .call ⟨.builtin .len,⟨[x]⟩,⟨[t]⟩⟩=>ir P σ t (ah σ x) k
 | .call ⟨.builtin .max,⟨[x,y]⟩,⟨[_,_]⟩⟩=>tF true (ah σ x) (ah σ y) k
 | .call ⟨.builtin .min,⟨[x,y]⟩,⟨[_,_]⟩⟩=>tF false (ah σ x) (ah σ y) k
 | .slice t x lo hi none=>kF P σ t (ah σ x) (lo.map (ah σ)) (hi.map (ah σ)) k
 | _=>none
def ew{X:Type}(P:Program)(N:Nat)(Φ:cc)(σ:S)(o:Oper)(k:S->Option X):Option X:=
 match o.op with
 | .alloc e=>cx o fun d=>mc P N σ d e k
 | .box e x=>cx o fun d=>tX N σ d (ah σ x) k
 | .buildSlice t len parts=>cx o fun d=>bif jz t then sG P N σ d t len parts.toList k else tE P N σ d t len parts.toList k
 | .store t x y=>(match o.dst with
  | none=>bif tZ (ah σ x) (ah σ y)then tY P σ t (ah σ x) (ah σ y) k else iU P σ t (ah σ x) (ah σ y) k
  | some _=>none)
 | .makeSlice t l c=>cx o fun d=>tB P N σ d t (ah σ l) (ah σ c) k
 | .call ⟨.value (.func f),args,_⟩=>(match Φ f with
  | some (.p c)=>cx o fun d=>pO N σ d c args.toList k
  | some (.m c)=>gM N σ o.dst c args.toList k
  | some (.v c)=>cx o fun d=>ue N σ d c args.toList k
  | some (.n F)=>cx o fun d=>(match args.toList with
   | [x]=>ud N σ d F (ah σ x) k
   | _=>none)
  | some (.i c)=>uh N σ o.dst c (args.toList.map (ah σ)++[]) k
  | some (.d c)=>tU N σ o.dst c args.toList k
  | some (.q c)=>cx o fun d=>so N σ d c args.toList k
  | some (.c c)=>uj N σ o.dst c args.toList k
  | none=>none)
 | .call ⟨.builtin .append,⟨[x,y]⟩,⟨[t,t']⟩⟩=>bif Nat.beq t t' then cx o fun d=>bif jz t then sH P N σ d t (ah σ x) (ah σ y) k else bif Ax t d then uq P N σ d t (ah σ x) (ah σ y) k else kD P N σ d t (ah σ x) (ah σ y) k else cx o fun d=>sK P N σ d t t' (ah σ x) (ah σ y) k
 | .makeMap _ none=>cx o fun d=>CU N σ d k
 | .lookup t x i false=>Av P σ t (ah σ x) (ah σ i) fun v=>eT N σ o.dst v k
 | .mapUpdate t x i v=>(match o.dst with
  | none=>Aw P σ t (ah σ x) (ah σ i) (ah σ v) k
  | some _=>none)
 | .call ⟨.value (.tmp t),args,_⟩=>(match CS (ah σ (.tmp t))with
  | some (f,ex)=>(match Φ f with
   | some (.i c)=>uh N σ o.dst c (args.toList.map (ah σ)++ex) k
   | _=>none)
  | none=>none)
 | .makeFunc (.func f) ⟨[]⟩ Ay=>(match As σ Ay.toList with
  | some ps=>eT N σ o.dst (.fn f ps) k
  | none=>none)
 | _=>none
def bF{X:Type}(P:Program)(N:Nat)(Φ:cc)(σ:S)(o:Oper)(k:S->Option X):Option X:=
 bif cV o.op then aZ P σ o.op fun v=>eT N σ o.dst v k else ew P N Φ σ o k
def kM{X:Type}(P:Program)(N:Nat)(Φ:cc)(σ:S)(o:Oper)(k:S->Option X):Option X:=
 match o.op,o.dst with
 | .store t x y,none=>(match ah σ y with
  | .view [q] s i j=>sJ P σ q s i j t (ah σ x) k
  | _=>bF P N Φ σ o k)
 | .slice _ x _ _ none,some _=>bF P N Φ (wM σ (ah σ x)) o k
 | _,_=>bF P N Φ σ o k
def cW(σ:S)(ops:Array Oper)(o:Oper):Option Bool:=
 match o.guard with
 | none=>some true
 | some (j,want)=>match (ops[j]?).bind (·.dst)with
  | some t=>(match σ.t t with
   | .lf (.v (.bool b))=>some (b==want)
   | .skip=>some false
   | _=>none)
  | none=>none
def CY(ops:Array Oper)(j:Nat):Bool:=ops.toList.any fun o=>match o.guard with
 | some (i,_)=>Nat.beq i j
 | none=>false
def splitK{X:Type}(σ:S)(dst:Option Tmp)(g:Bool)(k:S->Option X):Option X:=
 bif g then (match dst with
  | some d=>(match σ.t d with
   | .lf (.v (.bool b))=>bif b then k (σ.set d (.lf (.v (.bool true))))else k (σ.set d (.lf (.v (.bool false))))
   | _=>k σ)
  | none=>k σ)else k σ
def oz{X:Type}(P:Program)(N:Nat)(Φ:cc)(ops:Array Oper):Nat->List Oper->S->(S->Option X)->Option X
 | _,[],σ,k=>k σ
 | j,o :: rest,σ,k=>match cW σ ops o with
  | some true=>kM P N Φ σ o fun aa=>splitK aa o.dst (CY ops j) fun oA=>oz P N Φ ops (j+1) rest oA k
  | some false=>eT N σ o.dst .skip fun aa=>oz P N Φ ops (j+1) rest aa k
  | none=>none
/-! Regions whose order is open: what is listed is a set of bits. -/
def bO{X:Type}(P:Program)(N:Nat)(Φ:cc)(ops:Array Oper)(σ:S)(o:Oper)(k:S->Option X):Option X:=
 match cW σ ops o with
 | some true=>bF P N Φ σ o k
 | some false=>eT N σ o.dst .skip k
 | none=>none
def gO(ops:Array Oper)(L j:Nat):Bool:=!L.testBit j&&(match ops[j]? with
 | some o=>o.after.toList.all fun e=>!Region.binds .any e || L.testBit e.on
 | none=>false)
def Az(ops:Array Oper)(i W j:Nat):Bool:=(match ops[j]? with
 | some o=>o.after.toList.any fun e=>Region.binds .any e&&(Nat.beq e.on i || W.testBit e.on)
 | none=>false)
def waits(ops:Array Oper)(i:Nat):Nat->Nat->Nat->Nat
 | 0,_,W=>W
 | n+1,j,W=>waits ops i n (j+1) (bif Az ops i W j then W ||| 2 ^ j else W)
def cC(o:Oper)(n:Nat):Bool:=match o.dst with
 | some d=>(match o.op with
  | .alloc _ | .box .. | .buildSlice .. | .makeSlice ..=>Nat.beq n d
  | .call ⟨.value (.func _),_,_⟩=>Nat.ble (1000000000100000+1000*d) n
  | .call ⟨.builtin .append,_,_⟩=>Nat.beq n d
  | _=>false)
 | none=>false
def CZ(Φ:cc)(op:Op):Bool:=cV op || (match op with
 | .alloc _ | .box .. | .buildSlice .. | .makeSlice ..=>true
 | .call ⟨.value (.func f),_,_⟩=>(match Φ f with
  | some (.p _)=>true
  | _=>false)
 | _=>false)
def ey(g:Oper->Bool)(ops:Array Oper)(i L W:Nat):Nat->Nat->Bool
 | 0,_=>false
 | f+1,j=>(!(Nat.beq j i || L.testBit j || W.testBit j)&&(match ops[j]? with
  | some oj=>g oj
  | none=>false)) || ey g ops i L W f (j+1)
def wP(g:Oper->Bool)(ops:Array Oper)(oi:Oper)(i L W:Nat):Nat->Nat->Bool
 | 0,_=>true
 | n+1,j=>(Nat.beq j i || L.testBit j || (bif W.testBit j then Az ops i W j else (match ops[j]? with
  | some oj=>g oj&&oi.apart ops oj
  | none=>true)))&&wP g ops oi i L W n (j+1)
def C0(c:gy):Bool:=c.ps.all fun p=>match p with
 | .v _ _=>true
 | .p _ g _=>Nat.beq g 0
 | .s _ _=>false
def lA(ok:Nat->Nat->Bool)(σ:S):List PK->List Operand->Bool
 | .p _ _ _ :: ps,.tmp t :: xs=>(match σ.t t with
  | .aF r _=>ok t r
  | _=>false)&&lA ok σ ps xs
 | .v _ _ :: ps,_ :: xs=>lA ok σ ps xs
 | [],[]=>true
 | _,_=>false
def eC(σ:S):List PK->List Operand->List Nat
 | .p _ _ _ :: ps,x :: xs=>(match ah σ x with
  | .aF r _=>r :: eC σ ps xs
  | _=>eC σ ps xs)
 | _ :: ps,_ :: xs=>eC σ ps xs
 | _,_=>[]
def jW(Φ:cc)(σ:S)(o:Oper):List Nat:=match o.op with
 | .call ⟨.value (.func f),args,_⟩=>(match Φ f with
  | some (.m c)=>eC σ c.ps args.toList
  | _=>[])
 | _=>[]
def fR(t:Nat)(o:Oper):Bool:=match o.dst with
 | some d=>Nat.beq d t
 | none=>false
def oB(o:Oper):Bool:=(match o.op with
 | .alloc _=>true
 | _=>false)&&o.guard.isNone&&(match o.dst with
 | some d=>Nat.blt d 20000
 | none=>false)
def je(o:Oper):Bool:=(match o.op with
 | .alloc _=>true
 | .buildSlice t _ _=>!jz t
 | .makeSlice ..=>true
 | _=>false)&&(match o.dst with
 | some d=>Nat.blt d 20000
 | none=>false)
def isApp(o:Oper):Bool:=match o.op with
 | .call ⟨.builtin .append,⟨[_,_]⟩,⟨[t,t']⟩⟩=>!jz t&&Nat.beq t t' && !uo o.dst t
 | _=>false
def Hy(Φ:cc)(ops:Array Oper)(i L W:Nat)(σ:S)(o:Oper):Bool:=match o.op with
 | .call ⟨.value (.func f),args,_⟩=>(match Φ f with
  | some (.m c)=>C0 c&&lA (fun t r=>!ey (fR t) ops i L W ops.size 0 && !ey (fun ok=>cC ok r) ops i L W ops.size 0 && !ey isApp ops i L W ops.size 0) σ c.ps args.toList
  | _=>false)
 | _=>false
def A.fS(p pb:Nat->Bool):A->Bool
 | .lf x=>x.nr p
 | .agg cs=>cs.all (Lf.nr p)
 | .aU xs=>xs.all fun q=>q.2.all (Lf.nr p)
 | .ptr k=>ct p k
 | .aF r _=>!pb r
 | .pk r _=>!pb r
 | .view k _ _ _=>ct p k
 | .fn _ cap=>cap.all fun q=>!pb q.1
 | _=>true
def sM(σ:S)(o:Oper):List Nat:=match o.op with
 | .store _ (.tmp t) _=>(match σ.t t with
  | .aF r _=>[r]
  | _=>[])
 | .call ⟨.builtin .append,⟨[.tmp t,_]⟩,⟨[_,_]⟩⟩=>(match σ.t t with
  | .lf (.own [r])=>[r]
  | _=>[])
 | _=>[]
def C1(σ:S)(o:Oper):List Nat:=match o.op with
 | .call ⟨.builtin .append,⟨[.tmp t,_]⟩,⟨[_,_]⟩⟩=>(match σ.t t with
  | .lf (.own [r])=>[r]
  | _=>[])
 | _=>[]
def Wx(t:Nat)(o:Oper):Bool:=match o.op with
 | .store _ (.tmp t') _=>Nat.beq t' t
 | _=>false
def Wy(ops:Array Oper)(i L W:Nat)(σ:S)(o:Oper):List Nat:=match o.op,o.dst with
 | .fieldAddr _ (.tmp x) _,some t=>bif ey (Wx t) ops i L W ops.size 0 then (match σ.t x with
  | .aF r _=>[r]
  | _=>[])else []
 | _,_=>[]
def sN(Φ:cc)(ops:Array Oper)(i L W:Nat)(σ:S)(n:Nat):Bool:=
 ey (fun o=>cC o n) ops i L W ops.size 0 || ey (fun o=>aN n (jW Φ σ o) || aN n (sM σ o)) ops i L W ops.size 0
def oC(Φ:cc)(ops:Array Oper)(i L W:Nat)(σ:S)(n:Nat):Bool:=
 sN Φ ops i L W σ n || ey (fun o=>aN n (Wy ops i L W σ o)) ops i L W ops.size 0
def qf(σ:S)(ops:Array Oper)(i L W:Nat)(n:Nat):Bool:=ey (fun o=>cC o n) ops i L W ops.size 0 || ey (fun o=>aN n (C1 σ o)) ops i L W ops.size 0
def sO(Φ:cc)(o:Oper):Bool:=match o.op with
 | .call ⟨.value (.func f),_,_⟩=>(match Φ f with
  | some (.p _)=>true
  | _=>false)
 | _=>false
def iG(Φ:cc)(ops:Array Oper)(i L W:Nat)(t:Nat):Bool:=!ey (fun ok=>fR t ok && !(je ok || isApp ok || sO Φ ok)) ops i L W ops.size 0
def Hz(Φ:cc)(ops:Array Oper)(i L W:Nat)(o:Oper):Bool:=match o.op with
 | .call ⟨.builtin .append,⟨[.tmp t,_]⟩,⟨[ty,Wz]⟩⟩=>iG Φ ops i L W t&&(!jz ty&&Nat.beq ty Wz && !uo o.dst ty)
 | _=>false
def iH(Φ:cc)(ops:Array Oper)(i L W:Nat)(σ:S)(x:Nat):Bool:=!ey (fR x) ops i L W ops.size 0&&(match σ.t x with
 | .aF r _=>oC Φ ops i L W σ r
 | .ec _=>true
 | _=>false)
def C2(Φ:cc)(ops:Array Oper)(i L W:Nat)(σ:S)(o:Oper):Bool:=match o.op with
 | .fieldAddr _ (.tmp x) _=>iH Φ ops i L W σ x
 | _=>false
def C3(Φ:cc)(ops:Array Oper)(i L W:Nat)(σ:S)(t:Nat):Bool:=!ey (fun ok=>fR t ok && !(oB ok || C2 Φ ops i L W σ ok)) ops i L W ops.size 0
def zq(Φ:cc)(ops:Array Oper)(i L W:Nat)(σ:S)(o:Oper):Bool:=match o.op with
 | .store _ (.tmp t) _=>o.dst.isNone&&C3 Φ ops i L W σ t&&(match σ.t t with
  | .ptr _=>false
  | _=>true)
 | _=>false
def HA(σ:S)(p:Nat->Bool)(o:Oper):Bool:=o.op.operands.toList.all fun x=>(ah σ x).nr p
def HB(σ:S)(p pb:Nat->Bool)(o:Oper):Bool:=(o.op.operands.toList.all fun x=>(ah σ x).fS p pb)&&(match o.op with
 | .load _ x=>(match ah σ x with
  | .aF r _=>!p r
  | _=>true)
 | _=>true)
def M0(Φ:cc)(ops:Array Oper)(L:Nat)(σ:S)(i:Nat):Bool:=match ops[i]? with
 | some oi=>(cV oi.op || (match cW σ ops oi with
  | some b=>!b
  | none=>false))&&Nat.beq ((L ||| 2 ^ i) &&& waits ops i ops.size 0 0) 0&&wP (fun oj=>CZ Φ oj.op || Hy Φ ops i L (waits ops i ops.size 0 0) σ oj || zq Φ ops i L (waits ops i ops.size 0 0) σ oj || Hz Φ ops i L (waits ops i ops.size 0 0) oj) ops oi i L (waits ops i ops.size 0 0) ops.size 0&&HB σ (oC Φ ops i L (waits ops i ops.size 0 0) σ) (qf σ ops i L (waits ops i ops.size 0 0)) oi
 | none=>false
def sP{X:Type}(P:Program)(N:Nat)(Φ:cc)(ops:Array Oper)(L i:Nat)(σ:S)(o:Oper)(k:S->Option X):Option X:=
 match cW σ ops o with
 | some true=>aZ P σ o.op fun v=>bif v.fS (oC Φ ops i L (waits ops i ops.size 0 0) σ) (qf σ ops i L (waits ops i ops.size 0 0))then eT N σ o.dst v k else none
 | some false=>eT N σ o.dst .skip k
 | none=>none
/-! A call may be taken first where all that is free beside it are new blocks. -/
def A.cV:A->Bool
 | .lf (.v _)=>true
 | .agg cs=>cs.all fun l=>match l with
  | .v _=>true
  | _=>false
 | _=>false
def HC(ops:Array Oper)(i L W:Nat)(σ:S)(o:Oper):Bool:=je o&&(match cW σ ops o with
 | some b=>b
 | none=>false)&&(o.op.operands.toList.all fun x=>(ah σ x).cV&&(match x with
  | .tmp t=>!ey (fR t) ops i L W ops.size 0
  | _=>true))&&(match o.guard with
 | some (g,_)=>(match (ops[g]?).bind (·.dst)with
  | some t=>!ey (fR t) ops i L W ops.size 0
  | none=>true)
 | none=>true)
def jf(Φ:cc)(o:Oper):Bool:=match o.op with
 | .call ⟨.value (.func f),_,_⟩=>(match Φ f with
  | some (.p _)=>true
  | some (.m _)=>true
  | _=>false)
 | _=>false
def AA(o:Oper):Bool:=(match o.op with
 | .store _ (.tmp _) _=>true
 | _=>false)&&o.dst.isNone
def qg(σ:S)(o:Oper):Bool:=match o.op with
 | .store _ (.tmp t) _=>(match σ.t t with
  | .aF _ _=>true
  | _=>false)
 | _=>true
def AB(Φ:cc)(o:Oper):Bool:=jf Φ o || je o || isApp o || AA o
def qh(σ:S)(p:Nat->Bool)(r:Nat):Bool:=match σ.m r with
 | some (.blk cs)=>cs.all (Lf.nr p)
 | _=>true
def wQ(o:Oper)(n:Nat):Bool:=fR n o
def M1(Φ:cc)(ops:Array Oper)(L:Nat)(σ:S)(i:Nat):Bool:=match ops[i]? with
 | some oi=>AB Φ oi&&Nat.beq ((L ||| 2 ^ i) &&& waits ops i ops.size 0 0) 0&&wP (HC ops i L (waits ops i ops.size 0 0) σ) ops oi i L (waits ops i ops.size 0 0) ops.size 0 &&
   HA σ (fun n=>ey (fun o=>wQ o n) ops i L (waits ops i ops.size 0 0) ops.size 0) oi&&(jW Φ σ oi).all (qh σ (fun n=>ey (fun o=>wQ o n) ops i L (waits ops i ops.size 0 0) ops.size 0))&&qg σ oi
 | none=>false
def gP{X:Type}(P:Program)(N:Nat)(Φ:cc)(ops:Array Oper):Nat->Nat->S->(S->Option X)->Option X
 | 0,L,σ,k=>(match (List.range ops.size).filter (gO ops L)with
  | []=>k σ
  | _=>none)
 | f+1,L,σ,k=>(match (List.range ops.size).filter (gO ops L)with
  | []=>k σ
  | [i]=>(match ops[i]? with
   | some o=>bO P N Φ ops σ o fun aa=>splitK aa o.dst (CY ops i) fun oA=>gP P N Φ ops f (L ||| 2 ^ i) oA k
   | none=>none)
  | rs=>(match rs.find? (M0 Φ ops L σ)with
   | some i=>(match ops[i]? with
    | some o=>sP P N Φ ops L i σ o fun aa=>splitK aa o.dst (CY ops i) fun oA=>gP P N Φ ops f (L ||| 2 ^ i) oA k
    | none=>none)
   | none=>(match rs.find? (M1 Φ ops L σ)with
    | some i=>(match ops[i]? with
     | some o=>bO P N Φ ops σ o fun aa=>splitK aa o.dst (CY ops i) fun oA=>gP P N Φ ops f (L ||| 2 ^ i) oA k
     | none=>none)
    | none=>none)))
/-! A new slice of constants may come first,beside values and calls of contents. -/
def C4:Op->Bool
 | .move _ | .assign _ | .load .. | .binOp .. | .unOp .. | .field .. | .fieldAddr .. | .index ..=>true
 | .call ⟨.builtin .len,_,_⟩=>true
 | _=>false
def HD(Φ:cc)(o:Oper):Bool:=C4 o.op || (match o.op with
 | .call ⟨.value (.func f),_,_⟩=>(match Φ f with
  | some (.p _)=>true
  | _=>false)
 | _=>false)
def early(Φ:cc)(ops:Array Oper)(i:Nat):Bool:=match ops[i]? with
 | some o=>(match o.op with
  | .buildSlice ..=>true
  | _=>false)&&je o&&o.guard.isNone&&gO ops 0 i&&(o.op.operands.toList.all fun x=>match x with
  | .const _=>true
  | _=>false)&&Nat.beq ((0 ||| 2 ^ i) &&& waits ops i ops.size 0 0) 0&&wP (HD Φ) ops o i 0 (waits ops i ops.size 0 0) ops.size 0
 | none=>false
def qi{X:Type}(P:Program)(N:Nat)(Φ:cc)(ops:Array Oper)(σ:S)(k:S->Option X):Option X:=
 match (List.range ops.size).find? (early Φ ops)with
 | some i=>(match ops[i]? with
  | some o=>(match o.dst with
   | some e=>bO P N Φ ops (σ.drop e) o fun aa=>gP P N Φ ops (ops.size-1) (0 ||| 2 ^ i) aa k
   | none=>none)
  | none=>none)
 | none=>gP P N Φ ops ops.size 0 σ k
structure dG where
 run:(X:Type)->S->(Exit->S->Option X)->Option X
abbrev jA:=Nat->Option dG
def dQ{X:Type}(P:Program)(N:Nat)(Φ:cc)(Λ:jA):Code->S->(Exit->S->Option X)->Option X
 | .skip,σ,k=>k .normal σ
 | .label _,σ,k=>k .normal σ
 | .ret,σ,k=>k .ret σ
 | .exit id,σ,k=>k (.exit id) σ
 | .region _ ops false,σ,k=>oz P N Φ ops 0 ops.toList σ fun aa=>k .normal aa
 | .region _ ops true,σ,k=>bif P.follows .mixedOrders then qi P N Φ ops σ fun aa=>k .normal aa else none
 | .seq x y,σ,k=>dQ P N Φ Λ x σ fun e aa=>match e with
  | .normal=>dQ P N Φ Λ y aa k
  | e=>k e aa
 | .cond c x y,σ,k=>match ah σ c with
  | .lf (.v (.bool b))=>bif b then dQ P N Φ Λ x σ k else dQ P N Φ Λ y σ k
  | _=>none
 | .block id c,σ,k=>match Λ id with
  | some b=>b.run X σ k
  | none=>dQ P N Φ Λ c σ fun e aa=>match e with
   | .exit lB=>if lB=id then k .normal aa else k (.exit lB) aa
   | e=>k e aa
 | _,_,_=>none
def AW(P:Program)(w0:Wd)(N:Nat)(c:Code)(σ:S)(K:Exit->S->Prop):Prop:=
 ∀ a w,R w0 N σ a w->c.wp P (fun e a' w'=>∃ aa,K e aa/\R w0 N aa a' w') a w
def occs:Code->List (Nat×Code)
 | .seq x y=>occs x++occs y
 | .cond _ x y=>occs x++occs y
 | .block id c=>(id,c) :: occs c
 | _=>[]
def ez(P:Program)(N:Nat)(c:Code)(b:dG):Prop:=∀ (X:Type) σ k (r:X) w0,b.run X σ k=some r->AW P w0 N c σ fun e aa=>k e aa=some r
def oD(P:Program)(N:Nat)(Λ:jA)(l:List (Nat×Code)):Prop:=∀ p∈l,∀ b,Λ p.1=some b->ez P N (.block p.1 p.2) b
section
variable {P:Program} {w w':World} {w0:Wd} {B N:Nat} {lab af:aH} {ρ ρ':Nat->Loc} {σ:S} {a:Act} {X:Type} {d:Nat} {r:X} {o:Oper} {Φ:cc} {Λ:jA}
theorem gH.mem{aa:S}(hd:o.dst=some d)(h:∀ lab ρ a w,Rl w0 N lab ρ σ a w->∃ w' af ρ' v,(execOp a.eval o).run P w = .ok (.value v) w'/\Rl w0 N af ρ' aa (a.put (some d) v) w'):gH P w0 N o σ aa:=by
 intro a w K Q hR hK
 obtain⟨lab,ρ,hR⟩:=hR
 obtain⟨w',af,ρ',v,aD,aB⟩:=h lab ρ a w hR
 unfold Oper.wp
 rw[aD,Oper.upon_value,hd]
 exact hK _ _ ⟨af,ρ',aB⟩
theorem dm{k:Nat->Option X}(h:cx o k=some r):∃ d,o.dst=some d/\k d=some r:=by
 unfold cx at h
 split at h
 ·rename_i d hd;exact⟨d,hd,h⟩
 ·cases h
theorem iI{s:Sem Value}{v:Value}(h:s.run P w = .ok v w'):(do pure (.value (<-s)):Sem Next).run P w = .ok (.value v) w':=by
 rw[Sem.run_bind,h];rfl
theorem wR{op:Op}{k:A->Option X}(h:aZ P σ op k=some r):∃ v,k v=some r/\aS (fun X k=>aZ (X:=X) P σ op k) v/\∀ lab ρ a w (o:Oper),o.op=op->Rl w0 N lab ρ σ a w->∃ u,(execOp a.eval o).run P w = .ok (.value u) w/\RA w w0.heap.size lab ρ v u:=by
 unfold aZ at h
 split at h
 ·rename_i x
  exact⟨_,h,fun X k=>rfl,fun lab ρ a w o ho hR=>⟨a.eval x,by simp[execOp,ho],hR.ah x⟩⟩
 ·rename_i x
  exact⟨_,h,fun X k=>rfl,fun lab ρ a w o ho hR=>⟨a.eval x,by simp[execOp,ho],hR.ah x⟩⟩
 ·rename_i c x y
  split at h
  ·rename_i b U
   refine⟨bif b then ah σ x else ah σ y,by cases b <;>exact h,fun X k=>by simp only[aZ,U];cases b <;>rfl,fun lab ρ a w o ho hR=>?_⟩
   have hc:=hR.ah c
   rw[U]at hc
   have hv:=hc.2.rR
   cases b with
   | true=>exact⟨a.eval x,by simp[execOp,ho,hv,asBool],hR.ah x⟩
   | false=>exact⟨a.eval y,by simp[execOp,ho,hv,asBool],hR.ah y⟩
  ·cases h
 ·rename_i t parts
  obtain⟨y,h1,hd⟩:=VC h
  obtain⟨y',h1',hs⟩:=Ue (w0:=w0) (N:=N) (k:=fun z=>some z) (r:=y) (hd.at_ _)
  injection h1' with h1'
  subst h1'
  refine⟨_,h1,fun X k=>hd.at_ _,fun lab ρ a w o ho hR=>?_⟩
  obtain⟨v,aD,aB⟩:=hs lab ρ a w hR
  exact⟨v,by simp only[execOp,ho];exact iI aD,aB⟩
 ·rename_i t x
  obtain⟨y,h1,hd⟩:=Ak h
  obtain⟨y',h1',hs⟩:=Ln (w0:=w0) (N:=N) (k:=fun z=>some z) (r:=y) (hd.at_ _)
  injection h1' with h1'
  subst h1'
  refine⟨_,h1,fun X k=>hd.at_ _,fun lab ρ a w o ho hR=>?_⟩
  obtain⟨v,aD,aB⟩:=hs lab ρ a w hR _ (hR.ah x)
  exact⟨v,by simp only[execOp,ho];exact iI aD,aB⟩
 ·rename_i op t x y yt
  obtain⟨z,h1,hd⟩:=Vx h
  obtain⟨z',h1',hs⟩:=Ur (w0:=w0) (N:=N) (k:=fun z=>some z) (r:=z) (hd.at_ _)
  injection h1' with h1'
  subst h1'
  refine⟨_,h1,fun X k=>hd.at_ _,fun lab ρ a w o ho hR=>?_⟩
  obtain⟨t',aD,hr⟩:=hs lab ρ a w hR x y _ _ (hR.ah x) (hR.ah y)
  exact⟨t',by simp only[execOp,ho];exact iI aD,hr⟩
 ·rename_i op t x
  obtain⟨u,h1,n6⟩:=wK h
  obtain⟨z,h3,tW⟩:=Ms h1
  obtain⟨u',hx,h1'⟩:=Cf (k:=fun z=>some z) (r:=u) (n6.at_ _)
  injection h1' with h1'
  subst h1'
  obtain⟨z',tH,hp,hs⟩:=TL (P:=P) (k:=fun z=>some z) (r:=z) (tW.at_ _)
  injection tH with tH
  subst tH
  refine⟨_,h3,fun X k=>(n6.at_ _).trans (tW.at_ _),fun lab ρ a w o ho hR=>?_⟩
  have h1:=hR.ah x
  rw[hx]at h1
  obtain⟨t',aD,hr⟩:=hs w _ lab [] _ h1.2
  exact⟨t',by simp only[execOp,ho];exact iI aD,V.zy hp,hr⟩
 ·rename_i s d' x
  obtain⟨y,h1,hd⟩:=VG h
  obtain⟨y',h1',hs⟩:=Un (w0:=w0) (N:=N) (k:=fun z=>some z) (r:=y) (hd.at_ _)
  injection h1' with h1'
  subst h1'
  refine⟨_,h1,fun X k=>hd.at_ _,fun lab ρ a w o ho hR=>?_⟩
  obtain⟨v,aD,aB⟩:=hs lab ρ a w hR _ (hR.ah x)
  exact⟨v,by simp only[execOp,ho];exact iI aD,aB⟩
 ·rename_i s x f
  obtain⟨y,h1,hd⟩:=Vy h
  obtain⟨y',h1',hs⟩:=TP (k:=fun z=>some z) (r:=y) (hd.at_ _)
  injection h1' with h1'
  subst h1'
  refine⟨_,h1,fun X k=>hd.at_ _,fun lab ρ a w o ho hR=>?_⟩
  obtain⟨v,aD,aB⟩:=hs w _ lab ρ _ (hR.ah x)
  exact⟨v,by simp only[execOp,ho];exact iI aD,aB⟩
 ·rename_i s x f
  obtain⟨y,h1,hd⟩:=VD h
  obtain⟨y',h1',hs⟩:=Uo (k:=fun z=>some z) (r:=y) (hd.at_ _)
  injection h1' with h1'
  subst h1'
  refine⟨_,h1,fun X k=>hd.at_ _,fun lab ρ a w o ho hR=>?_⟩
  obtain⟨v,aD,aB⟩:=hs w _ lab ρ _ (hR.ah x)
  exact⟨v,by simp only[execOp,ho];exact iI aD,aB⟩
 ·rename_i t x i
  obtain⟨y,h1,hd⟩:=Vz h
  obtain⟨y',h1',hs⟩:=TQ (w0:=w0) (N:=N) (k:=fun z=>some z) (r:=y) (hd.at_ _)
  injection h1' with h1'
  subst h1'
  refine⟨_,h1,fun X k=>hd.at_ _,fun lab ρ a w o ho hR=>?_⟩
  obtain⟨v,aD,aB⟩:=hs lab ρ a w hR _ _ (hR.ah x) (hR.ah i)
  exact⟨v,by simp only[execOp,ho];exact iI aD,aB⟩
 ·rename_i t x i
  obtain⟨y,h1,hd⟩:=VE h
  obtain⟨y',h1',hs⟩:=Um (k:=fun z=>some z) (r:=y) (hd.at_ _)
  injection h1' with h1'
  subst h1'
  refine⟨_,h1,fun X k=>hd.at_ _,fun lab ρ a w o ho hR=>?_⟩
  obtain⟨v,aD,aB⟩:=hs w _ lab ρ _ _ (hR.ah x) (hR.ah i)
  exact⟨v,by simp only[execOp,ho];exact iI aD,aB⟩
 ·rename_i x i
  obtain⟨y,h1,hd⟩:=VB h
  obtain⟨y',h1',hs⟩:=TS (P:=P) (k:=fun z=>some z) (r:=y) (hd.at_ _)
  injection h1' with h1'
  subst h1'
  refine⟨_,h1,fun X k=>hd.at_ _,fun lab ρ a w o ho hR=>?_⟩
  obtain⟨v,aD,aB⟩:=hs w _ lab ρ _ (hR.ah x)
  exact⟨v,by simp only[execOp,ho];exact iI aD,aB⟩
 ·rename_i x
  obtain⟨h1,hd,hs⟩:=MB (w:=default) (B:=0) (lab:=fun _=>none) (ρ:=fun _=>.bX undef) h
  refine⟨_,h1,fun X k=>hd.at_ _,fun lab ρ a w o ho hR=>?_⟩
  obtain⟨_,_,hs⟩:=MB (w:=w) (B:=w0.heap.size) (lab:=lab) (ρ:=ρ) h
  obtain⟨ad,hu⟩:=hs _ (hR.ah x)
  refine⟨a.eval x,?_,hR.ah x⟩
  simp only[execOp,ho,hu]
  rfl
 ·rename_i x t
  obtain⟨y,h1,hd⟩:=VA h
  refine⟨_,h1,fun X k=>hd.at_ _,fun lab ρ a w o ho hR=>?_⟩
  obtain⟨y',h1',hs⟩:=TR (w0:=w0) (N:=N) (ty:=o.type) (k:=fun z=>some z) (r:=y) (hd.at_ _)
  injection h1' with h1'
  subst h1'
  obtain⟨v,aD,aB⟩:=hs lab ρ a w hR _ (hR.ah x)
  exact⟨v,by simp only[execOp,ho,resolve,Sem.run_bind,Sem.run_pure,Result.andThen_ok,invoke,builtin,List.map_toArray,List.map_cons,List.map_nil];rw[aD];rfl,aB⟩
 ·rename_i x y t t'
  obtain⟨z,h1,hd⟩:=Mt h
  obtain⟨z',h1',hs⟩:=LJ (P:=P) (k:=fun z=>some z) (r:=z) (hd.at_ _)
  injection h1' with h1'
  subst h1'
  refine⟨_,h1,fun X k=>hd.at_ _,fun lab ρ a w o ho hR=>?_⟩
  obtain⟨v,aD,aB⟩:=hs w _ lab ρ t o.type _ _ (hR.ah x) (hR.ah y)
  refine⟨v,?_,aB⟩
  simp only[execOp,ho,resolve,Sem.run_bind,Sem.run_pure,Result.andThen_ok,invoke,builtin,List.map_toArray,List.map_cons,List.map_nil]
  have aD:(Builtin.max_ #[t,t'] o.type #[a.eval x,a.eval y]).run P w = .ok v w:=aD
  rw[aD];rfl
 ·rename_i x y t t'
  obtain⟨z,h1,hd⟩:=Mt h
  obtain⟨z',h1',hs⟩:=LJ (P:=P) (k:=fun z=>some z) (r:=z) (hd.at_ _)
  injection h1' with h1'
  subst h1'
  refine⟨_,h1,fun X k=>hd.at_ _,fun lab ρ a w o ho hR=>?_⟩
  obtain⟨v,aD,aB⟩:=hs w _ lab ρ t o.type _ _ (hR.ah x) (hR.ah y)
  refine⟨v,?_,aB⟩
  simp only[execOp,ho,resolve,Sem.run_bind,Sem.run_pure,Result.andThen_ok,invoke,builtin,List.map_toArray,List.map_cons,List.map_nil]
  have aD:(Builtin.min_ #[t,t'] o.type #[a.eval x,a.eval y]).run P w = .ok v w:=aD
  rw[aD];rfl
 ·rename_i t x lo hi
  obtain⟨y,h1,hd⟩:=VH h
  obtain⟨y',h1',hs⟩:=Ut (w0:=w0) (N:=N) (k:=fun z=>some z) (r:=y) (hd.at_ _)
  injection h1' with h1'
  subst h1'
  refine⟨_,h1,fun X k=>hd.at_ _,fun lab ρ a w o ho hR=>?_⟩
  have ob:∀ z:Option Operand,(∀ b,z.map (ah σ)=some b->∃ v,z.map a.eval=some v/\RA w w0.heap.size lab ρ b v)/\(z.map (ah σ)=none->z.map a.eval=none):=by
   intro z
   cases z with
   | none=>exact⟨fun b U=>(by cases U),fun _=>rfl⟩
   | some z=>exact⟨fun b U=>(by cases U;exact⟨_,rfl,hR.ah z⟩),fun U=>(by cases U)⟩
  obtain⟨v,aD,hr⟩:=hs lab ρ a w hR _ _ _ (hR.ah x) (ob lo).1 (ob lo).2 (ob hi).1 (ob hi).2
  exact⟨v,by simp only[execOp,ho];exact iI aD,hr⟩
 ·cases h
theorem WA{k:S->Option X}(aJ:dB P Φ)(h:ew P N Φ σ o k=some r):∃ aa,k aa=some r/\gH P w0 N o σ aa:=by
 unfold ew at h
 split at h
 ·rename_i e ho
  obtain⟨d,hd,h⟩:=dm h
  obtain⟨aa,h,hs⟩:=T4 (w0:=w0) h
  refine⟨aa,h,.mem hd fun lab ρ a w hR=>?_⟩
  obtain⟨w',af,ρ',v,aD,aB⟩:=hs lab ρ a w hR
  exact⟨w',af,ρ',v,by simp only[execOp,ho];exact iI aD,aB⟩
 ·rename_i e x ho
  obtain⟨d,hd,h⟩:=dm h
  obtain⟨aa,h,hs⟩:=VL (w0:=w0) (e:=e) h
  refine⟨aa,h,.mem hd fun lab ρ a w hR=>?_⟩
  obtain⟨w',af,ρ',v,aD,aB⟩:=hs lab ρ a w hR _ (hR.ah x)
  exact⟨w',af,ρ',v,by simp only[execOp,ho];exact iI aD,aB⟩
 ·rename_i t len parts ho
  obtain⟨d,hd,h⟩:=dm h
  cases hn:jz t with
  | true=>
   rw[hn,cond_true]at h
   obtain⟨aa,h,hs⟩:=VM (w0:=w0) h
   refine⟨aa,h,.mem hd fun lab ρ a w hR=>?_⟩
   obtain⟨w',af,ρ',v,aD,aB⟩:=hs lab ρ a w hR
   exact⟨w',af,ρ',v,by simp only[execOp,ho];exact iI aD,aB⟩
  | false=>
   rw[hn,cond_false]at h
   obtain⟨aa,h,hs⟩:=Uj (w0:=w0) h
   refine⟨aa,h,.mem hd fun lab ρ a w hR=>?_⟩
   obtain⟨w',af,ρ',v,aD,aB⟩:=hs lab ρ a w hR
   exact⟨w',af,ρ',v,by simp only[execOp,ho];exact iI aD,aB⟩
 ·rename_i t x y ho
  split at h
  ·rename_i hd
   cases hn:tZ (ah σ x) (ah σ y)with
   | true=>
    rw[hn,cond_true]at h
    obtain⟨aa,h,hs⟩:=VU (w0:=w0) (N:=N) h
    refine⟨aa,h,fun a w K Q hR hK=>?_⟩
    obtain⟨lab,ρ,hR⟩:=hR
    obtain⟨w',af,aD,aB⟩:=hs lab ρ a w hR _ _ (hR.ah x) (hR.ah y)
    have:(execOp a.eval o).run P w = .ok .skip w':=by
     simp only[execOp,ho]
     rw[Sem.run_bind,aD];rfl
    unfold Oper.wp
    rw[this,Oper.upon_skip,hd]
    exact hK _ _ ⟨af,ρ,aB⟩
   | false=>
    rw[hn,cond_false]at h
    obtain⟨aa,h,hs⟩:=Lp (w0:=w0) (N:=N) h
    refine⟨aa,h,fun a w K Q hR hK=>?_⟩
    obtain⟨lab,ρ,hR⟩:=hR
    obtain⟨w',aD,aB⟩:=hs lab ρ a w hR _ _ (hR.ah x) (hR.ah y)
    have:(execOp a.eval o).run P w = .ok .skip w':=by
     simp only[execOp,ho]
     rw[Sem.run_bind,aD];rfl
    unfold Oper.wp
    rw[this,Oper.upon_skip,hd]
    exact hK _ _ ⟨lab,ρ,aB⟩
  ·cases h
 ·rename_i t l c ho
  obtain⟨d,hd,h⟩:=dm h
  obtain⟨aa,h,hs⟩:=T8 (w0:=w0) h
  refine⟨aa,h,.mem hd fun lab ρ a w hR=>?_⟩
  obtain⟨w',af,ρ',v,aD,aB⟩:=hs lab ρ a w hR _ _ (hR.ah l) (hR.ah c)
  exact⟨w',af,ρ',v,by simp only[execOp,ho];exact iI aD,aB⟩
 ·rename_i f args bG ho
  split at h
  ·rename_i c hc
   obtain⟨d,hd,h⟩:=dm h
   obtain⟨he,bM⟩:=aJ f _ hc
   exact Uy ho hd he bM h
  ·rename_i c hc
   obtain⟨he,bM⟩:=aJ f _ hc
   exact U9 ho he bM h
  ·rename_i c hc
   obtain⟨d,hd,h⟩:=dm h
   obtain⟨he,bM⟩:=aJ f _ hc
   exact V0 ho hd he bM h
  ·rename_i F hc
   obtain⟨d,hd,h⟩:=dm h
   obtain⟨he,bM⟩:=aJ f _ hc
   split at h
   ·rename_i x hx
    exact VX ho hx hd he bM h
   ·cases h
  ·rename_i c hc
   obtain⟨he,bM⟩:=aJ f _ hc
   exact MQ (ex:=[]) ho rfl he bM h
  ·rename_i c hc
   obtain⟨he,bM⟩:=aJ f _ hc
   exact Vf ho he bM h
  ·rename_i c hc
   obtain⟨d,hd,h⟩:=dm h
   obtain⟨he,bM⟩:=aJ f _ hc
   exact Uz ho hd he bM h
  ·rename_i c hc
   obtain⟨he,bM⟩:=aJ f _ hc
   exact V9 ho he bM h
  ·cases h
 ·rename_i x y t t' ho
  cases dy:Nat.beq t t' with
  | false=>
   rw[dy,cond_false]at h
   obtain⟨d,hd,h⟩:=dm h
   obtain⟨aa,h,hs⟩:=Wn (w0:=w0) (ty:=o.type) h
   refine⟨aa,h,.mem hd fun lab ρ a w hR=>?_⟩
   obtain⟨w',af,ρ',v,aD,aB⟩:=hs lab ρ a w hR _ _ (hR.ah x) (hR.ah y)
   refine⟨w',af,ρ',v,?_,aB⟩
   simp only[execOp,ho,resolve,Sem.run_bind,Sem.run_pure,Result.andThen_ok,invoke,builtin,List.map_toArray,List.map_cons,List.map_nil]
   rw[aD];rfl
  | true=>
   rw[dy,cond_true]at h
   obtain rfl:=Nat.eq_of_beq_eq_true dy
   obtain⟨d,hd,h⟩:=dm h
   have hh:∃ aa,k aa=some r/\∀ lab ρ a w,Rl w0 N lab ρ σ a w->∀ u v,RA w w0.heap.size lab ρ (ah σ x) u->RA w w0.heap.size lab ρ (ah σ y) v->
     ∃ w' af ρ' z,(Builtin.append_ #[t,t] o.type #[u,v]).run P w = .ok z w'/\Rl w0 N af ρ' aa (a.put (some d) z) w':=by
    cases hn:jz t with
    | true=>rw[hn,cond_true]at h;exact VR h
    | false=>
     rw[hn,cond_false]at h
     cases hk:Ax t d with
     | true=>rw[hk,cond_true]at h;exact Wv h
     | false=>rw[hk,cond_false]at h;exact Ua h
   obtain⟨aa,h,hs⟩:=hh
   refine⟨aa,h,.mem hd fun lab ρ a w hR=>?_⟩
   obtain⟨w',af,ρ',v,aD,aB⟩:=hs lab ρ a w hR _ _ (hR.ah x) (hR.ah y)
   refine⟨w',af,ρ',v,?_,aB⟩
   simp only[execOp,ho,resolve,Sem.run_bind,Sem.run_pure,Result.andThen_ok,invoke,builtin,List.map_toArray,List.map_cons,List.map_nil]
   rw[aD];rfl
 ·rename_i t ho
  obtain⟨d,hd,h⟩:=dm h
  obtain⟨aa,h,hs⟩:=Wp (w0:=w0) (t:=t) (P:=P) h
  refine⟨aa,h,.mem hd fun lab ρ a w hR=>?_⟩
  obtain⟨w',af,ρ',v,aD,aB⟩:=hs lab ρ a w hR
  exact⟨w',af,ρ',v,by simp only[execOp,ho];exact iI aD,aB⟩
 ·rename_i t x i ho
  obtain⟨v,h1,_,hs⟩:=MW (w0:=w0) (N:=N) h
  refine gH.val h1 fun lab ρ a w hR=>?_
  obtain⟨y,aD,aB⟩:=hs lab ρ a w hR _ _ (hR.ah x) (hR.ah i)
  exact⟨y,by simp only[execOp,ho];exact iI aD,aB⟩
 ·rename_i t x i v ho
  split at h
  ·rename_i hd
   obtain⟨aa,h,_,hs⟩:=MY (w0:=w0) (N:=N) h
   refine⟨aa,h,fun a w K Q hR hK=>?_⟩
   obtain⟨lab,ρ,hR⟩:=hR
   obtain⟨w',aD,aB⟩:=hs lab ρ a w hR _ _ _ (hR.ah x) (hR.ah i) (hR.ah v)
   have:(execOp a.eval o).run P w = .ok .skip w':=by
    simp only[execOp,ho]
    rw[Sem.run_bind,aD];rfl
   unfold Oper.wp
   rw[this,Oper.upon_skip,hd]
   exact hK _ _ ⟨lab,ρ,aB⟩
  ·cases h
 ·rename_i t args bG ho
  split at h
  ·rename_i f cap b5
   split at h
   ·rename_i c hc
    obtain⟨he,bM⟩:=aJ f _ hc
    exact MQ ho b5 he bM h
   ·cases h
  ·cases h
 ·rename_i f Ay ho
  split at h
  ·rename_i ps dP
   obtain⟨h1,h2⟩:=MR (w0:=w0) (N:=N) _ _ dP
   refine gH.val h fun lab ρ a w hR=>⟨.func (.func f) #[] (Ay.map a.eval),by simp[execOp,ho,Instr.makeFunc],_,rfl,by simp[h1],fun j p hp=>?_⟩
   obtain⟨b,off,e1,e2⟩:=h2 lab ρ a w hR j p hp
   exact⟨b,off,e1,by simpa using e2⟩
  ·cases h
 ·cases h
theorem C5{k:S->Option X}(aJ:dB P Φ)(h:bF P N Φ σ o k=some r):∃ aa,k aa=some r/\gH P w0 N o σ aa:=by
 unfold bF at h
 cases hv:cV o.op with
 | true=>
  rw[hv,cond_true]at h
  obtain⟨v,h1,_,hs⟩:=wR (w0:=w0) (N:=N) h
  exact gH.val h1 fun lab ρ a w hR=>hs lab ρ a w o rfl hR
 | false=>
  rw[hv,cond_false]at h
  exact WA aJ h
theorem WB{k:S->Option X}(aJ:dB P Φ)(h:kM P N Φ σ o k=some r):∃ aa,k aa=some r/\gH P w0 N o σ aa:=by
 unfold kM at h
 split at h
 ·rename_i t x y ho hd
  split at h
  ·rename_i q s i j hy
   obtain⟨aa,h1,hs⟩:=Wb (w0:=w0) (N:=N) h
   refine⟨aa,h1,fun a w K Q hR hK=>?_⟩
   obtain⟨lab,ρ,hR⟩:=hR
   have hv:=hR.ah y
   rw[hy]at hv
   obtain⟨w',af,aD,aB⟩:=hs lab ρ a w hR _ _ (hR.ah x) hv
   have:(execOp a.eval o).run P w = .ok .skip w':=by
    simp only[execOp,ho]
    rw[Sem.run_bind,aD];rfl
   unfold Oper.wp
   rw[this,Oper.upon_skip,hd]
   exact hK _ _ ⟨af,ρ,aB⟩
  ·exact C5 aJ h
 ·obtain⟨aa,h1,hs⟩:=C5 (w0:=w0) aJ h
  exact⟨aa,h1,fun a w K Q hR hK=>hs a w K Q hR.wM hK⟩
 ·exact C5 aJ h
end
end Go.Proofs.YtjldnlbiefpekaaDoor
