/-
  Running the program over pure contents, and that it follows (part 3). Nothing here is a claim.
-/
import Derived.Lib.AppendStr
import Derived.MapKept
import Derived.Test.YtinbifpbkcbnkaaGreatV2
set_option linter.unusedSimpArgs false
namespace Go.Proofs.YtinbifpbkcbnkaaGreat
open Go.RowKit
set_option linter.unusedVariables false
def dT:Nat:=89999
def nX(af:bq)(k:List Nat):bq:=fun b=>match af b with
 | some q=>bif k.isSuffixOf q then some (q.take (q.length-k.length)++[dT])else bif aX dT q then none else some q
 | none=>none
def H7(σ:S)(c:lN)(args:List Operand)(q:Nat):Bool:=match iM σ c.ps args with
 | some aJ=>!bN q ((jB 0 aJ).map (·.1))&&aJ.any fun mu=>Nat.beq mu.root dT
 | none=>false
def ye{X:Type}(N:Nat)(σ:S)(dst:Option Tmp)(c:lN)(args:List Operand)(k:S->Option X):Option X:=
 match args with
 | .tmp t :: _=>(match σ.t t with
  | .lf (.own [j,i,s,q])=>(match σ.m q with
   | some (.sl (.sl tc (o+2) qn l))=>if s=aB tc then (if hi:i<l.length then (match (enc tc o l[i])[j]? with
    | some y=>bif Nat.ble N 20000&&Nat.ble 20000 q&&Nat.blt q 60000&&H7 ((σ.bk [q,dT] [dT] [(dT,.sl y)]).set t (.lf (.own [dT]))) c args q then kj N ((σ.bk [q,dT] [dT] [(dT,.sl y)]).set t (.lf (.own [dT]))) dst c args fun τ=>(match τ.m dT with
      | some (.sl y')=>(match dec tc o (eH (enc tc o l[i]) j [y'])with
       | some e=>k ((τ.drop dT).root q (.sl (.sl tc (o+2) qn (l.set i e))))
       | none=>none)
      | _=>none)else none
    | none=>none)else none)else none
   | _=>none)
  | _=>none)
 | _=>none
section
variable {P:Program} {w w':World} {w0:Wd} {B N:Nat} {af cR ax:bq} {ρ dW ρ':Nat->Loc} {σ:S} {a:Act} {X:Type} {d:Nat} {r:X} {o:Oper} {K:List Nat}
theorem H8{b:Nat}(h:af b=none):nX af K b=none:=by simp[nX,h]
theorem aiE{b:Nat}{p:List Nat}(h:af b=some (p++K)):nX af K b=some (p++[dT]):=by
 have h1:K.isSuffixOf (p++K)=true:=List.isSuffixOf_iff_suffix.2 ⟨p,rfl⟩
 simp[nX,h,h1]
theorem OD{b:Nat}{k:List Nat}(h:af b=some k)(h1:¬ K <:+ k)(h2:aX dT k=false):nX af K b=some k:=by
 have h1:K.isSuffixOf k=false:=by
  cases hk:K.isSuffixOf k with
  | false=>rfl
  | true=>exact absurd (List.isSuffixOf_iff_suffix.1 hk) h1
 simp[nX,h,h1,h2]
theorem RV.cut{k:List Nat}{x:V}{v:Value}(h:RV w B af k x v):∀ p,k=p++K\/x.ah=true->RV w B (nX af K) (p++[dT]) x v:=by
 induction h with
 | int=>exact fun _ _=>.int _ _ _
 | bool=>exact fun _ _=>.bool _ _
 | str=>exact fun _ _=>.str _ _
 | nil=>exact fun _ _=>.nil _
 | cD=>exact fun _ _=>.cD _ _ _
 | cK=>exact fun _ _=>.cK _ _ _ _ _ (by first | assumption | omega)
 | cW=>exact fun _ _=>.cW _ _ _ _ _ (by first | assumption | omega)
 | ah k t o qn l b off cap u ho hl hb h1 dP hc hr ih=>
  exact fun p _=>.ah _ _ _ _ _ _ _ _ u ho (H8 hl) hb h1 dP hc (fun i h j x hx=>(ih i h j x hx [] (.inr (jl t o l[i] ho j x hx))).key (jl t o l[i] ho j x hx))
 | own k t o qn l b cap cs u hl hh hs hn hm hc hr ih=>
  intro p hp
  have hp:k=p++K:=by
   rcases hp with hp | hp
   ·exact hp
   ·simp[V.ah]at hp;omega
  subst hp
  exact .own _ _ _ _ _ _ _ cs u (aiE hl) hh hs hn hm hc (fun i h j x hx=>ih i h j x hx (j :: i :: aB t :: p) (.inl rfl))
theorem RV.aiF{k:List Nat}{x:V}{v:Value}(h:RV w B af k x v)(aV:∀ b,af b≠some [])(hk:((∀ p,¬ K <:+ p++k)/\aX dT k=false)\/x.ah=true):RV w B (nX af K) k x v:=by
 induction h with
 | int=>exact .int _ _ _
 | bool=>exact .bool _ _
 | str=>exact .str _ _
 | nil=>exact .nil _
 | cD=>exact .cD _ _ _
 | cK=>exact .cK _ _ _ _ _ (by first | assumption | omega)
 | cW=>exact .cW _ _ _ _ _ (by first | assumption | omega)
 | ah k t o qn l b off cap u ho hl hb h1 dP hc hr ih=>
  exact .ah _ _ _ _ _ _ _ _ u ho (H8 hl) hb h1 dP hc (fun i h j x hx=>ih i h j x hx (.inr (jl t o l[i] ho j x hx)))
 | own k t o qn l b cap cs u hl hh hs hn hm hc hr ih=>
  have hk:(∀ p,¬ K <:+ p++k)/\aX dT k=false:=by
   rcases hk with hk | hk
   ·exact hk
   ·simp[V.ah]at hk;omega
  refine .own _ _ _ _ _ _ _ cs u (OD hl (hk.1 []) hk.2) hh hs hn hm hc (fun i h j x hx=>ih i h j x hx (.inl ⟨fun p=>?_,?_⟩))
  ·have:=hk.1 (p++[j,i,aB t])
   rwa [List.append_assoc]at this
  ·have DF:k≠[]:=by rintro rfl;exact aV b hl
   rw[Hy DF]
   exact hk.2
theorem Rl.aiG{t:Nat}{x:A}(h:Rl w0 N af ρ σ a w)(hx:RA w w0.heap.size af ρ x (a.tmps.getD t undef)):Rl w0 N af ρ (σ.set t x) a w:=by
 refine⟨h.below,h.cH,h.root,fun k=>?_,h.size,h.defers,h.fix,h.eg⟩
 show RA w w0.heap.size af ρ (bG σ.t t x k) (a.tmps.getD k undef)
 by_cases hk:k=t
 ·subst hk
  rw[bK]
  exact hx
 ·rw[cm _ _ _ hk]
  exact h.tmp k
theorem Rl.aiH{q:Nat}{x:aP}(h:Rl w0 N af ρ σ a w)(hx:dK w w0.heap.size af ρ q x):Rl w0 N af ρ (σ.root q x) a w:=by
 refine⟨h.below,h.cH,fun r y hy=>?_,h.tmp,h.size,h.defers,h.fix,h.eg⟩
 have hy:bG σ.m q (some x) r=some y:=hy
 by_cases hr:r=q
 ·subst hr
  rw[bK]at hy
  injection hy with hy
  subst hy
  exact hx
 ·rw[cm _ _ _ hr]at hy
  exact h.root r y hy
theorem iE.aiI(h:Rl w0 N af ρ σ a w):iE w0 w w:=⟨rfl,rfl,rfl,Nat.le_refl _,fun _ _ _=>rfl⟩
theorem aiJ{f:Nat}{args:Array Operand}{cO:Array TypeId}{c:lN}{k:S->Option X}(ho:o.op = .call { callee:=.value (.func f),args,argTypes:=cO })(he:enters P f)(hc:xV P f c)(h:ye N σ o.dst c args.toList k=some r):∃ aj,k aj=some r/\jZ P w0 N o σ aj:=by
 unfold ye at h
 split at h
 ·rename_i t rest gW
  split at h
  ·rename_i j i s q ht
   split at h
   ·rename_i tc oo qn l hm
    split at h
    ·rename_i hs
     subst hs
     split at h
     ·rename_i hi
      split at h
      ·rename_i y hy
       generalize aiK:((σ.bk [q,dT] [dT] [(dT,.sl y)]).set t (.lf (.own [dT])))=mb at h
       cases hb:(Nat.ble N 20000&&Nat.ble 20000 q&&Nat.blt q 60000&&H7 mb c args.toList q)with
       | false=>rw[hb]at h;cases h
       | true=>
        rw[hb,cond_true]at h
        simp only[Bool.and_eq_true]at hb
        obtain⟨⟨⟨hN,v5⟩,v7⟩,H9⟩:=hb
        have hN:=Nat.le_of_ble_eq_true hN
        have v5:=Nat.le_of_ble_eq_true v5
        have v7:q<60000:=Nat.le_of_ble_eq_true v7
        obtain⟨τ,aJ,cn,hk,kV,pY,vZ,Dt⟩:=OB (w0:=w0) ho he hc h
        clear h
        unfold H7 at H9
        rw[kV]at H9
        simp only[Bool.and_eq_true,Bool.not_eq_true']at H9
        obtain⟨AL,hdT⟩:=H9
        obtain⟨mu,fF,OE⟩:=List.any_eq_true.1 hdT
        have OE:=Nat.eq_of_beq_eq_true OE
        have aiL:bN dT cn=false:=by rw[<-OE];exact vZ mu fF
        have aiM:bN q cn=false:=by
         cases hx:bN q cn with
         | false=>rfl
         | true=>have:=pY q hx;omega
        have OF:q≠dT:=by unfold dT;omega
        split at hk
        ·rename_i y' fm
         split at hk
         ·rename_i e OG
          refine⟨_,hk,fun a w KK Q hR hK=>?_⟩
          obtain⟨af,ρ,hR⟩:=hR
          have aV:=hR.vE
          have aiN:w0.F dT=none:=hR.eg dT (.inr (by decide))
          have dm:=hR.root q _ hm
          generalize hx:aP.sl (.sl tc (oo+2) qn l)=x at dm
          cases dm with
          | ak=>cases hx
          | mp=>cases hx
          | gh=>cases hx
          | sl v yq aK hr=>
           injection hx with hx
           subst hx
           cases hr with
           | cD=>simp at hi
           | cK=>simp at hi
           | cW=>simp at hi
           | ah _ _ _ _ _ _ _ _ _ ho=>omega
           | own _ _ _ _ _ b cap cs u hl hh hs hn xF OH ic=>
            have hKv:rL σ.m [j,i,aB tc,q] y:=.elem j i [q] tc oo qn l y (.root q _ hm) hi hy
            obtain⟨u0,l7,aiO⟩:=hKv.ok hR.root
            have qF:=hR.tmp t
            rw[ht]at qF
            have eW:a.tmps.getD t undef=u0:=by
             have h2:=qF.2
             rw[l7]at h2
             injection h2 with h2
             exact h2.symm
            have aiP:u0=u i j:=by
             have h3:cc w af ρ [j,i,aB tc,q]=some (u i j):=by
              rw[Hu,xB j i (aB tc) (q:=[q]) (show cc w af ρ [q]=some (.slice (some ⟨b,0,none⟩) l.length cap) by simp only[cc,aK]) hl]
              show w.cell? _=_
              rw[cell_of_row w b _ cs _ _ hh]
              exact OH i hi j y hy
             rw[l7]at h3
             injection h3
            have gk:jV u0=true:=by rw[<-eW];exact qF.1
            -- the state that the callee's caller sees
            have Of:∀ k:List Nat,cg k [q,dT]=false->aX q k=false/\aX dT k=false:=by
             intro k hk
             unfold cg at hk
             unfold aX
             split at hk
             ·rename_i z hz
              rw[hz]
              have:=Vq hk
              simp only[List.mem_cons,List.not_mem_nil,or_false,not_or]at this
              exact⟨by simpa using this.1,by simpa using this.2⟩
             ·rename_i hz
              rw[hz]
              exact⟨rfl,rfl⟩
            have hKq:∀ k:List Nat,[j,i,aB tc,q] <:+ k->aX q k=true:=by
             rintro k ⟨p,rfl⟩
             simp[aX]
            have rV:oS w w af (nX af [j,i,aB tc,q]) ρ (bG ρ dT (.dJ u0)) [q,dT] [dT]:=by
             refine⟨Nat.le_refl _,fun b' l5 ej=>⟨rfl,?_⟩,fun n hn=>?_,fun b' k ej=>(hR.cH b' k ej).2⟩
             ·cases c9:af b' with
              | none=>exact H8 c9
              | some k=>
               obtain⟨g1,g2⟩:=Of k (ej k c9)
               exact OD c9 (fun l6=>by rw[hKq k l6]at g1;cases g1) g2
             ·refine cm _ _ _ ?_
              rintro rfl
              simp[bN]at hn
            have dg:∀ b' k,nX af [j,i,aB tc,q] b'=some k->(∃ k',af b'=some k')/\k≠[]:=by
             intro b' k ej
             cases c9:af b' with
             | none=>rw[H8 c9]at ej;cases ej
             | some k'=>
              refine⟨⟨k',rfl⟩,?_⟩
              unfold nX at ej
              rw[c9]at ej
              simp only at ej
              cases h1:List.isSuffixOf [j,i,aB tc,q] k' with
              | true=>
               rw[h1,cond_true]at ej
               injection ej with ej
               rw[<-ej]
               simp
              | false=>
               rw[h1,cond_false]at ej
               cases h2:aX dT k' with
               | true=>rw[h2,cond_true]at ej;cases ej
               | false=>
                rw[h2,cond_false]at ej
                injection ej with ej
                rw[<-ej]
                exact(hR.cH b' k' c9).2.2
            have nY:Rl w0 N (nX af [j,i,aB tc,q]) (bG ρ dT (.dJ u0)) (σ.bk [q,dT] [dT] [(dT,.sl y)]) a w:=by
             refine hR.iu rV (iE.aiI hR) (fun b' k ej=>?_) (fun n hn=>?_) (fun n z hz=>?_)
             ·obtain⟨⟨k',c9⟩,DF⟩:=dg b' k ej
              have:=hR.cH b' k' c9
              exact⟨this.1,this.2.1,DF⟩
             ·have:n=dT:=by simpa [bN]using hn
              rw[this]
              exact aiN
             ·have hn:n=dT/\z = .sl y:=by
               rw[List.lookup_cons]at hz
               cases yf:(n==dT)with
               | false=>rw[yf]at hz;cases hz
               | true=>
                rw[yf]at hz
                injection hz with hz
                exact⟨by simpa using yf,hz.symm⟩
              obtain⟨rfl,rfl⟩:=hn
              exact .sl u0 y (bK _ _ _) (aiO.cut [] (.inl rfl))
            have jA:Rl w0 N (nX af [j,i,aB tc,q]) (bG ρ dT (.dJ u0)) mb a w:=by
             rw[<-aiK]
             refine nY.aiG ?_
             rw[eW]
             exact⟨gk,by simp only[cc,bK]⟩
            refine Dt a w KK Q _ _ jA fun vv w' cR dW pZ DE tI fM tV=>?_
            -- behind the call
            have tW:90000<=gn o.dst:=by unfold gn;split <;>omega
            have aiQ:pZ dT = .dJ u0:=by
             rw[tV dT (by unfold dT;omega),tI.dF dT aiL,bK]
            have aiR:pZ q = .dJ (.slice (some ⟨b,0,none⟩) l.length cap):=by
             rw[tV q (by omega),tI.dF q aiM,cm _ _ _ OF,aK]
            have dm:=DE.root dT _ fm
            generalize hx:aP.sl y'=x at dm
            cases dm with
            | ak=>cases hx
            | mp=>cases hx
            | gh=>cases hx
            | sl v' y'' gl cN=>
             injection hx with hx
             subst hx
             rw[aiQ]at gl
             injection gl with gl
             subst gl
             have OI:=DE.vE
             have jN:Rel dT cR (cR.gC dT [j,i,aB tc,q]):=Db OI
             have VL:aX dT [q]=false:=by simpa [aX]using fun e=>OF e
             have AX:nX af [j,i,aB tc,q] b=some [q]:=OD hl (fun l6=>by have:=l6.length_le;simp at this) VL
             have aiS:cg [q] ((jB 0 aJ).map (·.1))=false:=AL
             obtain⟨g1,g2⟩:=tI.same b (tI.af b _ AX).1 (fun k ej=>by rw[AX]at ej;injection ej with ej;subst ej;exact aiS)
             have aiT:cR b=some [q]:=g2.trans AX
             have aiU:cR.gC dT [j,i,aB tc,q] b=some [q]:=jN.fk b _ aiT VL
             have hR4:=DE.rel jN (fun b' k ej=>by
              unfold bq.gC at ej
              cases c9:cR b' with
              | none=>rw[c9]at ej;cases ej
              | some k'=>
               rw[c9]at ej
               injection ej with ej
               subst ej
               exact⟨⟨k',rfl⟩,UN (by simp) (fun e=>OI b' (by rw[c9,e]))⟩)
             refine hK _ _ ⟨_,pZ,hR4.aiH (.sl _ _ aiR ?_)⟩
             have hj:j<aB tc:=by
              have:=(List.getElem?_eq_some_iff.1 hy).1
              rwa [kM]at this
             refine RV.Hv (w':=w') (cs:=cs) (xs:=[y']) (u:=u) (us:=u) aiU (g1.trans hh) hs hn xF hi (show j+1<=aB tc from hj) OG (fun i' qJ j' x hx DG=>⟨OH i' qJ j' x hx,?_⟩) (fun n x hx=>?_)
             ·have tr:=ic i' qJ j' x hx
              have aiV:¬ (i'=i/\j'=j):=fun e=>DG ⟨e.1,by simp;omega⟩
              have VM:aX dT [j',i',aB tc,q]=false:=by simpa [aX]using fun e=>OF e
              have a1:=tr.aiF (K:=[j,i,aB tc,q]) aV (.inl ⟨fun p l6=>?_,VM⟩)
              ·have a2:=a1.iu tI (.inl (by simpa [cg]using AL))
               exact a2.rel jN (.inl VM)
              ·have e1:[j,i,aB tc,q]=[j',i',aB tc,q]:=NH l6 ⟨p,rfl⟩ rfl
               injection e1 with e1 e2
               injection e2 with e2 e3
               exact aiV ⟨e2.symm,e1.symm⟩
             ·cases n with
              | zero=>
               simp only[List.getElem?_cons_zero,Option.some.injEq]at hx
               subst hx
               refine⟨OH i hi j y hy,?_⟩
               have:=cN.gC (q:=dT) (nk:=[j,i,aB tc,q]) OI
               rw[UM,aiP]at this
               exact this
              | succ n=>simp at hx
         ·cases hk
        ·cases hk
      ·cases h
     ·cases h
    ·cases h
   ·cases h
  ·cases h
 ·cases h
theorem aiW{dst:Option Tmp}{c:lN}{args:List Operand}{k:S->Option X}(VN:∀ {X:Type} {σ:S} {k:S->Option X} {r:X},kj N σ dst c args k=some r->∃ τ,k τ=some r/\∀ (X:Type) (k:S->Option X),kj N σ dst c args k=k τ)(h:ye N σ dst c args k=some r):
  ∃ τ,k τ=some r/\∀ (X:Type) (k:S->Option X),ye N σ dst c args k=k τ:=by
 unfold ye at h
 split at h
 ·rename_i t rest
  split at h
  ·rename_i j i s q ht
   split at h
   ·rename_i tc oo qn l hm
    split at h
    ·rename_i hs
     split at h
     ·rename_i hi
      split at h
      ·rename_i y hy
       generalize hb:(Nat.ble N 20000&&Nat.ble 20000 q&&Nat.blt q 60000&&H7 ((σ.bk [q,dT] [dT] [(dT,.sl y)]).set t (.lf (.own [dT]))) c (.tmp t :: rest) q)=b at h
       cases b with
       | false=>cases h
       | true=>
        rw[cond_true]at h
        obtain⟨τ,h1,h2⟩:=VN h
        split at h1
        ·rename_i y' fm
         split at h1
         ·rename_i e OG
          exact⟨_,h1,fun X k=>by
           simp only[ye,ht,hm,hs,if_true,hi,dif_pos,hy]
           subst hs
           rw[hb,cond_true,h2]
           simp only[fm,OG]⟩
         ·cases h1
        ·cases h1
      ·cases h
     ·cases h
    ·cases h
   ·cases h
  ·cases h
 ·cases h
end
end Go.Proofs.YtinbifpbkcbnkaaGreat
namespace Go.Proofs.YtinbifpbkcbnkaaGreat
open Go.RowKit
set_option linter.unusedVariables false
def bW{α:Type}(f:(X:Type)->(α->Option X)->Option X)(y:α):Prop:=∀ (X:Type) (k:α->Option X),f X k=k y
section
variable {P:Program} {N:Nat} {σ:S} {X:Type} {r:X} {d:Nat} {m:Nat->Option aP}
theorem qa:∀ (q:List Nat) (k:V->Option X),fl m q k=some r->∃ y,k y=some r/\rL m q y/\bW (fun X k=>fl (X:=X) m q k) y
 | [],_,h=>by simp[fl]at h
 | [x],k,h=>by
  simp only[fl]at h
  split at h
  ·rename_i y hy;exact⟨y,h,.root x y hy,fun X k=>by simp only[fl,hy]⟩
  ·cases h
 | [_,_],_,h=>by simp[fl]at h
 | j :: i :: s :: q,k,h=>by
  simp only[fl]at h
  obtain⟨y,h2,hg,hd⟩:=qa q _ h
  clear h
  split at h2
  ·split at h2
   ·rename_i hs
    subst hs
    split at h2
    ·rename_i hi
     split at h2
     ·rename_i z hz
      exact⟨z,h2,.elem j i q _ _ _ _ z hg hi hz,fun X k=>by
       simp only[fl]
       exact(hd X _).trans (by simp only[if_true,dif_pos hi,hz])⟩
     ·cases h2
    ·cases h2
   ·cases h2
  ·cases h2
theorem v8{x:Lf}{k:V->Option X}(h:gB σ x k=some r):∃ y,k y=some r/\bW (fun X k=>gB (X:=X) σ x k) y:=by
 cases x with
 | v z=>exact⟨z,h,fun X k=>rfl⟩
 | own q=>obtain⟨y,h1,_,h2⟩:=qa q k h;exact⟨y,h1,h2⟩
 | dead=>cases h
theorem VO{q:List Nat}{s i j:Nat}{k:V->Option X}(h:pQ σ q s i j k=some r):∃ y,k y=some r/\bW (fun X k=>pQ (X:=X) σ q s i j k) y:=by
 obtain⟨y,h1,_,h2⟩:=qa q _ h
 split at h1
 ·rename_i z hz
  exact⟨z,h1,fun X k=>by
   simp only[pQ]
   exact(h2 X _).trans (by simp only[hz])⟩
 ·cases h1
theorem OJ{x:A}{k:V->Option X}(h:nM σ x k=some r):∃ y,k y=some r/\bW (fun X k=>nM (X:=X) σ x k) y:=by
 unfold nM at h
 split at h
 ·exact v8 h
 ·exact VO h
 ·cases h
theorem AY{x:A}{k:V->Option X}(h:vK x k=some r):∃ y,k y=some r/\bW (fun X k=>vK (X:=X) x k) y:=by
 obtain⟨y,rfl,h⟩:=Hw h
 exact⟨y,h,fun X k=>rfl⟩
theorem VP{ty:TypeId}{op:BinOp}{x y:V}{k:V->Option X}(h:kO P ty op x y k=some r):∃ z,k z=some r/\bW (fun X k=>kO (X:=X) P ty op x y k) z:=by
 unfold kO at h
 split at h
 ·rename_i kx a ky b
  split at h
  ·split at h
   ·cases h
   ·rename_i hb;exact⟨_,h,fun X k=>by simp only[kO,if_neg hb]⟩
  ·split at h
   ·cases h
   ·rename_i hb;exact⟨_,h,fun X k=>by simp only[kO,if_neg hb]⟩
  ·rename_i h1 h2
   split at h
   ·rename_i hk
    subst hk
    cases op
    case shl=>exact absurd rfl h1
    case shr=>exact absurd rfl h2
    case quo=>
     by_cases hb:b=0
     ·simp only[hb,if_true]at h;cases h
     ·simp only[hb,if_false]at h;exact⟨_,h,fun X k=>by simp only[kO,if_true,if_neg hb]⟩
    case rem=>
     by_cases hb:b=0
     ·simp only[hb,if_true]at h;cases h
     ·simp only[hb,if_false]at h;exact⟨_,h,fun X k=>by simp only[kO,if_true,if_neg hb]⟩
    all_goals first
     | (refine⟨_,h,fun X k=>?_⟩;simp only[kO,if_true];done)
     | cases h
   ·cases h
 ·split at h
  ·rename_i C6
   split at h
   ·exact⟨_,h,fun X k=>by simp only[kO,C6]⟩
   ·exact⟨_,h,fun X k=>by simp only[kO,C6]⟩
   ·cases h
  ·cases h
 ·rename_i a b
  split at h
  ·cases hL:cu (a.size+b.size)with
   | false=>rw[hL]at h;cases h
   | true=>rw[hL]at h;exact⟨_,h,fun X k=>by simp only[kO,hL,cond_true]⟩
  ·exact⟨_,h,fun X k=>by simp only[kO]⟩
  ·exact⟨_,h,fun X k=>by simp only[kO]⟩
  ·cases h
 ·cases h
theorem aiX{op:BinOp}{t:TypeId}{x y:A}{k:A->Option X}(h:jK P σ op t x y k=some r):∃ z,k z=some r/\bW (fun X k=>jK (X:=X) P σ op t x y k) z:=by
 unfold jK at h
 split at h
 ·rename_i ng cs ds eN
  split at h
  ·rename_i xs ys fJ oJ
   generalize hg:(P.eqGuardType P.depth t || !isStr P t)=g at h
   cases g with
   | true=>cases h
   | false=>
    rw[cond_false]at h
    split at h
    ·rename_i b hb
     exact⟨_,h,fun X k=>by simp only[jK,eN,fJ,oJ,hg,cond_false,hb]⟩
    ·cases h
  ·cases h
 ·rename_i ng l eN
  split at h
  ·rename_i e he
   obtain⟨z,h2,hd⟩:=v8 h
   clear h
   split at h2
   ·exact⟨_,h2,fun X k=>by
     simp only[jK,eN,he]
     exact hd X _⟩
   ·exact⟨_,h2,fun X k=>by
     simp only[jK,eN,he]
     exact hd X _⟩
   ·rename_i t' o' l'
    cases hl:xP l' with
    | true=>rw[hl]at h2;cases h2
    | false=>
     rw[hl,cond_false]at h2
     exact⟨_,h2,fun X k=>by
      simp only[jK,eN,he]
      exact(hd X _).trans (by simp only[hl,cond_false])⟩
   ·cases h2
  ·cases h
 ·rename_i x' y' _ _ _ h1 Ds
  obtain⟨u0,k1,xQ⟩:=AY h
  obtain⟨v0,k2,jr⟩:=AY k1
  obtain⟨z,k3,yg⟩:=VP k2
  refine⟨_,k3,fun X k=>?_⟩
  have e1:jK P σ op t x' y' k=vK x' fun a=>vK y' fun b=>kO P t op a b fun z=>k (.lf (.v z)):=by
   unfold jK
   split
   ·rename_i ng cs ds eN;exact(h1 ng cs ds eN rfl rfl).elim
   ·rename_i ng l eN;exact(Ds ng l eN rfl rfl).elim
   ·rfl
  exact e1.trans ((xQ _ _).trans ((jr _ _).trans (yg _ _)))
theorem VQ{op:UnOp}{x:V}{k:V->Option X}(h:AG op x k=some r):∃ z,k z=some r/\bW (fun X k=>AG (X:=X) op x k) z:=by
 unfold AG at h
 split at h
 ·exact⟨_,h,fun X k=>rfl⟩
 ·exact⟨_,h,fun X k=>rfl⟩
 ·cases h
theorem tX{t:TypeId}{cs:List Lf}{k:A->Option X}(h:jo P t cs k=some r):∃ y,k y=some r/\bW (fun X k=>jo (X:=X) P t cs k) y:=by
 unfold jo at h
 split at h
 ·rename_i n hn
  split at h
  ·rename_i hl
   split at h
   ·rename_i hr;exact⟨_,h,fun X k=>by simp only[jo,hn,if_pos hl,hr]⟩
   ·rename_i hr
    split at h
    ·exact⟨_,h,fun X k=>by simp only[jo,hn,if_pos hl,hr]⟩
    ·cases h
   ·cases h
  ·cases h
 ·cases h
theorem DH{t:TypeId}{x:A}{k:A->Option X}(h:g7 P σ t x k=some r):∃ y,k y=some r/\bW (fun X k=>g7 (X:=X) P σ t x k) y:=by
 unfold g7 at h
 split at h
 ·cases h
 ·rename_i n hn
  split at h
  ·split at h
   ·rename_i cs dn
    obtain⟨y,h1,h2⟩:=tX h
    exact⟨y,h1,fun X k=>by simp only[g7,hn,dn];exact h2 X k⟩
   ·cases h
  ·obtain⟨y,h1,h2⟩:=tX h
   exact⟨y,h1,fun X k=>by simp only[g7,hn];exact h2 X k⟩
  ·rename_i j i s q
   obtain⟨z,h2,_,hd⟩:=qa _ _ h
   clear h
   split at h2
   ·split at h2
    ·rename_i hs
     split at h2
     ·rename_i hi
      obtain⟨y,h3,h4⟩:=tX h2
      exact⟨y,h3,fun X k=>by
       simp only[g7,hn]
       exact(hd X _).trans (by simp only[if_pos hs,dif_pos hi];exact h4 X k)⟩
     ·cases h2
    ·cases h2
   ·cases h2
  ·cases h
theorem aiY{s:TypeId}{x:A}{f:Nat}{k:A->Option X}(h:qz P s x f k=some r):∃ y,k y=some r/\bW (fun X k=>qz (X:=X) P s x f k) y:=by
 unfold qz at h
 split at h
 ·cases h
 ·rename_i fd mP
  split at h
  ·rename_i n hn
   split at h
   ·exact⟨_,h,fun X k=>by simp only[qz,mP,hn]⟩
   ·exact⟨_,h,fun X k=>by simp only[qz,mP,hn]⟩
   ·exact⟨_,h,fun X k=>by simp only[qz,mP,hn]⟩
   ·cases h
  ·cases h
theorem aiZ{t:TypeId}{x i:A}{k:A->Option X}(h:mO P σ t x i k=some r):∃ y,k y=some r/\bW (fun X k=>mO (X:=X) P σ t x i k) y:=by
 unfold mO at h
 split at h
 ·cases h
 ·rename_i e he
  split at h
  ·rename_i n kk iv hn
   split at h
   ·rename_i t' g qn l
    split at h
    ·rename_i kF
     cases hg:Nat.blt g 2 with
     | false=>rw[hg]at h;cases h
     | true=>
      rw[hg,cond_true]at h
      split at h
      ·rename_i hb
       exact⟨_,h,fun X k=>by simp only[mO,he,hn,if_pos kF,hg,cond_true,dif_pos hb]⟩
      ·cases h
    ·cases h
   ·rename_i q
    obtain⟨z,h2,_,hd⟩:=qa _ _ h
    clear h
    split at h2
    ·split at h2
     ·rename_i kF
      split at h2
      ·rename_i hb
       rename_i t' g qn l _
       cases rQ:Nat.blt g 2 with
       | true=>
        rw[rQ,cond_true]at h2
        exact⟨_,h2,fun X k=>by
         simp only[mO,he,hn]
         exact(hd X _).trans (by simp only[if_pos kF,dif_pos hb,rQ,cond_true])⟩
       | false=>
        rw[rQ,cond_false]at h2
        exact⟨_,h2,fun X k=>by
         simp only[mO,he,hn]
         exact(hd X _).trans (by simp only[if_pos kF,dif_pos hb,rQ,cond_false])⟩
      ·cases h2
     ·cases h2
    ·cases h2
   ·cases h
  ·cases h
theorem ai0{t:TypeId}{x:A}{k:A->Option X}(h:kP P σ t x k=some r):∃ y,k y=some r/\bW (fun X k=>kP (X:=X) P σ t x k) y:=by
 unfold kP at h
 split at h
 ·obtain⟨z,h2,hd⟩:=v8 h
  clear h
  split at h2
  ·split at h2
   ·rename_i he
    exact⟨_,h2,fun X k=>by simp only[kP];exact(hd X _).trans (by simp only[he])⟩
   ·cases h2
  ·split at h2
   ·rename_i he
    exact⟨_,h2,fun X k=>by simp only[kP];exact(hd X _).trans (by simp only[he])⟩
   ·cases h2
  ·split at h2
   ·rename_i he
    exact⟨_,h2,fun X k=>by simp only[kP];exact(hd X _).trans (by simp only[he])⟩
   ·cases h2
  ·cases h2
 ·split at h
  ·rename_i he
   exact⟨_,h,fun X k=>by simp only[kP,he]⟩
  ·cases h
 ·cases h
theorem ai1{x:A}{i:Nat}{k:A->Option X}(h:xI x i k=some r):∃ y,k y=some r/\bW (fun X k=>xI (X:=X) x i k) y:=by
 unfold xI at h
 split at h
 ·split at h
  ·rename_i y hy;exact⟨y,h,fun X k=>by simp only[xI,hy]⟩
  ·cases h
 ·cases h
theorem ai2{t:TypeId}{parts:List (Nat×Operand)}{k:A->Option X}(h:rT P σ t parts k=some r):∃ y,k y=some r/\bW (fun X k=>rT (X:=X) P σ t parts k) y:=by
 unfold rT at h
 split at h
 ·rename_i z pl hz gA
  split at h
  ·rename_i cs dn;exact⟨_,h,fun X k=>by simp only[rT,hz,gA,dn]⟩
  ·cases h
 ·cases h
theorem ai3{s:TypeId}{x:A}{f:Nat}{k:A->Option X}(h:tE P s x f k=some r):∃ y,k y=some r/\bW (fun X k=>tE (X:=X) P s x f k) y:=by
 unfold tE at h
 split at h
 ·rename_i fd cs mP
  split at h
  ·rename_i n hn hr
   split at h
   ·rename_i hle;exact⟨_,h,fun X k=>by simp only[tE,mP,hn,hr,if_pos hle]⟩
   ·cases h
  ·rename_i n hn hr
   split at h
   ·rename_i y hy;exact⟨_,h,fun X k=>by simp only[tE,mP,hn,hr,hy]⟩
   ·cases h
  ·cases h
 ·cases h
theorem VR{mx:Bool}{x y:A}{k:A->Option X}(h:xO mx x y k=some r):∃ z,k z=some r/\bW (fun X k=>xO (X:=X) mx x y k) z:=by
 unfold xO at h
 split at h
 ·exact⟨_,h,fun X k=>rfl⟩
 ·cases h
theorem ai4{t:TypeId}{x i:A}{k:A->Option X}(h:vH P t x i k=some r):∃ z,k z=some r/\bW (fun X k=>vH (X:=X) P t x i k) z:=by
 unfold vH at h
 split at h
 ·split at h
  ·rename_i hu
   split at h
   ·rename_i hb;exact⟨_,h,fun X k=>by simp only[vH,hu,dif_pos hb]⟩
   ·cases h
  ·cases h
 ·cases h
theorem ai5{src dst:TypeId}{z:V}{k:A->Option X}(h:tG P src dst z k=some r):∃ y,k y=some r/\bW (fun X k=>tG (X:=X) P src dst z k) y:=by
 unfold tG at h
 split at h
 ·cases ht:vJ P src dst with
  | false=>rw[ht]at h;cases h
  | true=>rw[ht,cond_true]at h;exact⟨_,h,fun X k=>by simp only[tG,ht,cond_true]⟩
 ·cases ht:vJ P src dst with
  | false=>rw[ht]at h;cases h
  | true=>rw[ht,cond_true]at h;exact⟨_,h,fun X k=>by simp only[tG,ht,cond_true]⟩
 ·cases h
theorem ai6{src dst:TypeId}{x:A}{k:A->Option X}(h:l9 P σ src dst x k=some r):∃ z,k z=some r/\bW (fun X k=>l9 (X:=X) P σ src dst x k) z:=by
 unfold l9 at h
 split at h
 ·split at h
  ·rename_i d1 kd h1 h2;exact⟨_,h,fun X k=>by simp only[l9,h1,h2]⟩
  ·cases h
 ·rename_i y hy
  obtain⟨z,h2,hd⟩:=v8 h
  obtain⟨y',h3,jr⟩:=ai5 h2
  refine⟨_,h3,fun X k=>?_⟩
  have:l9 P σ src dst (.lf y) k=gB σ y fun z=>tG P src dst z k:=by
   unfold l9
   split
   ·rename_i n e;injection e with e;exact(hy _ _ e).elim
   ·rename_i e;injection e with e;subst e;rfl
   ·rename_i h' ;exact absurd rfl (h' _)
  show l9 P σ src dst (.lf y) k=k y'
  rw[this]
  exact(hd X _).trans (jr X k)
 ·cases h
end
end Go.Proofs.YtinbifpbkcbnkaaGreat
namespace Go.Proofs.YtinbifpbkcbnkaaGreat
open Go.RowKit
set_option linter.unusedVariables false
section
variable {P:Program} {N:Nat} {σ:S} {X:Type} {r:X} {d:Nat} {m:Nat->Option aP} {o:Oper}
theorem bW.at_{α:Type}{f:(X:Type)->(α->Option X)->Option X}{y:α}(h:bW f y){X:Type}(k:α->Option X):f X k=k y:=h X k
theorem so{x:aP}{y:A}{k:S->Option X}(h:gD N σ d x y k=some r):k (((σ.drop d).root d x).set d y)=some r/\bW (fun X k=>gD (X:=X) N σ d x y k) (((σ.drop d).root d x).set d y):=by
 unfold gD at h
 cases hN:Nat.blt d N with
 | false=>rw[hN]at h;cases h
 | true=>rw[hN]at h;exact⟨h,fun X k=>by simp only[gD,hN,cond_true]⟩
theorem VS{e:TypeId}{k:S->Option X}(h:pV P N σ d e k=some r):∃ x y,k (((σ.drop d).root d x).set d y)=some r/\y = .aC d 0/\(∀ (aj:S),bW (fun X k=>pV (X:=X) P N aj d e k) (((aj.drop d).root d x).set d y)):=by
 unfold pV at h
 split at h
 ·rename_i z hz
  obtain⟨h1,_⟩:=so h
  refine⟨_,_,h1,rfl,fun aj X k=>?_⟩
  obtain⟨hN,_⟩:=l8 h
  have hb:Nat.blt d N=true:=Nat.ble_eq_true_of_le hN
  simp only[pV,hz,gD,hb,cond_true]
 ·cases h
theorem OK{t:TypeId}{l c:A}{k:S->Option X}(h:xK P N σ d t l c k=some r):∃ y,k (((σ.drop d).root d (.sl y)).set d (.lf (.own [d])))=some r/\(∀ (aj:S),bW (fun X k=>xK (X:=X) P N aj d t l c k) (((aj.drop d).root d (.sl y)).set d (.lf (.own [d])))):=by
 unfold xK at h
 split at h
 ·rename_i e tc kl n kc c gE
  split at h
  ·cases h
  ·rename_i z hz
   split at h
   ·rename_i hb
    obtain⟨h1,_⟩:=so h
    refine⟨_,h1,fun aj X k=>?_⟩
    obtain⟨hN,_⟩:=l8 h
    have fU:Nat.blt d N=true:=Nat.ble_eq_true_of_le hN
    simp only[xK,gE,hz,if_pos hb,gD,fU,cond_true]
   ·cases h
 ·cases h
theorem OL{t:TypeId}{len:Nat}{parts:List (Nat×Operand)}{k:S->Option X}(h:xN P N σ d t len parts k=some r):∃ y,k (((σ.drop d).root d (.sl y)).set d (.lf (.own [d])))=some r/\
  (∀ (aj:S),(∀ p∈parts,aA aj p.2=aA σ p.2)->bW (fun X k=>xN (X:=X) P N aj d t len parts k) (((aj.drop d).root d (.sl y)).set d (.lf (.own [d])))):=by
 unfold xN at h
 split at h
 ·rename_i e tc gE
  split at h
  ·rename_i z hz
   cases hc:(Nat.beq (full tc) 0&&Nat.beq z.cells.size (aB tc)&&Nat.blt (len*aB tc) 16777217)with
   | false=>rw[hc]at h;cases h
   | true=>
    rw[hc,cond_true]at h
    split at h
    ·rename_i cs dn
     split at h
     ·rename_i vs fK
      split at h
      ·rename_i l hl
       obtain⟨h1,_⟩:=so h
       refine⟨_,h1,fun aj DI X k=>?_⟩
       obtain⟨hN,_⟩:=l8 h
       have fU:Nat.blt d N=true:=Nat.ble_eq_true_of_le hN
       have e:(parts.map fun p=>(p.1,aA aj p.2))=parts.map fun p=>(p.1,aA σ p.2):=List.map_congr_left fun p hp=>by rw[DI p hp]
       simp only[xN,gE,hz,hc,cond_true,e,dn,fK,hl,gD,fU]
      ·cases h
     ·cases h
    ·cases h
  ·cases h
 ·cases h
theorem ai7{t:TypeId}{x:A}{lo hi:Option A}{k:A->Option X}(h:nQ P σ t x lo hi k=some r):∃ y,k y=some r/\bW (fun X k=>nQ (X:=X) P σ t x lo hi k) y:=by
 unfold nQ at h
 split at h
 ·rename_i q
  unfold vO at h
  split at h
  ·rename_i e he
   split at h
   ·rename_i n hn
    obtain⟨y,h1,_,hd⟩:=qa q _ h
    obtain⟨tc,g,qn,xs,l,m,rfl,kF,e1,e2,b1,b2,b3,h3,hf⟩:=Vc h1
    refine⟨_,h3,fun X k=>?_⟩
    simp only[nQ,vO,he,hn]
    exact(hd X _).trans (hf X k)
   ·cases h
  ·cases h
 ·rename_i hx
  obtain⟨y,h1,hd,_⟩:=Vb h
  refine⟨y,h1,fun X k=>?_⟩
  simp only[nQ]
  exact hd X k
theorem ai8{t:TypeId}{x y:A}{k:S->Option X}(h:nO P N σ d t x y k=some r):∃ τ,k τ=some r/\bW (fun X k=>nO (X:=X) P N σ d t x y k) τ:=by
 unfold nO at h
 split at h
 ·rename_i e tc gE
  cases hc:(Nat.beq (full tc) 0&&(zeroOf P e).any (fun z=>Nat.beq z.cells.size (aB tc)))with
  | false=>rw[hc]at h;cases h
  | true=>
   rw[hc,cond_true]at h
   obtain⟨yv,h2,hd⟩:=OJ h
   clear h
   split at h2
   ·cases h2
   ·rename_i l2 fD
    split at h2
    ·cases hL:cu l2.length with
     | false=>rw[hL]at h2;cases h2
     | true=>
      rw[hL,cond_true]at h2
      obtain⟨h3,h4⟩:=so h2
      exact⟨_,h3,fun X k=>by
       simp only[nO,gE,hc,cond_true]
       exact(hd.at_ _).trans (by simp only[fD,hL,cond_true];exact h4 X k)⟩
    ·rename_i rr
     split at h2
     ·rename_i t' o q l hm
      split at h2
      ·rename_i fE
       cases hL:(Nat.blt d N&&(Nat.blt rr N || Nat.ble 60000 rr)&&cu (l.length+l2.length))with
       | false=>rw[hL]at h2;cases h2
       | true=>
        rw[hL,cond_true]at h2
        exact⟨_,h2,fun X k=>by
         simp only[nO,gE,hc,cond_true]
         exact(hd.at_ _).trans (by simp only[fD,hm,dif_pos fE,hL,cond_true])⟩
      ·cases h2
     ·cases h2
    ·cases h2
 ·cases h
theorem VT:∀ (q:List Nat) (y:V) (k:(Nat->Option aP)->Option X),mN m q y k=some r->∃ m',k m'=some r/\bW (fun X k=>mN (X:=X) m q y k) m'
 | [],_,_,h=>by simp[mN]at h
 | [x],y,k,h=>by
  simp only[mN]at h
  split at h
  ·rename_i y0 hy;exact⟨_,h,fun X k=>by simp only[mN,hy]⟩
  ·cases h
 | [_,_],_,_,h=>by simp[mN]at h
 | j :: i :: s :: q,y,k,h=>by
  simp only[mN]at h
  obtain⟨z,h2,_,hd⟩:=qa q _ h
  clear h
  split at h2
  ·split at h2
   ·rename_i hs
    split at h2
    ·rename_i hi
     split at h2
     ·rename_i hj
      split at h2
      ·rename_i e he
       obtain⟨m',h3,h4⟩:=VT q _ k h2
       exact⟨m',h3,fun X k=>by
        simp only[mN]
        exact(hd.at_ _).trans (by simp only[if_pos hs,dif_pos hi,if_pos hj,he];exact h4 X k)⟩
      ·cases h2
     ·cases h2
    ·cases h2
   ·cases h2
  ·cases h2
theorem VU{t:TypeId}{x y:A}{k:S->Option X}(h:lH P σ t x y k=some r):∃ τ,k τ=some r/\bW (fun X k=>lH (X:=X) P σ t x y k) τ:=by
 unfold lH at h
 split at h
 ·rename_i n xs hn fJ
  split at h
  ·rename_i hlen
   split at h
   ·rename_i r' j
    split at h
    ·rename_i cs dn
     split at h
     ·rename_i hj
      cases hl:xs.all Lf.live with
      | false=>rw[hl]at h;cases h
      | true=>rw[hl]at h;exact⟨_,h,fun X k=>by simp only[lH,hn,fJ,if_pos hlen,dn,if_pos hj,hl,cond_true]⟩
     ·cases h
    ·cases h
   ·rename_i j i s q
    split at h
    ·cases h
    ·rename_i vs fK
     obtain⟨y0,h2,hg0,hd⟩:=qa _ _ h
     clear h
     split at h2
     ·rename_i t' o' qn l
      split at h2
      ·rename_i hs
       split at h2
       ·rename_i hi
        split at h2
        ·rename_i hj
         cases hold:(((enc t' o' l[i]).drop j).take vs.length).all V.plain with
         | false=>rw[hold]at h2;cases h2
         | true=>
          rw[hold,cond_true]at h2
          split at h2
          ·rename_i e he
           obtain⟨m',h3,h4⟩:=VT q _ _ h2
           exact⟨_,h3,fun X k=>by
            simp only[lH,hn,fJ,if_pos hlen,fK]
            exact(hd.at_ _).trans (by simp only[if_pos hs,dif_pos hi,if_pos hj,hold,cond_true,he];exact h4.at_ _)⟩
          ·cases h2
        ·cases h2
       ·cases h2
      ·cases h2
     ·cases h2
   ·cases h
  ·cases h
 ·cases h
theorem DJ:∀ (xs:List Lf) (k:List V->Option X),lK σ xs k=some r->∃ vs,k vs=some r/\bW (fun X k=>lK (X:=X) σ xs k) vs
 | [],k,h=>⟨[],h,fun X k=>rfl⟩
 | x :: xs,k,h=>by
  unfold lK at h
  obtain⟨y,h2,hd⟩:=v8 h
  obtain⟨ys,h3,jr⟩:=DJ xs _ h2
  exact⟨_,h3,fun X k=>by
   simp only[lK]
   exact(hd.at_ _).trans (jr.at_ _)⟩
theorem VV{x:A}{k:Pt->Option X}(h:kR σ x k=some r):∃ p,k p=some r/\bW (fun X k=>kR (X:=X) σ x k) p:=by
 unfold kR at h
 split at h
 ·obtain⟨vs,h2,hd⟩:=DJ _ _ h;exact⟨_,h2,fun X k=>by simp only[kR];exact hd.at_ _⟩
 ·obtain⟨vs,h2,hd⟩:=DJ _ _ h;exact⟨_,h2,fun X k=>by simp only[kR];exact hd.at_ _⟩
 ·obtain⟨y,h2,hd⟩:=VO h;exact⟨_,h2,fun X k=>by simp only[kR];exact hd.at_ _⟩
 ·exact⟨_,h,fun X k=>rfl⟩
 ·cases h
theorem OM:∀ (xs:List Operand) (k:List Pt->Option X),jb σ xs k=some r->∃ ps,k ps=some r/\bW (fun X k=>jb (X:=X) σ xs k) ps
 | [],k,h=>⟨[],h,fun X k=>rfl⟩
 | x :: xs,k,h=>by
  unfold jb at h
  obtain⟨p,h2,hd⟩:=VV h
  obtain⟨ps,h3,jr⟩:=OM xs _ h2
  exact⟨_,h3,fun X k=>by
   simp only[jb]
   exact(hd.at_ _).trans (jr.at_ _)⟩
theorem ai9{x:A}{k:Pt->Option X}(h:tK σ x k=some r):∃ p,k p=some r/\bW (fun X k=>tK (X:=X) σ x k) p:=by
 unfold tK at h
 split at h
 ·exact⟨_,h,fun X k=>rfl⟩
 ·exact⟨_,h,fun X k=>rfl⟩
 ·split at h
  ·rename_i cs hm
   obtain⟨vs,h2,hd⟩:=DJ _ _ h
   split at h2
   ·exact⟨_,h2,fun X k=>by simp only[tK,hm];exact hd.at_ _⟩
   ·cases h2
  ·cases h
 ·split at h
  ·rename_i cs hm
   obtain⟨vs,h2,hd⟩:=DJ _ _ h
   split at h2
   ·exact⟨_,h2,fun X k=>by simp only[tK,hm];exact hd.at_ _⟩
   ·cases h2
  ·cases h
 ·rename_i y h1 h2 h3 h4
  obtain⟨p,h5,hd⟩:=VV h
  exact⟨p,h5,fun X k=>by
   unfold tK
   split
   ·exact absurd rfl (h1 _ _)
   ·exact absurd rfl (h2 _ _ _)
   ·exact absurd rfl (h3 _ _)
   ·exact absurd rfl (h4 _ _ _)
   ·exact hd.at_ _⟩
theorem VW:∀ (xs:List Operand) (k:List Pt->Option X),vS σ xs k=some r->∃ ps,k ps=some r/\bW (fun X k=>vS (X:=X) σ xs k) ps
 | [],k,h=>⟨[],h,fun X k=>rfl⟩
 | x :: xs,k,h=>by
  unfold vS at h
  obtain⟨p,h2,hd⟩:=ai9 h
  obtain⟨ps,h3,jr⟩:=VW xs _ h2
  exact⟨_,h3,fun X k=>by
   simp only[vS]
   exact(hd.at_ _).trans (jr.at_ _)⟩
theorem aja{f:Nat}{c:aE}{args:List Operand}{k:S->Option X}(hc:aF P f c)(h:vT N σ d c args k=some r):∃ τ,k τ=some r/\bW (fun X k=>vT (X:=X) N σ d c args k) τ:=by
 unfold vT at h
 cases hN:Nat.blt d N with
 | false=>rw[hN]at h;cases h
 | true=>
  rw[hN,cond_true]at h
  obtain⟨ps,h2,hd⟩:=VW _ _ h
  obtain⟨res,h3,jr,_⟩:=hc X ps _ r h2
  cases res with
  | one p=>
   simp only at h3
   split at h3
   ·rename_i y hy
    refine⟨_,h3,fun X k=>?_⟩
    simp only[vT,hN,cond_true]
    refine(hd.at_ _).trans ((jr X _).trans ?_)
    simp only[hy]
   ·cases h3
  | cq mQ=>
   refine⟨_,h3,fun X k=>?_⟩
   simp only[vT,hN,cond_true]
   exact(hd.at_ _).trans (jr X _)
def sq(d:Nat)(res:iL)(σ:S):Option S:=match res with
 | .one p=>match pT (p.1,jq (1000000000100000+1000*d) p.2)with
  | some y=>some ((fN (1000000000100000+1000*d) σ p.2).set d y)
  | none=>none
 | .cq ps=>some ((ir (1000000000100000+1000*d) σ ps).set d (.cq (jL (1000000000100000+1000*d) ps)))
theorem AZ{f:Nat}{c:aE}{args:List Operand}{k:S->Option X}(hc:aF P f c)(h:tL N σ d c args k=some r):∃ res τ,sq d res σ=some τ/\k τ=some r/\
  (∀ aj fL,(∀ (X:Type) (k:List Pt->Option X),jb aj args k=jb σ args k)->sq d res aj=some fL->bW (fun X k=>tL (X:=X) N aj d c args k) fL):=by
 unfold tL at h
 cases hN:Nat.blt d N with
 | false=>rw[hN]at h;cases h
 | true=>
  rw[hN,cond_true]at h
  obtain⟨ps,h2,hd⟩:=OM _ _ h
  obtain⟨res,h3,jr,_⟩:=hc X ps _ r h2
  have step:∀ aj fL,(∀ (X:Type) (k:List Pt->Option X),jb aj args k=jb σ args k)->sq d res aj=some fL->bW (fun X k=>tL (X:=X) N aj d c args k) fL:=by
   intro aj fL ha dM X k
   simp only[tL,hN,cond_true]
   rw[ha]
   refine(hd.at_ _).trans ((jr X _).trans ?_)
   unfold sq at dM
   cases res with
   | one p=>
    simp only at dM ⊢
    split at dM
    ·rename_i y hy
     injection dM with dM
     subst dM
     simp only[hy]
    ·cases dM
   | cq mQ=>
    injection dM with dM
    subst dM
    rfl
  cases res with
  | one p=>
   simp only at h3
   split at h3
   ·rename_i y hy
    exact⟨.one p,_,by simp only[sq,hy],h3,step⟩
   ·cases h3
  | cq mQ=>exact⟨.cq mQ,_,rfl,h3,step⟩
/-! Keys that do not end in certain names. -/
def dN(p:Nat->Bool)(k:List Nat):Bool:=match k.getLast? with
 | some r=>!p r
 | none=>true
def Lf.nr(p:Nat->Bool):Lf->Bool
 | .own k=>dN p k
 | _=>true
def A.nr(p:Nat->Bool):A->Bool
 | .lf x=>x.nr p
 | .agg cs=>cs.all (Lf.nr p)
 | .cq xs=>xs.all fun q=>q.2.all (Lf.nr p)
 | .ptr k=>dN p k
 | .aC r _=>!p r
 | .pk r _=>!p r
 | .view k _ _ _=>dN p k
 | .fn _ cap=>cap.all fun q=>!p q.1
 | _=>true
theorem qK{p:Nat->Bool}{k:List Nat}{n:Nat}(h:dN p k=true)(hn:p n=true):aX n k=false:=by
 unfold dN at h
 unfold aX
 split at h
 ·rename_i r hr
  rw[hr]
  have:r≠n:=by rintro rfl;simp[hn]at h
  simpa using this
 ·rename_i hr;rw[hr];rfl
theorem Lf.ko{p:Nat->Bool}{x:Lf}{n:Nat}(h:x.nr p=true)(hn:p n=true):x.drop n=x:=by
 cases x with
 | own k=>
  have e:Lf.drop n (.own k)=(bif aX n k then .dead else .own k):=rfl
  rw[e,qK h hn]
  rfl
 | v x=>rfl
 | dead=>rfl
theorem gp.ko{p:Nat->Bool}{xs:List Lf}{n:Nat}(h:xs.all (Lf.nr p)=true)(hn:p n=true):xs.map (Lf.drop n)=xs:=by
 conv=>rhs;rw[<-List.map_id xs]
 exact List.map_congr_left fun x hx=>Lf.ko (List.all_eq_true.1 h x hx) hn
theorem A.ko{p:Nat->Bool}{x:A}{n:Nat}(h:x.nr p=true)(hn:p n=true):x.drop n=x:=by
 cases x with
 | lf x=>exact congrArg A.lf (Lf.ko h hn)
 | agg cs=>exact congrArg A.agg (gp.ko h hn)
 | cq xs=>
  refine congrArg A.cq ?_
  conv=>rhs;rw[<-List.map_id xs]
  refine List.map_congr_left fun q hq=>?_
  have:=gp.ko (List.all_eq_true.1 h q hq) hn
  simp only[id]
  rw[this]
 | ptr k=>
  have e:A.drop n (.ptr k)=(bif aX n k then .undef else .ptr k):=rfl
  rw[e,qK h hn];rfl
 | view k s i j=>
  have e:A.drop n (.view k s i j)=(bif aX n k then .undef else .view k s i j):=rfl
  rw[e,qK h hn];rfl
 | pk r j=>
  have e:A.drop n (.pk r j)=(bif Nat.beq r n then .undef else .pk r j):=rfl
  have:Nat.beq r n=false:=by
   cases hb:Nat.beq r n with
   | false=>rfl
   | true=>
    obtain rfl:=Nat.eq_of_beq_eq_true hb
    have h:(!p r)=true:=h
    rw[hn]at h;cases h
  rw[e,this];rfl
 | aC r j=>
  have e:A.drop n (.aC r j)=(bif Nat.beq r n then .undef else .aC r j):=rfl
  have:Nat.beq r n=false:=by
   cases hb:Nat.beq r n with
   | false=>rfl
   | true=>
    obtain rfl:=Nat.eq_of_beq_eq_true hb
    have h:(!p r)=true:=h
    rw[hn]at h;cases h
  rw[e,this];rfl
 | fn f cap=>
  have e:A.drop n (.fn f cap)=(bif cap.any (fun p=>Nat.beq p.1 n)then .undef else .fn f cap):=rfl
  have:cap.any (fun p=>Nat.beq p.1 n)=false:=by
   rw[List.any_eq_false]
   intro q hq hb
   obtain hb:=Nat.eq_of_beq_eq_true hb
   have:=List.all_eq_true.1 h q hq
   rw[hb,hn]at this;cases this
  rw[e,this];rfl
 | _=>rfl
theorem S.ext'{σ τ:S}(h1:∀ k,σ.t k=τ.t k)(h2:∀ r,σ.m r=τ.m r):σ=τ:=by
 cases σ;cases τ
 simp only[S.mk.injEq]
 exact⟨funext h1,funext h2⟩
theorem S.set_set{e d:Nat}(h:e≠d)(v u:A):(σ.set d v).set e u=(σ.set e u).set d v:=by
 refine S.ext' (fun k=>?_) fun _=>rfl
 show bG (bG σ.t d v) e u k=bG (bG σ.t e u) d v k
 by_cases h1:k=e
 ·subst h1;rw[bK,cm _ _ _ h,bK]
 ·by_cases h2:k=d
  ·subst h2;rw[cm _ _ _ h1,bK,bK]
  ·rw[cm _ _ _ h1,cm _ _ _ h2,cm _ _ _ h2,cm _ _ _ h1]
theorem S.drop_set(n:Nat){v:A}(hv:v.drop n=v):(σ.set d v).drop n=(σ.drop n).set d v:=by
 refine S.ext' (fun k=>?_) fun _=>rfl
 show (bG σ.t d v k).drop n=bG (fun k=>(σ.t k).drop n) d v k
 by_cases h:k=d
 ·subst h;rw[bK,bK,hv]
 ·rw[cm _ _ _ h,cm _ _ _ h]
theorem DK(v:A):∀ (xs:List V) (c:Nat) (σ:S),(∀ n,c<=n->v.drop n=v)->fN c (σ.set d v) xs=(fN c σ xs).set d v
 | [],c,σ,h=>rfl
 | x :: xs,c,σ,h=>by
  simp only[fN]
  cases hf:x.ah with
  | true=>
   simp only[cond_true]
   exact DK v xs (c+1) σ (fun n hn=>h n (by omega))
  | false=>
   simp only[cond_false]
   rw[S.drop_set c (h c (Nat.le_refl _))]
   exact DK v xs (c+1) ((σ.drop c).root c (.sl x)) (fun n hn=>h n (by omega))
theorem ON(v:A):∀ (ps:List Pt) (c:Nat) (σ:S),(∀ n,c<=n->v.drop n=v)->ir c (σ.set d v) ps=(ir c σ ps).set d v
 | [],c,σ,h=>rfl
 | p :: ps,c,σ,h=>by
  simp only[ir]
  rw[DK v p.2 c σ h]
  exact ON v ps _ _ (fun n hn=>h n (by omega))
end
end Go.Proofs.YtinbifpbkcbnkaaGreat
namespace Go.Proofs.YtinbifpbkcbnkaaGreat
open Go.RowKit
set_option linter.unusedVariables false
def yh{X:Type}(N:Nat)(σ:S)(d:Nat)(x:A)(k:S->Option X):Option X:=
 match x.vD with
 | some xs=>bif xs.all Lf.live then gD N σ d (.ak (xs.map (Lf.drop d))) (.aC d 0) k else none
 | none=>none
def Ia{X:Type}(x:A)(k:A->Option X):Option X:=
 match x with
 | .aC r j=>k (.aC r j)
 | .ptr q=>k (.ptr q)
 | .gz cs=>k (.gz cs)
 | _=>none
section
variable {P:Program} {w w':World} {w0:Wd} {B N:Nat} {af ax:bq} {ρ ρ':Nat->Loc} {σ:S} {a:Act} {X:Type} {d:Nat} {r:X} {o:Oper}
theorem ajb{e:TypeId}{x:A}{k:S->Option X}(h:yh N σ d x k=some r):∃ aj,k aj=some r/\∀ af ρ a w,Rl w0 N af ρ σ a w->∀ u,RA w w0.heap.size af ρ x u->
  ∃ w' ax ρ' v,(Instr.box e u).run P w = .ok v w'/\Rl w0 N ax ρ' aj (a.put (some d) v) w':=by
 unfold yh at h
 split at h
 ·rename_i xs fJ
  cases ij:xs.all Lf.live with
  | false=>rw[ij]at h;cases h
  | true=>
   rw[ij,cond_true]at h
   obtain⟨hd,h⟩:=l8 h
   refine⟨_,h,fun af ρ a w hR u hu=>?_⟩
   obtain⟨hl,_⟩:=C9 fJ ij hu
   have aW:(Instr.box e u).run P w = .ok (.pointer (some ⟨w.heap.size,0,none⟩)) (w.alloc (.cells u.cells e)):=by
    simp[Instr.box,newVar,newRow]
   refine⟨_,bG af w.heap.size (some [d]),bG ρ d (.ak w.heap.size 0),_,aW,(hR.AK (hR.eg d (.inl hd)) (fun r hr=>cm _ _ _ hr) ?_).set ⟨w.heap.size,0,bK _ _ _,rfl⟩ hd⟩
   have h1:cX (w.alloc (.cells u.cells e)) w0.heap.size (bG af w.heap.size (some [d])) ρ xs u.cells:=
    hl.fk (by simp) (fun b hb=>⟨Below.heap_alloc w _ b hb,cm _ _ _ (by omega)⟩) (fun b k hb=>(hR.cH b k hb).2.1)
   have h2:=h1.dF (ρ':=bG ρ d (.ak w.heap.size 0)) (d:=d) (fun r hr=>cm _ _ _ hr)
   refine .ak w.heap.size 0 u.cells e _ (fun j=>u.cells.getD j undef) (bK _ _ _) (bK _ _ _) (heap_alloc_new w _) (by rw[h2.1];omega) fun j y hy=>?_
   obtain⟨v,hv,hr⟩:=h2.2 j y hy
   have hg:u.cells.getD j undef=v:=by rw[Array.getD_eq_getD_getElem?,hv];rfl
   rw[hg,Nat.zero_add]
   exact⟨hv,hr⟩
 ·cases h
theorem VX{x:A}{k:S->Option X}(h:yh N σ d x k=some r):∃ y u,k (((σ.drop d).root d y).set d u)=some r/\(∀ (aj:S),bW (fun X k=>yh (X:=X) N aj d x k) (((aj.drop d).root d y).set d u)):=by
 unfold yh at h
 split at h
 ·rename_i xs fJ
  cases ij:xs.all Lf.live with
  | false=>rw[ij]at h;cases h
  | true=>
   rw[ij,cond_true]at h
   obtain⟨h1,_⟩:=so h
   refine⟨_,_,h1,fun aj X k=>?_⟩
   obtain⟨hN,_⟩:=l8 h
   have hb:Nat.blt d N=true:=Nat.ble_eq_true_of_le hN
   simp only[yh,fJ,ij,gD,hb,cond_true]
 ·cases h
theorem VY{x:A}{k:A->Option X}(h:Ia x k=some r):k x=some r/\bW (fun X k=>Ia (X:=X) x k) x/\∀ u,RA w B af ρ x u->∃ ad,u = .pointer (some ad):=by
 unfold Ia at h
 split at h
 ·exact⟨h,fun X k=>rfl,fun u hu=>by obtain⟨b,off,_,rfl⟩:=hu;exact⟨_,rfl⟩⟩
 ·exact⟨h,fun X k=>rfl,fun u hu=>by obtain⟨ad,rfl,_⟩:=hu;exact⟨_,rfl⟩⟩
 ·exact⟨h,fun X k=>rfl,fun u hu=>by obtain⟨b,off,rfl,_⟩:=hu;exact⟨_,rfl⟩⟩
 ·cases h
end
end Go.Proofs.YtinbifpbkcbnkaaGreat
namespace Go.Proofs.YtinbifpbkcbnkaaGreat
open Go.RowKit
set_option linter.unusedVariables false
def mc(t:TypeId):Bool:=[999999,999999,999999,86,999999,91,999999,999999,999999,999999,999999,999999,999999,999999,999999,999999,999999,999999,999999,999999,999999,999999,999999,999999].any (Nat.beq t)
def v9{X:Type}(P:Program)(N:Nat)(σ:S)(d:Nat)(t:TypeId)(len:Nat)(parts:List (Nat×Operand))(k:S->Option X):Option X:=
 match tu P t with
 | some (e,tc)=>match zeroOf P e with
  | some z=>bif Nat.beq z.cells.size (aB tc)&&Nat.blt (len*aB tc) 16777217 then (match vG (fun i=>some (i*aB tc,aB tc)) (List.replicate len (z.cells.toList.map gV)).flatten (parts.map fun p=>(p.1,aA σ p.2))with
   | some cs=>bif Nat.beq len 0 then gD N σ d (.sl (.sl tc (full tc+2) true [])) (.lf (.own [d])) k else gD N σ d (.ak (cs.map (Lf.drop d))) (.pk d len) k
   | none=>none)else none
  | none=>none
 | none=>none
def tY{X:Type}(N:Nat)(σ:S)(d r ry:Nat)(tc:TC)(n:Nat)(k:S->Option X):Option X:=
 match σ.m ry,σ.m r with
 | some (.ak cs),some (.sl (.sl t' (o+2) q l))=>if h:t'=tc then (match oK r (fun j=>(j % aB tc) :: (l.length+j / aB tc) :: aB tc :: [r]) cs.length 0 cs σ with
  | some (vs,τ)=>(match Dg tc o n vs with
   | some l2=>bif Nat.blt d N&&cu (l.length+l2.length)then k (((τ.drop r).root r (.sl (.sl tc (o+2) false ((h ▸ l)++l2)))).set d (.lf (.own [r])))else none
   | none=>none)
  | none=>none)else none
 | _,_=>none
def we{X:Type}(P:Program)(N:Nat)(σ:S)(d:Nat)(t:TypeId)(x y:A)(k:S->Option X):Option X:=
 match tu P t,y with
 | some (e,tc),.pk ry n=>bif (zeroOf P e).any (fun z=>Nat.beq z.cells.size (aB tc))&&(Nat.blt d N&&Nat.blt n nL)then (match x with
  | .lf (.v .nil)=>tY N ((σ.drop d).root d (.sl (.sl tc (full tc+2) false []))) d d ry tc n k
  | .lf (.own [r])=>bif Nat.blt r N || Nat.ble 60000 r then tY N σ d r ry tc n k else none
  | _=>none)else none
 | _,_=>none
def yj{X:Type}(P:Program)(σ:S)(t:TypeId)(x y:A)(k:S->Option X):Option X:=
 match jn P t,y.vD,x with
 | some n,some xs,.ptr [j,i,s,r]=>if xs.length=n then (bif xs.all Lf.live then (match oK r (fun m=>(j+m) :: i :: s :: [r]) xs.length 0 xs σ with
  | some (vs,τ)=>(match τ.m r with
   | some (.sl (.sl t' (o+2) qn l))=>if s=aB t' then (if h:i<l.length then (if j+n<=aB t' then (match dec t' o (eH (enc t' o l[i]) j vs)with
    | some e=>k (τ.bk [r] [] [(r,.sl (.sl t' (o+2) qn (l.set i e)))])
    | none=>none)else none)else none)else none
   | _=>none)
  | none=>none)else none)else none
 | _,_,_=>none
def yl(x y:A):Bool:=match x,y.vD with
 | .ptr _,some xs=>(th xs).isNone
 | _,_=>false
section
variable {P:Program} {w w':World} {w0:Wd} {B N:Nat} {af ax:bq} {ρ ρ':Nat->Loc} {σ:S} {a:Act} {X:Type} {d:Nat} {r:X} {o:Oper}
theorem VZ{place:Nat->Option (Nat×Nat)}:∀ (parts:List (Nat×A)) (cells out:List Lf),vG place cells parts=some out->out.length=cells.length
 | [],cells,out,h=>by injection h with h;rw[h]
 | (i,x) :: rest,cells,out,h=>by
  unfold vG at h
  split at h
  ·rename_i off n xs hp hx
   split at h
   ·rename_i hc
    cases hl:xs.all Lf.live with
    | true=>
     rw[hl,cond_true]at h
     rw[VZ rest _ _ h,xC _ _ _ (by omega)]
    | false=>rw[hl]at h;cases h
   ·cases h
  ·cases h
theorem ajc{t:TypeId}{len:Nat}{parts:Array (Nat×Operand)}{k:S->Option X}(h:v9 P N σ d t len parts.toList k=some r):∃ aj,k aj=some r/\∀ af ρ a w,Rl w0 N af ρ σ a w->
  ∃ w' ax ρ' v,(Instr.buildSlice t len (parts.map fun(i,x)=>(i,a.eval x))).run P w = .ok v w'/\Rl w0 N ax ρ' aj (a.put (some d) v) w':=by
 unfold v9 at h
 split at h
 ·rename_i e tc gE
  obtain⟨eE,ht,i,hi,cT,gi⟩:=xL gE
  split at h
  ·rename_i z hz
   cases hc:(Nat.beq z.cells.size (aB tc)&&Nat.blt (len*aB tc) 16777217)with
   | false=>rw[hc]at h;cases h
   | true=>
    rw[hc,cond_true]at h
    rw[Bool.and_eq_true]at hc
    have fR:=Nat.eq_of_beq_eq_true hc.1
    have hsm:len*aB tc<16777217:=by have:=Nat.le_of_ble_eq_true hc.2;omega
    have oM:i.zero=some z:=by unfold zeroOf at hz;simpa [hi]using hz
    split at h
    ·rename_i cs dn
     have key:∀ af ρ (a:Act) w,Rl w0 N af ρ σ a w->∃ ff,(Instr.buildSlice t len (parts.map fun(i,x)=>(i,a.eval x))).run P w = .ok (.slice (some ⟨w.heap.size,0,none⟩) len len) (w.alloc (.cells ff e))/\cX w w0.heap.size af ρ cs ff/\ff.size=cs.length:=fun af ρ a w hR=>by
      have N6:cX w w0.heap.size af ρ (List.replicate len (z.cells.toList.map gV)).flatten (madeCells z.cells (len*aB tc)):=by
       have e1:(List.replicate len (z.cells.toList.map gV)).flatten=((List.replicate len z.cells.toList).flatten).map gV:=by
        rw[List.map_flatten,List.map_replicate]
       rw[e1,<-U2 z.cells (aB tc) len fR (oF tc)]
       refine⟨by simp,fun j x hx=>?_⟩
       rw[List.getElem?_map]at hx
       cases hv:(madeCells z.cells (len*aB tc)).toList[j]? with
       | none=>rw[hv]at hx;cases hx
       | some v=>
        rw[hv]at hx
        injection hx with hx
        subst hx
        exact⟨v,by simpa using hv,HB v⟩
      obtain⟨ff,tH,hl⟩:=HF (w:=w) (B:=w0.heap.size) (af:=af) (ρ:=ρ) _ _ _ (parts.toList.map fun p=>(p.1,a.eval p.2)) cs dn N6 (by simp) (fun j p q hp hq=>by
       rw[List.getElem?_map]at hp hq
       cases hx:parts.toList[j]? with
       | none=>rw[hx]at hp;cases hp
       | some x=>
        rw[hx]at hp hq
        injection hp with hp
        injection hq with hq
        subst hp hq
        exact⟨rfl,hR.aA x.2⟩)
      have aW:(Instr.buildSlice t len (parts.map fun(i,x)=>(i,a.eval x))).run P w = .ok (.slice (some ⟨w.heap.size,0,none⟩) len len) (w.alloc (.cells ff e)):=by
       have Dh:(parts.map fun(i,x)=>(i,a.eval x)).toList=parts.toList.map fun p=>(p.1,a.eval p.2):=by simp
       by_cases h0:len*aB tc=0
       ·have hm:madeCells z.cells (len*aB tc) = #[]:=by rw[h0];simp[madeCells]
        rw[hm]at tH
        have N7:len*i.size=0:=by rw[cT];exact h0
        rw[<-cT]at tH
        have e0:∀ f:Nat->Value,Array.map f (Array.range 0) = #[]:=fun f=>by simp
        simp only[Instr.buildSlice,Sem.run_bind,run_underlying eE,Result.andThen_ok,sizeOf,typeInfo]
        simp[hi,N7]
        rw[e0,tH]
        simp[newRow]
       ·exact run_buildSlice (P:=P) w t e len _ ff i z eE hi oM (by rw[cT];omega) (by rw[cT];exact h0) (by rw[cT,Dh];exact tH)
      exact⟨ff,aW,hl,hl.1⟩
     cases iI:Nat.beq len 0 with
     | true=>
      rw[iI,cond_true]at h
      have hln:=Nat.eq_of_beq_eq_true iI
      subst hln
      obtain⟨hd,h⟩:=l8 h
      refine⟨_,h,fun af ρ a w hR=>?_⟩
      obtain⟨ff,aW,hl,hcz⟩:=key af ρ a w hR
      have tW:cs.length=0:=by
       have h1:=VZ _ _ _ dn
       rw[h1]
       simp
      refine⟨_,bG af w.heap.size (some [d]),bG ρ d (.dJ (.slice (some ⟨w.heap.size,0,none⟩) 0 0)),_,aW,(hR.AK (hR.eg d (.inl hd)) (fun r hr=>cm _ _ _ hr) (.sl _ _ (bK _ _ _) ?_)).set ⟨rfl,by simp[cc,bK]⟩ hd⟩
      exact RV.own (w:=w.alloc (.cells ff e)) (B:=w0.heap.size) (af:=bG af w.heap.size (some [d])) [d] tc (full tc) true [] w.heap.size 0 ff (fun _ _=>undef)
       (bK _ _ _) (by rw[ht];exact heap_alloc_new w _) (by omega) (Nat.le_refl _) ⟨by unfold maxLen;omega,fun _=>rfl⟩ (fun i' h'=>absurd h' (by simp)) (fun i' h'=>absurd h' (by simp))
     | false=>
     rw[iI,cond_false]at h
     obtain⟨hd,h⟩:=l8 h
     refine⟨_,h,fun af ρ a w hR=>?_⟩
     obtain⟨ff,aW,hl,_⟩:=key af ρ a w hR
     refine⟨_,bG af w.heap.size (some [d]),bG ρ d (.ak w.heap.size 0),_,aW,(hR.AK (hR.eg d (.inl hd)) (fun r hr=>cm _ _ _ hr) ?_).set ⟨w.heap.size,bK _ _ _,(Ny (by have:=Nat.le_mul_of_pos_right len (oF tc);unfold nL;omega)).symm⟩ hd⟩
     have h1:cX (w.alloc (.cells ff e)) w0.heap.size (bG af w.heap.size (some [d])) ρ cs ff:=
      hl.fk (by simp) (fun b hb=>⟨Below.heap_alloc w _ b hb,cm _ _ _ (by omega)⟩) (fun b k hb=>(hR.cH b k hb).2.1)
     have h2:=h1.dF (ρ':=bG ρ d (.ak w.heap.size 0)) (d:=d) (fun r hr=>cm _ _ _ hr)
     refine .ak w.heap.size 0 ff e _ (fun j=>ff.getD j undef) (bK _ _ _) (bK _ _ _) (heap_alloc_new w _) (by rw[h2.1];omega) fun j y hy=>?_
     obtain⟨v,hv,hr⟩:=h2.2 j y hy
     have hg:ff.getD j undef=v:=by rw[Array.getD_eq_getD_getElem?,hv];rfl
     rw[hg,Nat.zero_add]
     exact⟨hv,hr⟩
    ·cases h
  ·cases h
 ·cases h
theorem V0{t:TypeId}{len:Nat}{parts:List (Nat×Operand)}{k:S->Option X}(h:v9 P N σ d t len parts k=some r):∃ y u,k (((σ.drop d).root d y).set d u)=some r/\
  (∀ (aj:S),(∀ p∈parts,aA aj p.2=aA σ p.2)->bW (fun X k=>v9 (X:=X) P N aj d t len parts k) (((aj.drop d).root d y).set d u)):=by
 unfold v9 at h
 split at h
 ·rename_i e tc gE
  split at h
  ·rename_i z hz
   cases hc:(Nat.beq z.cells.size (aB tc)&&Nat.blt (len*aB tc) 16777217)with
   | false=>rw[hc]at h;cases h
   | true=>
    rw[hc,cond_true]at h
    split at h
    ·rename_i cs dn
     cases iI:Nat.beq len 0 with
     | true=>
      rw[iI,cond_true]at h
      obtain⟨h1,_⟩:=so h
      refine⟨_,_,h1,fun aj DI X k=>?_⟩
      obtain⟨hN,_⟩:=l8 h
      have fU:Nat.blt d N=true:=Nat.ble_eq_true_of_le hN
      have e:(parts.map fun p=>(p.1,aA aj p.2))=parts.map fun p=>(p.1,aA σ p.2):=List.map_congr_left fun p hp=>by rw[DI p hp]
      simp only[v9,gE,hz,hc,cond_true,e,dn,gD,fU,iI]
     | false=>
      rw[iI,cond_false]at h
      obtain⟨h1,_⟩:=so h
      refine⟨_,_,h1,fun aj DI X k=>?_⟩
      obtain⟨hN,_⟩:=l8 h
      have fU:Nat.blt d N=true:=Nat.ble_eq_true_of_le hN
      have e:(parts.map fun p=>(p.1,aA aj p.2))=parts.map fun p=>(p.1,aA σ p.2):=List.map_congr_left fun p hp=>by rw[DI p hp]
      simp only[v9,gE,hz,hc,cond_true,e,dn,gD,fU,iI,cond_false]
    ·cases h
  ·cases h
 ·cases h
theorem V1{t e ty:TypeId}{tc:TC}{i:TypeInfo}{z:Value}{rr ry n:Nat}{k:S->Option X}(eE:P.underlying t=some (.slice e))(ht:tid tc=e)(hi:P.info? e=some i)(hz:i.zero=some z)
  (cT:i.size=aB tc) (gi:i.bytes<=65536) (fR:z.cells.size=aB tc) (h:tY N σ d rr ry tc n k=some r):∃ aj,k aj=some r/\∀ af ρ a w,Rl w0 N af ρ σ a w->w0.F rr=none->∀ u v b,ρ rr = .dJ u->ρ ry = .ak b 0->v = .slice (some ⟨b,0,none⟩) n n->
  ∃ w' ax ρ' z,(Builtin.append_ #[t,t] ty #[u,v]).run P w = .ok z w'/\Rl w0 N ax ρ' aj (a.put (some d) z) w':=by
 unfold tY at h
 split at h
 ·rename_i cs t' o q l DL hr
  split at h
  ·rename_i fE
   subst fE
   split at h
   ·rename_i vs τ ym
    split at h
    ·rename_i l2 fD
     cases hL:(Nat.blt d N&&cu (l.length+l2.length))with
     | false=>rw[hL]at h;cases h
     | true=>
      rw[hL,cond_true]at h
      rw[Bool.and_eq_true]at hL
      have vF:l.length+l2.length<1073741824:=by simpa [cu]using hL.2
      have hd:d<N:=by have:=Nat.le_of_ble_eq_true hL.1;omega
      refine⟨_,h,fun af ρ a w hR hF u v b ajd aje hv=>?_⟩
      subst hv
      have hy:=hR.root ry _ DL
      generalize he:aP.ak cs=x at hy
      cases hy with
      | sl=>cases he
      | mp=>cases he
      | gh=>cases he
      | ak b' off cells e' fz us aK c9 hh hs hc=>
       injection he with he
       subst he
       rw[aje]at aK
       injection aK with e1 e2
       subst e1 e2
       have eo:cX w w0.heap.size af ρ cs ((List.range cs.length).map us).toArray:=by
        refine⟨by simp,fun j x hx=>?_⟩
        have hj:j<cs.length:=(List.getElem?_eq_some_iff.1 hx).1
        exact⟨us j,by simp[hj],(hc j x hx).2⟩
       obtain⟨ax,aT,pS,Ib,_,ic,eW,_,_⟩:=Hz (w0:=w0) (N:=N) (fun j=>by simp[aX]) _ _ _ _ _ _ ym af ρ a w hR _ eo
       obtain⟨vL,ajf,lJ⟩:=N5 t' o n vs l2 fD
       have dg:cs.length=n*aB t':=by rw[<-pS,ajf]
       have ke:∀ j,j<cs.length->(us j).oneCell'=true:=by
        intro j hj
        have hx:=List.getElem?_eq_getElem (l:=vs) (i:=j) (by rw[pS];exact hj)
        obtain⟨u',jI,cN⟩:=Ib j _ hx
        have:u'=us j:=by simpa [hj]using jI.symm
        rw[<-this]
        exact cN.one
       have Ic:b<w.heap.size:=(Array.getElem?_eq_some_iff.1 hh).1
       have tB:Reads w w.heap.size (aB t') (some ⟨b,0,none⟩) n ((List.range cs.length).map us):=by
        refine⟨by simp[dg],fun hn=>⟨b,0,rfl,Ic,fun j v hv=>?_⟩⟩
        have hj:j<cs.length:=by have:=(List.getElem?_eq_some_iff.1 hv).1;simpa using this
        have:v=us j:=by simpa [hj]using hv.symm
        subst this
        rw[cell_of_row w b _ cells _ _ hh]
        exact(hc j _ (List.getElem?_eq_getElem hj)).1
       have fU:qB w w0.heap.size ax rr l.length t' o l2 ((List.range cs.length).map us):=by
        intro i' qJ j x hx
        have hj:j<aB t':=by have:=(List.getElem?_eq_some_iff.1 hx).1;rwa [kM]at this
        obtain⟨y,hy,hw⟩:=lJ i' qJ j x hx
        obtain⟨u',jI,cN⟩:=Ib _ _ hy
        refine⟨u',jI,?_⟩
        have e1:(0+(i'*aB t'+j)) % aB t'=j:=by rw[Nat.zero_add,Nat.add_comm,Nat.add_mul_mod_self_right,Nat.mod_eq_of_lt hj]
        have e2:(0+(i'*aB t'+j)) / aB t'=i':=by rw[Nat.zero_add,Nat.add_comm,Nat.add_mul_div_right _ _ (oF t'),Nat.div_eq_of_lt hj,Nat.zero_add]
        simp only[e1,e2]at cN
        exact cN.wk hw
       have yp:=aT.root rr _ (ic _ hr)
       generalize he:aP.sl (.sl t' (o+2) q l)=x at yp
       cases yp with
       | ak=>cases he
       | mp=>cases he
       | gh=>cases he
       | sl uu y gl cN=>
        injection he with he
        subst he
        rw[ajd]at gl
        injection gl with gl
        subst gl
        obtain⟨v',w',cR,aW,jA,gk⟩:=aT.ah4 (ty:=ty) (c:=n) hF eE ht hi hz cT gi fR cN tB (fun v hv=>by
         obtain⟨j,hj⟩:=List.mem_iff_getElem?.1 hv
         have V2:j<cs.length:=by have:=(List.getElem?_eq_some_iff.1 hj).1;simpa using this
         have:v=us j:=by simpa [V2]using hj.symm
         rw[this];exact ke j V2) vL.symm fU vF
        exact⟨w',cR,_,v',aW,jA.set ⟨gk,by simp[cc,bK]⟩ hd⟩
    ·cases h
   ·cases h
  ·cases h
 ·cases h
theorem V3{rr ry n:Nat}{tc:TC}{k:S->Option X}(h:tY N σ d rr ry tc n k=some r):∃ τ,k τ=some r/\bW (fun X k=>tY (X:=X) N σ d rr ry tc n k) τ:=by
 unfold tY at h
 split at h
 ·rename_i cs t' o q l DL hr
  split at h
  ·rename_i fE
   split at h
   ·rename_i vs τ ym
    split at h
    ·rename_i l2 fD
     cases hL:(Nat.blt d N&&cu (l.length+l2.length))with
     | false=>rw[hL]at h;cases h
     | true=>
      rw[hL,cond_true]at h
      exact⟨_,h,fun X k=>by simp only[tY,DL,hr,dif_pos fE,ym,fD,hL,cond_true]⟩
    ·cases h
   ·cases h
  ·cases h
 ·cases h
theorem ajg{t ty:TypeId}{x y:A}{k:S->Option X}(h:we P N σ d t x y k=some r):∃ aj,k aj=some r/\∀ af ρ a w,Rl w0 N af ρ σ a w->∀ u v,RA w w0.heap.size af ρ x u->RA w w0.heap.size af ρ y v->
  ∃ w' ax ρ' z,(Builtin.append_ #[t,t] ty #[u,v]).run P w = .ok z w'/\Rl w0 N ax ρ' aj (a.put (some d) z) w':=by
 unfold we at h
 split at h
 ·rename_i e tc ry n gE
  obtain⟨eE,ht,i,hi,cT,gi⟩:=xL gE
  cases hc:((zeroOf P e).any (fun z=>Nat.beq z.cells.size (aB tc))&&(Nat.blt d N&&Nat.blt n nL))with
  | false=>rw[hc]at h;cases h
  | true=>
   rw[hc,cond_true]at h
   rw[Bool.and_eq_true]at hc
   obtain⟨z,hz,fR⟩:=(Option.any_eq_true _ _).1 hc.1
   have fR:=Nat.eq_of_beq_eq_true fR
   have oM:i.zero=some z:=by unfold zeroOf at hz;simpa [hi]using hz
   have jY:=hc.2
   rw[Bool.and_eq_true]at jY
   have hd:d<N:=by have:=Nat.le_of_ble_eq_true jY.1;omega
   have dw:n<nL:=by have:=Nat.le_of_ble_eq_true jY.2;omega
   split at h
   ·obtain⟨aj,h2,hs⟩:=V1 (w0:=w0) (ty:=ty) eE ht hi oM cT gi fR h
    refine⟨aj,h2,fun af ρ a w hR u v hu hv=>?_⟩
    have hu:u = .slice none 0 0:=by cases hu.2;rfl
    subst hu
    obtain⟨b,hb,rfl⟩:=hv
    have DL:ry≠d:=by
     rintro rfl
     unfold tY at h
     split at h
     ·rename_i h1 h2
      have:(bG (σ.drop ry).m ry (some (aP.sl (.sl tc (full tc+2) false [])))) ry=_:=h1
      rw[bK]at this
      cases this
     ·cases h
    have hR0:=hR.new (d:=d) (x:=.sl (.sl tc (full tc+2) false [])) (.dJ (.slice none 0 0)) (.sl _ _ (bK _ _ _) (.cD _ _ _)) (hR.eg d (.inl hd))
    exact hs _ _ a w hR0 (hR.eg d (.inl hd)) _ _ b (bK _ _ _) ((cm _ _ _ DL).trans hb) (Ny dw)
   ·rename_i rr
    cases hL:(Nat.blt rr N || Nat.ble 60000 rr)with
    | false=>rw[hL]at h;cases h
    | true=>
     rw[hL,cond_true]at h
     rw[Bool.or_eq_true]at hL
     have ic:rr<N\/60000<=rr:=hL.imp (fun h=>by have:=Nat.le_of_ble_eq_true h;omega) (fun h=>Nat.le_of_ble_eq_true h)
     obtain⟨aj,h2,hs⟩:=V1 (w0:=w0) (ty:=ty) eE ht hi oM cT gi fR h
     refine⟨aj,h2,fun af ρ a w hR u v hu hv=>?_⟩
     obtain⟨b,hb,rfl⟩:=hv
     have aK:ρ rr = .dJ u:=by
      have h4:=hu.2
      simp only[cc]at h4
      cases hl:ρ rr with
      | ak b o=>rw[hl]at h4;cases h4
      | bZ us=>rw[hl]at h4;cases h4
      | dJ v=>rw[hl]at h4;injection h4 with h4;rw[h4]
     exact hs af ρ a w hR (hR.eg rr ic) _ _ b aK hb (Ny dw)
   ·cases h
 ·cases h
theorem ajh{t:TypeId}{x y:A}{k:S->Option X}(h:we P N σ d t x y k=some r):∃ τ,k τ=some r/\bW (fun X k=>we (X:=X) P N σ d t x y k) τ:=by
 unfold we at h
 split at h
 ·rename_i e tc ry n gE
  cases hc:((zeroOf P e).any (fun z=>Nat.beq z.cells.size (aB tc))&&(Nat.blt d N&&Nat.blt n nL))with
  | false=>rw[hc]at h;cases h
  | true=>
   rw[hc,cond_true]at h
   split at h
   ·obtain⟨τ,h1,h2⟩:=V3 h
    exact⟨τ,h1,fun X k=>by simp only[we,gE,hc,cond_true];exact h2 X k⟩
   ·rename_i rr
    cases hL:(Nat.blt rr N || Nat.ble 60000 rr)with
    | false=>rw[hL]at h;cases h
    | true=>
     rw[hL,cond_true]at h
     obtain⟨τ,h1,h2⟩:=V3 h
     exact⟨τ,h1,fun X k=>by simp only[we,gE,hc,hL,cond_true];exact h2 X k⟩
   ·cases h
 ·cases h
theorem aji{t:TypeId}{x y:A}{k:S->Option X}(h:yj P σ t x y k=some r):∃ aj,k aj=some r/\∀ af ρ a w,Rl w0 N af ρ σ a w->∀ u v,RA w w0.heap.size af ρ x u->RA w w0.heap.size af ρ y v->
  ∃ w' ax,(Instr.storeAt t u v).run P w = .ok () w'/\Rl w0 N ax ρ aj a w':=by
 unfold yj at h
 split at h
 ·rename_i n xs j i s rr hn fJ
  split at h
  ·rename_i hlen
   cases ij:xs.all Lf.live with
   | false=>rw[ij]at h;cases h
   | true=>
    rw[ij,cond_true]at h
    split at h
    ·rename_i vs τ ym
     split at h
     ·rename_i t' o' qn l dM
      split at h
      ·rename_i l6
       split at h
       ·rename_i hi
        split at h
        ·rename_i hj
         split at h
         ·rename_i e he
          refine⟨_,h,fun af ρ a w hR u v hu hv=>?_⟩
          obtain⟨ad,rfl,iF⟩:=hu
          obtain⟨hl,ke⟩:=C9 fJ ij hv
          have eo:cX w w0.heap.size af ρ xs v.cells.toList.toArray:=by simpa using hl
          obtain⟨ax,aT,pS,Ib,_,ic,eW,azD,_⟩:=Hz (w0:=w0) (N:=N) (fun m=>by simp[aX]) _ _ _ _ _ _ ym af ρ a w hR _ eo
          simp only[addrAt]at iF
          split at iF
          ·rename_i b n0 c0 aK
           split at iF
           ·rename_i c9
            injection iF with iF
            subst iF
            have yp:=aT.root rr _ dM
            generalize hx:aP.sl (.sl t' (o'+2) qn l)=x at yp
            cases yp with
            | ak=>cases hx
            | mp=>cases hx
            | gh=>cases hx
            | sl uu y gl cN=>
             injection hx with hx
             subst hx
             rw[aK]at gl
             injection gl with gl
             subst gl
             cases cN with
             | ah _ _ _ _ _ _ _ _ _ ho=>omega
             | cK=>simp at hi
             | cW=>simp at hi
             | own _ _ _ _ _ _ cap cs us Ie hh hs vB hm hc hr=>
              subst l6
              have OO:v.cells.size=n:=by rw[hl.1,hlen]
              have rN:i*aB t'+aB t'<=c0*aB t':=by
               have:(i+1)*aB t'<=c0*aB t':=Nat.mul_le_mul_right _ (by omega)
               rw[Nat.succ_mul]at this
               exact this
              have jm:i*aB t'+j+v.cells.toList.length<=cs.size:=by rw[Array.length_toList,OO,hs];omega
              have hW:=NC w b (i*aB t'+j) v.cells.toList
              obtain⟨c2,fU,jY⟩:=G1 b (tid t') v.cells.toList (i*aB t'+j) w cs hh jm
              have AB:∀ m,c2[m]?=if m<i*aB t'+j then cs[m]? else if m<i*aB t'+j+n then v.cells[m-(i*aB t'+j)]? else cs[m]?:=by
               intro m
               have e2:c2[m]?=(eH cs.toList (i*aB t'+j) v.cells.toList)[m]?:=by
                rw[show c2[m]?=c2.toList[m]? by simp,jY]
                rfl
               rw[e2,xD _ _ _ (by simpa using jm),Array.length_toList,OO]
               simp
              have NI:c2.size=cs.size:=by
               rw[<-Array.length_toList,jY]
               have:=xC cs.toList (i*aB t'+j) v.cells.toList (by simpa using jm)
               simp only[eH]at this
               rw[this]
               simp
              have Ic:b<w.heap.size:=(Array.getElem?_eq_some_iff.1 hh).1
              have hz:w.heap.size<=(w.setCells b (i*aB t'+j) v.cells.toList).heap.size:=Nat.le_of_eq hW.size.symm
              have tD:∀ b',b'<w.heap.size->ax b'≠some [rr]->(w.setCells b (i*aB t'+j) v.cells.toList).heap[b']?=w.heap[b']?:=fun b' _ aV=>hW.block b' (by rintro rfl;exact aV Ie)
              have Da:w.there b (i*aB t'+j) v.cells.size:=by
               intro m lI
               refine⟨?_,frozen_of_row w b _ cs _ hh⟩
               rw[cell_of_row w b _ cs _ _ hh]
               rw[Array.length_toList]at jm
               simp
               omega
              have fK:vs.length=n:=by rw[pS,hlen]
              refine⟨_,ax,NM w b _ t v Da (by rw[OO];exact hn) ke,aT.iu (ns:=[rr]) (cn:=[]) (dW:=ρ) (cR:=ax) ⟨hz,fun b' l5 hk=>⟨hW.block b' ?_,rfl⟩,fun _ _=>rfl,fun b' k hk=>(aT.cH b' k hk).2⟩
               ⟨hW.os,hW.tape,hW.output,hz,fun k hk hL=>hW.block k ?_⟩ (fun b' k hk=>?_) (fun r hr=>by cases hr) (fun r0 x hx=>?_)⟩
              ·rintro rfl
               have:=hk _ Ie
               simp[cg,bN]at this
              ·rintro rfl
               rcases(aT.cH k _ Ie).1 with h1 | h1
               ·exact absurd hk (Nat.not_lt.2 h1)
               ·exact h1 hL
              ·have:=aT.cH b' k hk
               exact⟨this.1,Nat.lt_of_lt_of_le this.2.1 hz,this.2.2⟩
              ·have cr:r0=rr/\x = .sl (.sl t' (o'+2) qn (l.set i e)):=by
                simp only[List.lookup]at hx
                split at hx
                ·rename_i l5
                 injection hx with hx
                 exact⟨by simpa using l5,hx.symm⟩
                ·cases hx
               obtain⟨rfl,rfl⟩:=cr
               refine .sl _ _ aK ?_
               refine RV.Hv (u:=us) (us:=fun _ m=>v.cells.getD (m-j) undef) (cs:=cs) (xs:=vs) Ie fU (NI.trans hs) vB hm hi (by rw[fK];exact hj) he (fun i' h' j' x cz C5=>?_) (fun m x cz=>?_)
               ·have qu:j'<aB t':=by have:=(List.getElem?_eq_some_iff.1 cz).1;rwa [kM]at this
                refine⟨?_,(hr i' h' j' x cz).under (n:=r0) (.inl (by simp)) hz tD (fun _ _=>rfl)⟩
                rw[AB]
                have qv:¬ (¬ i'*aB t'+j'<i*aB t'+j/\i'*aB t'+j'<i*aB t'+j+n):=by
                 rintro⟨h1,h2⟩
                 rcases Nat.lt_trichotomy i' i with bw | heq | AD
                 ·have:(i'+1)*aB t'<=i*aB t':=Nat.mul_le_mul_right _ bw
                  rw[Nat.succ_mul]at this
                  omega
                 ·subst heq
                  exact C5 ⟨rfl,by omega,by omega⟩
                 ·have:(i+1)*aB t'<=i'*aB t':=Nat.mul_le_mul_right _ AD
                  rw[Nat.succ_mul]at this
                  omega
                split
                ·exact hc i' h' j' x cz
                ·rw[if_neg (by omega)]
                 exact hc i' h' j' x cz
               ·obtain⟨v0,AP,AE⟩:=Ib m x cz
                have lI:m<n:=by rw[<-fK];exact(List.getElem?_eq_some_iff.1 cz).1
                have V4:v.cells[m]?=some v0:=by simpa using AP
                have qw:v.cells.getD (j+m-j) undef=v0:=by rw[show j+m-j=m by omega,Array.getD_eq_getD_getElem?,V4];rfl
                show c2[_]?=some (v.cells.getD (j+m-j) undef)/\RV _ _ _ _ _ (v.cells.getD (j+m-j) undef)
                rw[qw,AB,if_neg (by omega),if_pos (by omega)]
                rw[Nat.zero_add]at AE
                refine⟨?_,AE.under (n:=r0) (.inl (by simp)) hz tD (fun _ _=>rfl)⟩
                rw[show i*aB t'+(j+m)-(i*aB t'+j)=m by omega]
                exact V4
           ·cases iF
          ·cases iF
         ·cases h
        ·cases h
       ·cases h
      ·cases h
     ·cases h
    ·cases h
  ·cases h
 ·cases h
theorem ajj{t:TypeId}{x y:A}{k:S->Option X}(h:yj P σ t x y k=some r):∃ τ,k τ=some r/\bW (fun X k=>yj (X:=X) P σ t x y k) τ:=by
 unfold yj at h
 split at h
 ·rename_i n xs j i s rr hn fJ
  split at h
  ·rename_i hlen
   cases ij:xs.all Lf.live with
   | false=>rw[ij]at h;cases h
   | true=>
    rw[ij,cond_true]at h
    split at h
    ·rename_i vs τ ym
     split at h
     ·rename_i t' o' qn l dM
      split at h
      ·rename_i l6
       split at h
       ·rename_i hi
        split at h
        ·rename_i hj
         split at h
         ·rename_i e he
          exact⟨_,h,fun X k=>by simp only[yj,hn,fJ,if_pos hlen,ij,cond_true,ym,dM,if_pos l6,dif_pos hi,if_pos hj,he]⟩
         ·cases h
        ·cases h
       ·cases h
      ·cases h
     ·cases h
    ·cases h
  ·cases h
 ·cases h
end
end Go.Proofs.YtinbifpbkcbnkaaGreat
namespace Go.Proofs.YtinbifpbkcbnkaaGreat
open Go.RowKit
set_option linter.unusedVariables false
def V5(P:Program)(f:Nat)(F:List Int->Option Int):Prop:=
 ∀ (w:World) (l:List (T .u8)) (h:Int) (v:Value),F l=some h->RV w w.heap.size (fun _=>none) [] (.sl .u8 0 false l) v->Hd w (fun _=>none)->Calls P f #[v] w fun e w'=>
  ∃ b off cells t,e = .returned (.pointer (some ⟨b,off,none⟩))/\Below w.heap.size w w'/\w.heap.size<=b/\w'.heap[b]?=some (.cells cells t (0,0))/\cells[off]?=some v/\cells[off+1]?=some (.int .i64 0)/\cells[off+2]?=some (.int .i64 h)
def yu{X:Type}(N:Nat)(σ:S)(d:Nat)(F:List Int->Option Int)(x:A)(k:S->Option X):Option X:=
 match x with
 | .lf (.v (.sl .u8 0 q l))=>bif Nat.blt d N then (match F l with
  | some h=>k (((σ.drop (1000000000100000+1000*d)).root (1000000000100000+1000*d) (.ak [.v (.sl .u8 0 q l),.v (.int .i64 0),.v (.int .i64 h)])).set d (.aC (1000000000100000+1000*d) 0))
  | none=>none)else none
 | _=>none
structure yw where
 a:Nat
 j:Nat
 t:TC
 run:List Pt->Option (Nat×Nat)
def qL(bZ:Array Value)(a j:Nat):Option Value:=match bZ[a]? with
 | some (.agg us)=>us[j]?
 | some u=>bif Nat.beq j 0 then some u else none
 | none=>none
def Ig(P:Program)(f:Nat)(c:yw):Prop:=
 ∀ (args:List Pt) (p:Nat×Nat),c.run args=some p->∀ (w:World) (bZ:Array Value),vQ w args bZ->Hd w (fun _=>none)->Calls P f bZ w fun e w'=>
  ∃ A n cap,qL bZ c.a c.j=some (.slice A n cap)/\p.1<=p.2/\p.2<=n/\e = .returned (sliced A p.1 p.2 cap (aB c.t))/\Below w.heap.size w w'
def V6(σ:S)(args:List Operand)(a j:Nat):Option Lf:=match args[a]? with
 | some x=>(match aA σ x with
  | .agg cs=>cs[j]?
  | .lf l=>bif Nat.beq j 0 then some l else none
  | _=>none)
 | none=>none
def yx{X:Type}(N:Nat)(σ:S)(d:Nat)(c:yw)(args:List Operand)(k:S->Option X):Option X:=
 bif Nat.blt d N then jb σ args fun ps=>(match c.run ps with
  | some p=>(match V6 σ args c.a c.j with
   | some (.v (.sl t g _ l))=>if t=c.t then (bif Nat.blt g 2&&Nat.ble p.1 p.2&&Nat.ble p.2 l.length then k (σ.set d (.lf (.v (.sl t g false ((l.take p.2).drop p.1)))))else none)else none
   | _=>none)
  | none=>none)else none
structure qM where
 run:(X:Type)->Nat->S->List A->(S->A->Option X)->Option X
def qN(P:Program)(f:Nat)(c:qM):Prop:=
 ∀ [Inhabited Wd] (X:Type) (N:Nat) (σ:S) (xs:List A) (k:S->A->Option X) (r:X),c.run X N σ xs k=some r->∃ aj y,k aj y=some r/\(∀ (X':Type) (k':S->A->Option X'),c.run X' N σ xs k'=k' aj y)/\
  ∀ (w0:Wd) (af:bq) (ρ:Nat->Loc) (a:Act) (w:World) (bZ:Array Value),Rl w0 N af ρ σ a w->bZ.size=xs.length->(∀ i,RA w w0.heap.size af ρ ((xs[i]?).getD .undef) (bZ.getD i undef))->
   Calls P f bZ w fun e w'=>∃ v ax ρ',e = .returned v/\Rl w0 N ax ρ' aj a w'/\RA w' w0.heap.size ax ρ' y v
inductive qO where
 | p (c:aE)
 | m (c:lN)
 | n (F:List Int->Option Int)
 | v (c:yw)
 | i (c:qM)
 | d (c:lN)
 | q (c:aE)
 | c (c:lN)
def V7(P:Program)(f:Nat):qO->Prop
 | .p c=>aF P f c
 | .m c=>xV P f c
 | .n F=>V5 P f F
 | .v c=>Ig P f c
 | .i c=>qN P f c
 | .d c=>xV P f c
 | .q c=>aF P f c
 | .c c=>xV P f c
section
variable {P:Program} {w w':World} {w0:Wd} {B N:Nat} {af cR ax:bq} {ρ dW ρ':Nat->Loc} {σ:S} {a:Act} {X:Type} {d:Nat} {r:X} {ns cn:List Nat} {o:Oper}
theorem OP:∀ (xs:List Lf) (k:List V->Option X),mS σ ns xs k=some r->∃ vs,k vs=some r/\bW (fun X k=>mS (X:=X) σ ns xs k) vs
 | [],k,h=>⟨[],h,fun X k=>rfl⟩
 | x :: xs,k,h=>by
  unfold mS at h
  cases ho:HR ns x with
  | false=>rw[ho]at h;cases h
  | true=>
   rw[ho,cond_true]at h
   obtain⟨y,h2,hd⟩:=v8 h
   obtain⟨ys,h3,jr⟩:=OP xs _ h2
   exact⟨_,h3,fun X k=>by
    simp only[mS,ho,cond_true]
    exact(hd.at_ _).trans (jr.at_ _)⟩
theorem V8{x:A}{k:Pt->Option X}(h:nW σ ns x k=some r):∃ p,k p=some r/\bW (fun X k=>nW (X:=X) σ ns x k) p:=by
 unfold nW at h
 split at h
 ·rename_i y
  obtain⟨vs,h2,hd⟩:=OP _ _ h
  exact⟨_,h2,fun X k=>hd X (fun vs=>k (false,vs))⟩
 ·rename_i ys
  obtain⟨vs,h2,hd⟩:=OP _ _ h
  exact⟨_,h2,fun X k=>hd X (fun vs=>k (true,vs))⟩
 ·cases h
theorem yz:∀ (ps:List PK) (xs:List Operand) (aJ:List Mu) (k:nU ps->Option X),gO σ ns ps xs aJ k=some r->∃ x,k x=some r/\bW (fun X k=>gO (X:=X) σ ns ps xs aJ k) x
 | [],[],[],k,h=>⟨(),h,fun X k=>rfl⟩
 | .v b t :: ps,x :: xs,aJ,k,h=>by
  unfold gO at h
  obtain⟨p,h2,hd⟩:=V8 h
  cases hb:p.1==b with
  | false=>rw[hb]at h2;cases h2
  | true=>
   rw[hb,cond_true]at h2
   split at h2
   ·rename_i y hy
    obtain⟨ys,h3,jr⟩:=yz ps xs aJ _ h2
    exact⟨_,h3,fun X k=>by
     show nW σ ns (aA σ x) _=_
     refine(hd.at_ _).trans ?_
     rw[hb,cond_true,hy]
     exact jr.at_ _⟩
   ·cases h2
 | .p t g off :: ps,x :: xs,.ak r' cs vs :: aJ,k,h=>by
  unfold gO at h
  split at h
  ·rename_i y hy
   obtain⟨ys,h3,jr⟩:=yz ps xs aJ _ h
   exact⟨_,h3,fun X k=>by
    simp only[gO,hy]
    exact jr.at_ _⟩
  ·cases h
 | .s t g :: ps,x :: xs,.sl q y0 :: aJ,k,h=>by
  unfold gO at h
  split at h
  ·rename_i y hy
   obtain⟨ys,h3,jr⟩:=yz ps xs aJ _ h
   exact⟨_,h3,fun X k=>by
    simp only[gO,hy]
    exact jr.at_ _⟩
  ·cases h
 | [],[],_ :: _,k,h=>by cases h
 | [],_ :: _,_,k,h=>by cases h
 | .v _ _ :: _,[],_,k,h=>by cases h
 | .p _ _ _ :: _,[],_,k,h=>by cases h
 | .s _ _ :: _,[],_,k,h=>by cases h
 | .p _ _ _ :: _,_ :: _,[],k,h=>by cases h
 | .s _ _ :: _,_ :: _,[],k,h=>by cases h
 | .p _ _ _ :: _,_ :: _,.sl _ _ :: _,k,h=>by cases h
 | .s _ _ :: _,_ :: _,.ak _ _ _ :: _,k,h=>by cases h
theorem V9{dst:Option Tmp}{res:iL}{k:S->Option X}(h:kU N σ dst res k=some r):∃ τ,k τ=some r/\bW (fun X k=>kU (X:=X) N σ dst res k) τ:=by
 unfold kU at h
 cases dst with
 | none=>exact⟨σ,h,fun X k=>rfl⟩
 | some d=>
  have h:(bif Nat.blt d N then (match res with
   | .one p=>(match pT (p.1,jq (1000000000100000+1000*d) p.2)with
    | some y=>k ((fN (1000000000100000+1000*d) σ p.2).set d y)
    | none=>none)
   | .cq ps=>k ((ir (1000000000100000+1000*d) σ ps).set d (.cq (jL (1000000000100000+1000*d) ps))))else none)=some r:=h
  cases hN:Nat.blt d N with
  | false=>rw[hN]at h;cases h
  | true=>
   rw[hN,cond_true]at h
   cases res with
   | one p=>
    simp only at h
    split at h
    ·rename_i y hy
     exact⟨_,h,fun X k=>by simp only[kU,hN,cond_true,hy]⟩
    ·cases h
   | cq ps=>exact⟨_,h,fun X k=>by simp only[kU,hN,cond_true]⟩
theorem OQ{dst:Option Tmp}{c:lN}{args:List Operand}{k:S->Option X}(h:kj N σ dst c args k=some r):∃ τ,k τ=some r/\bW (fun X k=>kj (X:=X) N σ dst c args k) τ:=by
 unfold kj at h
 split at h
 ·rename_i aJ kV
  cases g9:(once (jB 0 aJ)&&Nat.ble aJ.length 40)with
  | false=>rw[g9]at h;cases h
  | true=>
   rw[g9,cond_true]at h
   obtain⟨x,h2,hd⟩:=yz _ _ _ _ h
   split at h2
   ·rename_i y hy
    unfold vX at h2
    generalize dx:xZ N aJ (gX (gm c.ps) y.2) (kT (gn dst) (ez c.ro y.1).len aJ (gX (gm c.ps) y.2))=ok at h2
    cases ok with
    | false=>cases h2
    | true=>
     rw[cond_true]at h2
     obtain⟨τ,h3,yg⟩:=V9 h2
     exact⟨τ,h3,fun X k=>by
      simp only[kj,kV,g9,cond_true]
      refine(hd X _).trans ?_
      simp only[hy,vX,dx,cond_true]
      exact yg.at_ _⟩
   ·cases h2
 ·cases h
theorem ajk{F:List Int->Option Int}{x:A}{k:S->Option X}(h:yu N σ d F x k=some r):∃ τ,k τ=some r/\bW (fun X k=>yu (X:=X) N σ d F x k) τ:=by
 unfold yu at h
 split at h
 ·cases hN:Nat.blt d N with
  | false=>rw[hN]at h;cases h
  | true=>
   rw[hN,cond_true]at h
   split at h
   ·rename_i z hz
    exact⟨_,h,fun X k=>by simp only[yu,hN,cond_true,hz]⟩
   ·cases h
 ·cases h
theorem ajl{f:Nat}{x:Operand}{args:Array Operand}{cO:Array TypeId}{F:List Int->Option Int}{k:S->Option X}(ho:o.op = .call { callee:=.value (.func f),args,argTypes:=cO })(hx:args.toList=[x])(hd:o.dst=some d)(he:enters P f)(hc:V5 P f F)(h:yu N σ d F (aA σ x) k=some r):
  ∃ aj,k aj=some r/\jZ P w0 N o σ aj:=by
 unfold yu at h
 split at h
 ·rename_i q l hq
  cases hN:Nat.blt d N with
  | false=>rw[hN]at h;cases h
  | true=>
   rw[hN,cond_true]at h
   have tO:d<N:=Nat.le_of_ble_eq_true hN
   split at h
   ·rename_i hz hhz
    refine⟨_,h,fun a w K Q hR hK=>?_⟩
    obtain⟨af,ρ,hR⟩:=hR
    have hv:=hR.aA x
    rw[hq]at hv
    have AP:RV w w.heap.size (fun _=>none) [] (.sl .u8 0 false l) (a.eval x):=by
     have h0:RV w w.heap.size (fun _=>none) [] (.sl .u8 0 q l) (a.eval x):=hv.2.iZ
     cases q with
     | false=>exact h0
     | true=>exact h0.wk (.q _ _ _)
    unfold Oper.wp
    rw[HN w o a f args cO ho he,Oper.upon_enter]
    have xS:(args.map a.eval) = #[a.eval x]:=by apply Array.ext';rw[Array.toList_map,hx];rfl
    rw[xS]
    refine(hc w l _ _ hhz AP (w0.on hR.below (fun _ _ h=>by cases h))).mono fun e w' tP=>?_
    obtain⟨b,off,cells,t,rfl,fM,hb,hh,tW,hc1,jY⟩:=tP
    have hB:=hR.below.size
    have dV:b<w'.heap.size:=(Array.getElem?_eq_some_iff.1 hh).1
    have nY:Rl w0 N (bG af b (some [1000000000100000+1000*d])) ρ σ a w':=by
     refine hR.grow fM (fun c OR=>cm _ _ _ (by omega)) (fun c k OR hk=>?_)
     by_cases e:c=b
     ·subst e
      rw[bK]at hk
      injection hk with hk
      subst hk
      exact⟨dV,by simp⟩
     ·rw[cm _ _ _ e]at hk
      have:=(hR.cH c k hk).2.1
      omega
    have jA:=nY.new (d:=1000000000100000+1000*d) (x:=.ak [.v (.sl .u8 0 q l),.v (.int .i64 0),.v (.int .i64 hz)]) (.ak b off) (by
     refine .ak b off cells t _ (fun j=>(#[a.eval x,.int .i64 0,.int .i64 hz]:Array Value).getD j undef) (bK _ _ _) (bK _ _ _) hh (by
      have:=(Array.getElem?_eq_some_iff.1 jY).1
      simp;omega) (fun j y hy=>?_)
     have rV:cL w' w0.heap.size (bG af b (some [1000000000100000+1000*d])) (bG ρ (1000000000100000+1000*d) (.ak b off)) (.v (.sl .u8 0 q l)) (a.eval x):=by
      refine⟨rfl,hv.2.fk fM.size (fun c OR=>⟨fM.block c OR,cm _ _ _ (by omega)⟩)⟩
     match j,hy with
     | 0,hy=>simp at hy;subst hy;exact⟨tW,rV⟩
     | 1,hy=>simp at hy;subst hy;exact⟨hc1,rfl,.int _ _ _⟩
     | 2,hy=>simp at hy;subst hy;exact⟨jY,rfl,.int _ _ _⟩
     | j+3,hy=>simp at hy) (hR.eg _ (.inr (by omega)))
    rw[hd]
    exact hK _ _ ⟨_,_,jA.set ⟨b,off,bK _ _ _,rfl⟩ tO⟩
   ·cases h
 ·cases h
theorem ajm{f:Nat}{args:Array Operand}{cO:Array TypeId}{c:yw}{k:S->Option X}(ho:o.op = .call { callee:=.value (.func f),args,argTypes:=cO })(hd:o.dst=some d)(he:enters P f)(hc:Ig P f c)(h:yx N σ d c args.toList k=some r):∃ aj,k aj=some r/\jZ P w0 N o σ aj:=by
 unfold yx at h
 cases hN:Nat.blt d N with
 | false=>rw[hN]at h;cases h
 | true=>
  rw[hN,cond_true]at h
  have tO:d<N:=by have:=Nat.le_of_ble_eq_true hN;omega
  obtain⟨ps,h2,gW⟩:=Oc (w0:=w0) (N:=N) _ _ h
  split at h2
  ·rename_i p hp
   split at h2
   ·rename_i t g q l hl
    split at h2
    ·rename_i fE
     cases hb:(Nat.blt g 2&&Nat.ble p.1 p.2&&Nat.ble p.2 l.length)with
     | false=>rw[hb]at h2;cases h2
     | true=>
      rw[hb,cond_true]at h2
      rw[Bool.and_eq_true,Bool.and_eq_true]at hb
      have hg:g<2:=by have:=Nat.le_of_ble_eq_true hb.1.1;omega
      have fX:=Nat.le_of_ble_eq_true hb.1.2
      have h2l:=Nat.le_of_ble_eq_true hb.2
      refine⟨_,h2,fun a w K Q hR hK=>?_⟩
      obtain⟨af,ρ,hR⟩:=hR
      unfold Oper.wp
      rw[HN w o a f args cO ho he,Oper.upon_enter]
      have xS:(args.map a.eval)=(args.toList.map a.eval).toArray:=by apply Array.ext';rw[Array.toList_map]
      rw[xS]
      refine(hc ps p hp w _ (gW af ρ a w hR) (w0.on hR.below (fun _ _ h=>by cases h))).mono fun e w' tP=>?_
      obtain⟨A,n,cap,e1,hle,hn,rfl,fM⟩:=tP
      have lG:RV w w0.heap.size af [] (.sl t g q l) (.slice A n cap):=by
       unfold V6 at hl
       split at hl
       ·rename_i x hx
        have hev:((args.toList.map a.eval).toArray)[c.a]?=some (a.eval x):=by
         rw[List.getElem?_toArray,List.getElem?_map,hx];rfl
        unfold qL at e1
        rw[hev]at e1
        have tZ:=hR.aA x
        split at hl
        ·rename_i cs dn
         rw[dn]at tZ
         obtain⟨us,eo,AM⟩:=tZ
         rw[eo]at e1
         obtain⟨u,hu,hr⟩:=AM.2 _ _ hl
         simp only at e1
         rw[e1]at hu
         injection hu with hu
         subst hu
         exact hr.2
        ·rename_i lf qF
         rw[qF]at tZ
         cases hj:Nat.beq c.j 0 with
         | false=>rw[hj]at hl;cases hl
         | true=>
          rw[hj]at hl e1
          injection hl with hl
          subst hl
          have tZ:cL w w0.heap.size af ρ (.v (.sl t g q l)) (a.eval x):=tZ
          have sr:∀ us,a.eval x ≠ .agg us:=by
           intro us e
           rw[e]at tZ
           cases tZ.2
          generalize a.eval x=z at e1 tZ sr
          cases z <;>first | exact absurd rfl (sr _) | (simp only[cond_true,Option.some.injEq]at e1;cases e1;exact tZ.2) | (simp only[cond_true,Option.some.injEq]at e1;cases e1)
        ·cases hl
       ·cases hl
      obtain⟨OS,vN,Oa⟩:=lG.part (a:=p.1) (h:=p.2) hg fX h2l
      subst fE
      rw[hd]
      have aT:=hR.grow fM (ax:=af) (fun _ _=>rfl) (fun b k hb hk=>absurd (hR.cH b k hk).2.1 (Nat.not_lt.2 hb))
      refine hK _ _ ⟨af,ρ,aT.set ⟨by simp[V.ah,hg],?_⟩ tO⟩
      exact OS.fk fM.size fun b hb=>⟨fM.block b hb,rfl⟩
    ·cases h2
   ·cases h2
  ·cases h2
theorem ajn{c:yw}{args:List Operand}{k:S->Option X}(h:yx N σ d c args k=some r):∃ τ,k τ=some r/\bW (fun X k=>yx (X:=X) N σ d c args k) τ:=by
 unfold yx at h
 cases hN:Nat.blt d N with
 | false=>rw[hN]at h;cases h
 | true=>
  rw[hN,cond_true]at h
  obtain⟨ps,h2,qP⟩:=OM _ _ h
  split at h2
  ·rename_i p hp
   split at h2
   ·rename_i t g q l hl
    split at h2
    ·rename_i fE
     cases hb:(Nat.blt g 2&&Nat.ble p.1 p.2&&Nat.ble p.2 l.length)with
     | false=>rw[hb]at h2;cases h2
     | true=>
      rw[hb,cond_true]at h2
      refine⟨_,h2,fun X k=>?_⟩
      simp only[yx,hN,cond_true]
      exact(qP.at_ _).trans (by simp only[hp,hl,if_pos fE,hb,cond_true])
    ·cases h2
   ·cases h2
  ·cases h2
/-! Calls of functions that are run in the state of their caller. -/
def yA{X:Type}(N:Nat)(σ:S)(dst:Option Tmp)(c:qM)(xs:List A)(k:S->Option X):Option X:=c.run X N σ xs fun aj y=>ig N aj dst y k
def ajo(p:Nat×Nat):A:=.aC p.1 p.2
def DM(σ:S):List Operand->Option (List (Nat×Nat))
 | []=>some []
 | x :: xs=>match aA σ x,DM σ xs with
  | .aC r j,some ps=>some ((r,j) :: ps)
  | _,_=>none
theorem ajp(w:World)(o:Oper)(a:Act)(f:Nat)(cl:Operand)(vs:Array Value)(args:Array Operand)(cO:Array TypeId)(ho:o.op = .call { callee:=.value cl,args,argTypes:=cO })(hv:a.eval cl = .func (.func f) #[] vs)(he:enters P f):
  (execOp a.eval o).run P w = .ok (.enter f (args.map a.eval++vs)) w:=by
 obtain⟨fn,h1,h2,h3⟩:=he
 have Ds:¬ fn.name = "runtime.NumGoroutine":=by simpa using h2
 have xR:¬ fn.body=none:=by intro e;rw[e]at h3;cases h3
 simp[execOp,ho,resolve,hv,Deferred.ofValue,invoke,callFunc,Sem.run_bind,Sem.run,program,h1,Ds,xR]
def Ih:A->Option (Nat×List A)
 | .fn f cap=>some (f,cap.map ajo)
 | .kN f cs=>some (f,[.gz cs])
 | _=>none
theorem ajq{x:A}{f:Nat}{ex:List A}{u:Value}(h:Ih x=some (f,ex))(hu:RA w B af ρ x u):∃ vs:Array Value,u = .func (.func f) #[] vs/\vs.size=ex.length/\∀ (j:Nat) y,ex[j]?=some y->RA w B af ρ y (vs.getD j undef):=by
 unfold Ih at h
 split at h
 ·rename_i f' cap
  injection h with h
  injection h with h1 h2
  subst h1 h2
  obtain⟨vs,hv,hs,fK⟩:=hu
  refine⟨vs,hv,by simp[hs],fun j y hy=>?_⟩
  rw[List.getElem?_map]at hy
  cases hp:cap[j]? with
  | none=>rw[hp]at hy;cases hy
  | some p=>
   rw[hp]at hy
   injection hy with hy
   subst hy
   obtain⟨b,off,h1,h2⟩:=fK _ p hp
   rw[Array.getD_eq_getD_getElem?,h2]
   exact⟨b,off,h1,rfl⟩
 ·injection h with h
  injection h with h1 h2
  subst h1 h2
  obtain⟨pv,e,hp⟩:=hu
  refine⟨#[pv],e,rfl,fun j y hy=>?_⟩
  rcases j with _ | j
  ·injection hy with hy
   subst hy
   exact hp
  ·cases hy
 ·cases h
theorem Wa{f:Nat}{cl:Operand}{ex:List A}{args:Array Operand}{cO:Array TypeId}{c:qM}{k:S->Option X}(ho:o.op = .call { callee:=.value cl,args,argTypes:=cO })(dg:Ih (aA σ cl)=some (f,ex))(he:enters P f)(hc:qN P f c)
  (h:yA N σ o.dst c (args.toList.map (aA σ)++ex) k=some r):∃ aj,k aj=some r/\jZ P w0 N o σ aj:=by
 unfold yA at h
 haveI:Inhabited Wd:=⟨w0⟩
 obtain⟨mb,y,hk,_,Dt⟩:=hc _ _ _ _ _ _ h
 have step:∀ a w K Q,R w0 N σ a w->(∀ v w' ax ρ',Rl w0 N ax ρ' mb a w'->RA w' w0.heap.size ax ρ' y v->K (a.put o.dst v) w')->o.wp P a w K Q:=by
  intro a w K Q hR hK
  obtain⟨af,ρ,hR⟩:=hR
  obtain⟨vs,hv,hs,fK⟩:=ajq dg (hR.aA cl)
  unfold Oper.wp
  rw[ajp w o a f cl vs args cO ho hv he,Oper.upon_enter]
  refine(Dt w0 af ρ a w _ hR (by simp[hs]) fun i=>?_).mono fun e w' tP=>?_
  ·by_cases hi:i<args.size
   ·have e1:(args.toList.map (aA σ)++ex)[i]?=some (aA σ args[i]):=by
     rw[List.getElem?_append_left (by simpa using hi),List.getElem?_map,Array.getElem?_toList,Array.getElem?_eq_getElem hi];rfl
    have e2:(args.map a.eval++vs).getD i undef=a.eval args[i]:=by
     rw[Array.getD_eq_getD_getElem?,Array.getElem?_append_left (by simpa using hi)]
     simp[hi]
    rw[e1,e2]
    exact hR.aA _
   ·have e0:(args.toList.map (aA σ)++ex)[i]?=ex[i-args.size]?:=by
     rw[List.getElem?_append_right (by simp;omega)]
     simp
    rw[e0]
    cases hp:ex[i-args.size]? with
    | none=>trivial
    | some p=>
     have e2:(args.map a.eval++vs).getD i undef=vs.getD (i-args.size) undef:=by
      rw[Array.getD_eq_getD_getElem?,Array.getElem?_append_right (by simp;omega),Array.getD_eq_getD_getElem?]
      simp
     rw[e2]
     exact fK _ p hp
  ·obtain⟨v,ax,ρ',rfl,aT,hy⟩:=tP
   exact hK v w' ax ρ' aT hy
 unfold ig at hk
 split at hk
 ·rename_i hd
  refine⟨mb,hk,fun a w K Q hR hK=>step a w K Q hR fun v w' ax ρ' aT _=>?_⟩
  rw[hd]
  exact hK _ _ ⟨ax,ρ',aT⟩
 ·rename_i d hd
  cases hN:Nat.blt d N with
  | false=>rw[hN]at hk;cases hk
  | true=>
   rw[hN,cond_true]at hk
   refine⟨_,hk,fun a w K Q hR hK=>step a w K Q hR fun v w' ax ρ' aT hy=>?_⟩
   rw[hd]
   exact hK _ _ ⟨ax,ρ',aT.set hy (by have:=Nat.le_of_ble_eq_true hN;omega)⟩
theorem Wb:∀ (xs:List Operand) (ps:List (Nat×Nat)),DM σ xs=some ps->ps.length=xs.length/\∀ af ρ a w,Rl w0 N af ρ σ a w->∀ (j:Nat) p,ps[j]?=some p->∃ b off,ρ p.1 = .ak b off/\(xs.map a.eval)[j]?=some (.pointer (some ⟨b,off+p.2,none⟩))
 | [],ps,h=>by
  simp only[DM,Option.some.injEq]at h
  subst h
  exact⟨rfl,fun _ _ _ _ _ j p hp=>by simp at hp⟩
 | x :: xs,ps,h=>by
  unfold DM at h
  split at h
  ·rename_i rr j mQ h1 h2
   injection h with h
   subst h
   obtain⟨k1,k2⟩:=Wb xs mQ h2
   refine⟨by simp[k1],fun af ρ a w hR j' p hp=>?_⟩
   cases j' with
   | zero=>
    simp only[List.getElem?_cons_zero,Option.some.injEq]at hp
    subst hp
    have hv:=hR.aA x
    rw[h1]at hv
    obtain⟨b,off,e1,e2⟩:=hv
    exact⟨b,off,e1,by simp[e2]⟩
   | succ j'=>
    obtain⟨b,off,e1,e2⟩:=k2 af ρ a w hR j' p (by simpa using hp)
    exact⟨b,off,e1,by simpa using e2⟩
  ·cases h
end
end Go.Proofs.YtinbifpbkcbnkaaGreat
namespace Go.Proofs.YtinbifpbkcbnkaaGreat
open Go.RowKit
set_option linter.unusedVariables false
def A.wg(q s n:Nat):A->A
 | .lf (.own [q'])=>bif Nat.beq q' q then .view [q] s 0 n else .lf (.own [q'])
 | x=>x
def S.wg(σ:S)(p:Nat×Nat×Nat):S:=⟨fun k=>(σ.t k).wg p.1 p.2.1 p.2.2,σ.m⟩
def OT:List (Nat×Nat×Nat)->S->S
 | [],σ=>σ
 | p :: l,σ=>OT l (σ.wg p)
def OU(c0 g:Nat):Mu->List (Nat×Nat×Nat)
 | .sl q (.sl t _ _ l)=>bif Nat.ble 1000000 g&&Nat.blt q c0 then [(q,aB t,l.length)]else []
 | _=>[]
def DN(c0:Nat):List PK->List Mu->List (Nat×Nat×Nat)
 | .v _ _ :: ps,aJ=>DN c0 ps aJ
 | .p _ _ _ :: ps,_ :: aJ=>DN c0 ps aJ
 | .s _ g :: ps,mu :: aJ=>OU c0 g mu++DN c0 ps aJ
 | _,_=>[]
def yB{X:Type}(N:Nat)(σ:S)(dst:Option Tmp)(c:lN)(args:List Operand)(k:S->Option X):Option X:=
 match iM σ c.ps args with
 | some aJ=>kj N σ dst c args fun aj=>k (OT (DN (gn dst) c.ps aJ) aj)
 | none=>none
section
variable {P:Program} {w w':World} {w0:Wd} {B N:Nat} {af cR ax:bq} {ρ dW ρ':Nat->Loc} {σ:S} {a:Act} {X:Type} {d:Nat} {r:X} {o:Oper}
theorem Rl.wg{p:Nat×Nat×Nat}{ad:Option Addr}{c:Nat}(h:Rl w0 N af ρ σ a w)(hq:ρ p.1 = .dJ (.slice ad p.2.2 c)):Rl w0 N af ρ (σ.wg p) a w:=by
 refine⟨h.below,h.cH,h.root,fun k=>?_,h.size,h.defers,h.fix,h.eg⟩
 have hk:=h.tmp k
 show RA _ _ _ _ ((σ.t k).wg p.1 p.2.1 p.2.2) _
 generalize σ.t k=x at hk
 unfold A.wg
 split
 ·rename_i q'
  cases hb:Nat.beq q' p.1 with
  | false=>exact hk
  | true=>
   obtain rfl:=Nat.eq_of_beq_eq_true hb
   have h2:=hk.2
   simp only[cc,hq]at h2
   injection h2 with h2
   refine⟨ad,p.2.2,c,by simp only[cc,hq],Nat.zero_le _,Nat.le_refl _,?_⟩
   rw[<-h2]
   cases ad <;>simp[sliced,Addr.add]
 ·exact hk
theorem Wc:∀ (l:List (Nat×Nat×Nat)) (σ:S),Rl w0 N af ρ σ a w->(∀ p∈l,∃ A c,ρ p.1 = .dJ (.slice A p.2.2 c))->Rl w0 N af ρ (OT l σ) a w
 | [],σ,h,_=>h
 | p :: l,σ,h,hl=>by
  obtain⟨A,c,hp⟩:=hl p (.head _)
  exact Wc l _ (h.wg hp) fun p hp=>hl p (.tail _ hp)
theorem ajr{c0 g:Nat}{mu:Mu}{p:Nat×Nat×Nat}(h:p∈OU c0 g mu):∃ q t o qn l,mu = .sl q (.sl t o qn l)/\p=(q,aB t,l.length)/\q<c0:=by
 unfold OU at h
 split at h
 ·rename_i q t o qn l
  cases hb:(Nat.ble 1000000 g&&Nat.blt q c0)with
  | false=>rw[hb]at h;cases h
  | true=>
   rw[hb,cond_true]at h
   rw[Bool.and_eq_true]at hb
   exact⟨q,t,o,qn,l,rfl,List.mem_singleton.1 h,Nat.le_of_ble_eq_true hb.2⟩
 ·cases h
theorem Ii{c0:Nat}{p:Nat×Nat×Nat}:∀ (ps:List PK) (aJ:List Mu),p∈DN c0 ps aJ->∃ q t o qn l,Mu.sl q (.sl t o qn l)∈aJ/\p=(q,aB t,l.length)/\q<c0
 | .v _ _ :: ps,aJ,h=>Ii ps aJ h
 | .p _ _ _ :: ps,mu :: aJ,h=>let ⟨q,t,o,qn,l,h1,h2⟩:=Ii ps aJ h;⟨q,t,o,qn,l,.tail _ h1,h2⟩
 | .s _ g :: ps,mu :: aJ,h=>by
  rcases List.mem_append.1 h with h | h
  ·obtain⟨q,t,o,qn,l,rfl,h2⟩:=ajr h
   exact⟨q,t,o,qn,l,.head _,h2⟩
  ·obtain⟨q,t,o,qn,l,h1,h2⟩:=Ii ps aJ h
   exact⟨q,t,o,qn,l,.tail _ h1,h2⟩
 | [],_,h=>by cases h
 | .p _ _ _ :: _,[],h=>by cases h
 | .s _ _ :: _,[],h=>by cases h
theorem RV.ajs{q:List Nat}{t:TC}{g:Nat}{qn:Bool}{l:List (T t)}{v:Value}(h:RV w B af q (.sl t g qn l) v):∃ A c,v = .slice A l.length c:=by
 cases h <;>exact⟨_,_,rfl⟩
theorem ajt{f:Nat}{args:Array Operand}{cO:Array TypeId}{c:lN}{k:S->Option X}(ho:o.op = .call { callee:=.value (.func f),args,argTypes:=cO })(he:enters P f)(hc:xV P f c)(h:yB N σ o.dst c args.toList k=some r):∃ aj,k aj=some r/\jZ P w0 N o σ aj:=by
 unfold yB at h
 split at h
 ·rename_i aJ kV
  obtain⟨mb,jc,cn,h1,h2,_,h4,h5⟩:=OB (w0:=w0) ho he hc h
  rw[kV]at h2
  injection h2 with h2
  subst h2
  refine⟨_,h1,fun a w K Q hR hK=>?_⟩
  obtain⟨af,ρ,hR⟩:=hR
  refine h5 a w K Q af ρ hR fun v w' cR dW pZ aT hv _ aK=>hK _ _ ⟨cR,pZ,Wc _ _ aT fun p hp=>?_⟩
  obtain⟨q,t,oo,qn,l,hm,rfl,hq⟩:=Ii _ _ hp
  have fF:=(HT _ _ _ kV _ hm).1
  have dm:=hR.root q _ fF
  generalize hz:aP.sl _=z at dm
  cases dm with
  | ak=>cases hz
  | mp=>cases hz
  | gh=>cases hz
  | sl u y fY hr=>
   injection hz with hz
   subst hz
   obtain⟨A,c,rfl⟩:=hr.ajs
   exact⟨A,c,(aK q hq).trans ((hv.dF q (h4 _ hm)).trans fY)⟩
 ·cases h
theorem aju{dst:Option Tmp}{c:lN}{args:List Operand}{k:S->Option X}(h:yB N σ dst c args k=some r):∃ τ,k τ=some r/\∀ (X:Type) (k:S->Option X),yB N σ dst c args k=k τ:=by
 unfold yB at h
 split at h
 ·rename_i aJ kV
  obtain⟨τ,h1,h2⟩:=OQ h
  exact⟨_,h1,fun X k=>by simp only[yB,kV];exact h2 X _⟩
 ·cases h
end
end Go.Proofs.YtinbifpbkcbnkaaGreat
namespace Go.Proofs.YtinbifpbkcbnkaaGreat
open Go.RowKit
set_option linter.unusedVariables false
def bq.un(af:bq)(q:Nat):bq:=fun b=>match af b with
 | some k=>bif aX q k then none else some k
 | none=>none
def wh{X:Type}(P:Program)(σ:S)(q s i j:Nat)(t:TypeId)(x:A)(k:S->Option X):Option X:=
 match σ.m q with
 | some (.sl (.sl tc (o+2) qn l))=>bif Nat.beq s (aB tc)&&Nat.beq (full tc) 0 then lH P (σ.drop q) t (x.drop q) (.lf (.v (.sl tc 0 false ((l.take j).drop i)))) k else none
 | _=>none
section
variable {P:Program} {w w':World} {w0:Wd} {B N:Nat} {af ax:bq} {ρ ρ':Nat->Loc} {σ:S} {a:Act} {X:Type} {d q:Nat} {r:X} {o:Oper}
theorem We(aV:∀ b,af b≠some []):Rel q af (af.un q):=
 ⟨aV,fun b h=>by simp[bq.un,h],fun b k h hk=>by simp[bq.un,h,hk]⟩
theorem RV.eA{tc:TC}{g:Nat}{qn:Bool}{l:List (T tc)}{A:Option Addr}{n c:Nat}(hr:RV w B af [q] (.sl tc (g+2) qn l) (.slice A n c))(hf:full tc=0):RV w B (af.un q) [] (.sl tc 0 false l) (.slice A n c)/\n=l.length:=by
 cases hr with
 | cD=>exact⟨.cD _ _ _,rfl⟩
 | cK=>exact⟨.cK _ _ _ _ _ (by omega),rfl⟩
 | cW=>exact⟨.cK _ _ _ _ _ (by omega),rfl⟩
 | ah _ _ _ _ _ _ _ _ _ ho=>omega
 | own=>
  rename_i b cs u hl hh hc hr hs hn hm
  have gA:∀ (i:Nat) (h:i<l.length) (j:Nat) (x:V),(enc tc 0 l[i])[j]?=some x->(enc tc g l[i])[j]?=some x/\x.plain=true:=by
   intro i h j x hx
   obtain⟨y,hy,rfl⟩:=s9 tc g l[i] j x hx
   have hp:=Hr tc g l[i] y (List.mem_of_getElem? hy)
   cases y with
   | sl t' o' q' l'=>
    have:=Nat.le_of_ble_eq_true (show Nat.ble (full t'+2) (full tc)=true from hp)
    omega
   | nil=>
    have:=Uy tc g l[i] _ (List.mem_of_getElem? hy)
    cases this
   | _=>exact⟨hy,rfl⟩
  refine⟨.ah _ _ _ _ _ b 0 c u (by omega) (by simp[bq.un,hl,aX]) (Array.getElem?_eq_some_iff.1 hh).1 (by omega) hn (fun i h j x hx=>?_) (fun i h j x hx=>?_),rfl⟩
  ·rw[Nat.zero_add,cell_of_row w b _ cs _ _ hh]
   exact hc i h j x (gA i h j x hx).1
  ·exact(hr i h j x (gA i h j x hx).1).xG (gA i h j x hx).2
theorem ajv{s i j:Nat}{t:TypeId}{x:A}{k:S->Option X}(h:wh P σ q s i j t x k=some r):∃ aj,k aj=some r/\∀ af ρ a w,Rl w0 N af ρ σ a w->∀ u v,RA w w0.heap.size af ρ x u->RA w w0.heap.size af ρ (.view [q] s i j) v->
  ∃ w' ax,(Instr.storeAt t u v).run P w = .ok () w'/\Rl w0 N ax ρ aj a w':=by
 unfold wh at h
 split at h
 ·rename_i tc g qn l hm
  cases hb:(Nat.beq s (aB tc)&&Nat.beq (full tc) 0)with
  | false=>rw[hb]at h;cases h
  | true=>
   rw[hb,cond_true]at h
   rw[Bool.and_eq_true]at hb
   obtain rfl:=Nat.eq_of_beq_eq_true hb.1
   have hf:=Nat.eq_of_beq_eq_true hb.2
   obtain⟨aj,h1,hs⟩:=UK (w0:=w0) (N:=N) h
   refine⟨aj,h1,fun af ρ a w hR u v hu hv=>?_⟩
   have jN:Rel q af (af.un q):=We hR.vE
   have nY:=hR.rel jN (fun b k hk=>by
    unfold bq.un at hk
    cases hl:af b with
    | none=>rw[hl]at hk;cases hk
    | some k'=>
     rw[hl]at hk
     simp only at hk
     cases hq:aX q k' with
     | true=>rw[hq]at hk;cases hk
     | false=>
      rw[hq,cond_false]at hk
      injection hk with hk
      subst hk
      exact⟨⟨_,rfl⟩,(hR.cH b k' hl).2.2⟩)
   obtain⟨A,n,c,eW,h3,h4,rfl⟩:=hv
   have dm:=hR.root q _ hm
   generalize he:aP.sl (.sl tc (g+2) qn l)=z at dm
   cases dm with
   | ak=>cases he
   | mp=>cases he
   | gh=>cases he
   | sl vq y aK hr=>
    injection he with he
    subst he
    have OV:vq = .slice A n c:=by
     simp only[cc,aK]at eW
     injection eW
    subst OV
    obtain⟨h5,h6⟩:=hr.eA hf
    have h7:=(h5.part (by omega) h3 (by omega)).1
    obtain⟨w',aW,jA⟩:=hs _ _ _ _ nY u _ (hu.rel jN) (show RA _ _ _ _ (.lf (.v _)) _ from ⟨rfl,h7⟩)
    exact⟨w',_,aW,jA⟩
 ·cases h
theorem ajw{s i j:Nat}{t:TypeId}{x:A}{k:S->Option X}(h:wh P σ q s i j t x k=some r):∃ τ,k τ=some r/\bW (fun X k=>wh (X:=X) P σ q s i j t x k) τ:=by
 unfold wh at h
 split at h
 ·rename_i tc g qn l hm
  cases hb:(Nat.beq s (aB tc)&&Nat.beq (full tc) 0)with
  | false=>rw[hb]at h;cases h
  | true=>
   rw[hb,cond_true]at h
   obtain⟨τ,h1,h2⟩:=VU h
   exact⟨τ,h1,fun X k=>by simp only[wh,hm,hb,cond_true];exact h2.at_ _⟩
 ·cases h
end
end Go.Proofs.YtinbifpbkcbnkaaGreat
namespace Go.Proofs.YtinbifpbkcbnkaaGreat
open Go.RowKit
set_option linter.unusedVariables false
def Lf.eA(q:Nat)(y:V):Lf->Lf
 | .own [r]=>bif Nat.beq r q then .v y else .own [r]
 | x=>x.drop q
def A.eA(q:Nat)(y:V):A->A
 | .lf x=>.lf (x.eA q y)
 | .agg cs=>.agg (cs.map (Lf.eA q y))
 | .cq xs=>.cq (xs.map fun p=>(p.1,p.2.map (Lf.eA q y)))
 | x=>x.drop q
def aP.eA(q:Nat)(y:V):aP->aP
 | .ak cs=>.ak (cs.map (Lf.eA q y))
 | .gh xs=>.gh (xs.map (A.eA q y))
 | x=>x.drop q
def S.eA(σ:S)(q:Nat)(y:V):S:=⟨fun k=>(σ.t k).eA q y,fun r=>bif Nat.beq r q then none else (σ.m r).map (aP.eA q y)⟩
section
variable {P:Program} {w w':World} {w0:Wd} {B N:Nat} {af ax:bq} {ρ ρ':Nat->Loc} {σ:S} {a:Act} {X:Type} {d q:Nat} {r:X} {o:Oper} {y:V}
theorem cL.eA(cr:Rel q af (af.un q))(hq:∀ u,cc w af ρ [q]=some u->RV w B (af.un q) [] y u)(hy:y.ah=true){x:Lf}{u:Value}(h:cL w B af ρ x u):cL w B (af.un q) ρ (x.eA q y) u:=by
 unfold Lf.eA
 split
 ·rename_i r
  cases hb:Nat.beq r q with
  | true=>
   obtain rfl:=Nat.eq_of_beq_eq_true hb
   exact⟨hy,hq u h.2⟩
  | false=>
   have aV:r≠q:=by rintro rfl;simp at hb
   have hl:aX q [r]=false:=by simpa [aX]using fun e=>aV e
   have h1:cL w B (af.un q) ρ (bif aX q [r]then .dead else .own [r]) u:=cL.rel cr h
   rw[hl]at h1
   exact h1
 ·exact cL.rel cr h
theorem cX.eA(cr:Rel q af (af.un q))(hq:∀ u,cc w af ρ [q]=some u->RV w B (af.un q) [] y u)(hy:y.ah=true){cs:List Lf}{us:Array Value}(h:cX w B af ρ cs us):cX w B (af.un q) ρ (cs.map (Lf.eA q y)) us:=by
 refine⟨by rw[List.length_map];exact h.1,fun j x hx=>?_⟩
 rw[List.getElem?_map]at hx
 cases hz:cs[j]? with
 | none=>rw[hz]at hx;cases hx
 | some z=>
  rw[hz]at hx
  injection hx with hx
  subst hx
  obtain⟨u,h1,h2⟩:=h.2 j z hz
  exact⟨u,h1,h2.eA cr hq hy⟩
theorem RP.eA(cr:Rel q af (af.un q))(hq:∀ u,cc w af ρ [q]=some u->RV w B (af.un q) [] y u)(hy:y.ah=true){p:Bool×List Lf}{u:Value}(h:RP w B af ρ p u):RP w B (af.un q) ρ (p.1,p.2.map (Lf.eA q y)) u:=by
 obtain⟨b,cs⟩:=p
 cases b with
 | true=>obtain⟨us,e,h⟩:=h;exact⟨us,e,cX.eA cr hq hy h⟩
 | false=>exact cX.eA cr hq hy h
theorem RA.eA(cr:Rel q af (af.un q))(hq:∀ u,cc w af ρ [q]=some u->RV w B (af.un q) [] y u)(hy:y.ah=true){x:A}{u:Value}(h:RA w B af ρ x u):RA w B (af.un q) ρ (x.eA q y) u:=by
 unfold A.eA
 split
 ·exact cL.eA cr hq hy h
 ·exact RP.eA cr hq hy (p:=(true,_)) h
 ·rename_i xs
  obtain⟨us,rfl,h1,h2⟩:=h
  refine⟨us,rfl,by rw[List.length_map];exact h1,fun j p hp=>?_⟩
  rw[List.getElem?_map]at hp
  cases hz:xs[j]? with
  | none=>rw[hz]at hp;cases hp
  | some z=>
   rw[hz]at hp
   injection hp with hp
   subst hp
   obtain⟨v,h3,h4⟩:=h2 j z hz
   exact⟨v,h3,h4.eA cr hq hy⟩
 ·exact RA.rel cr h
theorem dK.eA(cr:Rel q af (af.un q))(hq:∀ u,cc w af ρ [q]=some u->RV w B (af.un q) [] y u)(hy:y.ah=true){r:Nat}(hr:r≠q){x:aP}(h:dK w B af ρ r x):dK w B (af.un q) ρ r (x.eA q y):=by
 have qA:aX q [r]=false:=by simpa [aX]using fun e=>hr e
 unfold aP.eA
 split
 ·cases h with
  | ak b off cells e cs us fY hl hh hs hc=>
   refine .ak b off cells e _ us fY (cr.fk _ _ hl qA) hh (by rw[List.length_map];exact hs) (fun j x hx=>?_)
   rw[List.getElem?_map]at hx
   rename_i cs
   cases hz:cs[j]? with
   | none=>rw[hz]at hx;cases hx
   | some z=>
    rw[hz]at hx
    injection hx with hx
    subst hx
    exact⟨(hc j z hz).1,(hc j z hz).2.eA cr hq hy⟩
 ·cases h with
  | gh us xs fY hx=>
   refine .gh us _ fY fun j x hj=>?_
   rw[List.getElem?_map]at hj
   rename_i xs
   cases hz:xs[j]? with
   | none=>rw[hz]at hj;cases hj
   | some z=>
    rw[hz]at hj
    injection hj with hj
    subst hj
    exact RA.eA cr hq hy (hx j z hz)
 ·exact dK.rel cr hr h
theorem R.eA{tc:TC}{g:Nat}{qn:Bool}{l:List (T tc)}(hf:full tc=0)(hm:σ.m q=some (.sl (.sl tc (g+2) qn l)))(h:R w0 N σ a w):R w0 N (σ.eA q (.sl tc 0 false l)) a w:=by
 obtain⟨af,ρ,hR⟩:=h
 have jN:Rel q af (af.un q):=We hR.vE
 have hq:∀ u,cc w af ρ [q]=some u->RV w w0.heap.size (af.un q) [] (.sl tc 0 false l) u:=by
  intro u hu
  have dm:=hR.root q _ hm
  generalize he:aP.sl (.sl tc (g+2) qn l)=z at dm
  cases dm with
  | ak=>cases he
  | mp=>cases he
  | gh=>cases he
  | sl vq y aK hr=>
   injection he with he
   subst he
   have OV:vq=u:=by
    simp only[cc,aK]at hu
    injection hu
   subst OV
   have hs:=hr.Hs (by simp[V.ah])
   cases vq with
   | slice A n c=>exact(hr.eA hf).1
   | _=>cases hs
 refine⟨af.un q,ρ,hR.below,fun b k hk=>?_,fun r x hx=>?_,fun k=>RA.eA jN hq rfl (hR.tmp k),hR.size,hR.defers,hR.fix,hR.eg⟩
 ·unfold bq.un at hk
  cases hl:af b with
  | none=>rw[hl]at hk;cases hk
  | some k'=>
   rw[hl]at hk
   simp only at hk
   cases hq:aX q k' with
   | true=>rw[hq]at hk;cases hk
   | false=>
    rw[hq,cond_false]at hk
    injection hk with hk
    subst hk
    exact hR.cH b k' hl
 ·have hx:(bif Nat.beq r q then none else (σ.m r).map (aP.eA q (.sl tc 0 false l)))=some x:=hx
  cases hb:Nat.beq r q with
  | true=>rw[hb]at hx;cases hx
  | false=>
   have hrq:r≠q:=by rintro rfl;simp at hb
   rw[hb,cond_false]at hx
   cases su:σ.m r with
   | none=>rw[su]at hx;cases hx
   | some y=>
    rw[su]at hx
    injection hx with hx
    subst hx
    exact dK.eA jN hq rfl hrq (hR.root r y su)
def A0(σ:S)(x:A):S:=match x with
 | .lf (.own [q])=>(match σ.m q with
  | some (.sl (.sl .str (_+2) _ l))=>σ.eA q (.sl .str 0 false l)
  | _=>σ)
 | _=>σ
theorem R.A0{x:A}(h:R w0 N σ a w):R w0 N (Proofs.YtinbifpbkcbnkaaGreat.A0 σ x) a w:=by
 unfold Proofs.YtinbifpbkcbnkaaGreat.A0
 split
 ·rename_i q
  split
  ·rename_i g qn l hm
   exact R.eA rfl hm h
  ·exact h
 ·exact h
end
end Go.Proofs.YtinbifpbkcbnkaaGreat
namespace Go.Proofs.YtinbifpbkcbnkaaGreat
open Go.RowKit
set_option linter.unusedVariables false
section
variable {P:Program} (w:World)
theorem ajx(base:Nat)(t u ty e:TypeId)(i:TypeInfo)(ht:P.underlying t=some (.slice e))(hu:P.underlying u=some .string)(hi:P.info? e=some i)(hz:i.zero=some (.int .u8 0))
  (Cu:i.size=1) (gi:i.bytes=1)
  (v:Value) (n:Nat) (xs:List Value) (gT:w.ownsRow base e 1 v n xs) (s:ByteArray)
  (xz:n+s.size<=maxLen) (Cv:n+s.size<=140737488355328) (Mo:base<=w.heap.size):
  ∃ v' w',(Builtin.append_ #[t,u] ty #[v,.string s]).run P w = .ok v' w'/\w'.ownsRow base e 1 v' (n+s.size) (xs++Lib.strCells s)/\w.grownBy w' v.ownBlock/\
   (v'.ownBlock=v.ownBlock\/v'.ownBlock=some w.heap.size):=by
 obtain⟨v',w',aW,h2,h3,h4⟩:=Lib.run_append_own_string (P:=P) w base t u ty e i ht hu hi hz Cu gi v n xs gT s xz Cv Mo
 refine⟨v',w',aW,h2,h3,?_⟩
 have azE:n+s.size<=9223372036854775807:=by simp only[maxLen]at xz;omega
 have hxl:xs.length=n:=by simpa using gT.1
 rcases gT.2 with ⟨rfl,rfl⟩ | ⟨g,cap,cur,rfl,hbg,hg,kF,VN,dn,azF⟩
 ·by_cases hm:s.size=0
  ·exact .inl (by rw[h4.2 ⟨rfl,hm⟩])
  ·have hr:=run_append_nil_string (P:=P) w t u ty e i (.int .u8 0) ht hu hi hz s (by omega) (by omega) (by rw[gi];omega)
   rw[aW]at hr
   injection hr with hr
   subst hr
   exact .inr rfl
 ·by_cases ajy:n+s.size<=cap
  ·have azG:cur.size=cap:=by simpa using dn
   have hr:=Lib.run_append_room_string (P:=P) w t u ty e i ht hu hi Cu g n cap cur hg s ajy (by omega)
   rw[aW]at hr
   injection hr with hr
   subst hr
   exact .inl rfl
  ·have holds:∀ j u,xs[j]?=some u->w.cell? ((⟨g,0,none⟩:Addr).add j)=some u:=gT.cells (g:=g) rfl
   have hr:=Lib.run_append_grow_string (P:=P) w t u ty e i (.int .u8 0) ht hu hi hz ⟨g,0,none⟩ n cap xs (by rw[Cu];simpa using hxl) holds s (by omega) (by omega) (by rw[gi];exact growslice_fits (by omega) (by omega))
   rw[aW]at hr
   injection hr with hr
   subst hr
   exact .inr rfl
end
def uc(s:ByteArray):List Int:=s.data.toList.map fun b=>(b.toNat:Int)
theorem ajz(s:ByteArray):(uc s).length=s.size:=by
 rw[uc,List.length_map,Array.length_toList];rfl
theorem ajA(s:ByteArray):tA .u8 (uc s) (Lib.strCells s):=by
 intro i hi o j x hx
 have qJ:i<(uc s).length:=hi
 rcases j with _ | j
 ·have hx:x = .int .u8 (uc s)[i]:=by cases hx;rfl
  subst hx
  refine⟨.int .u8 (uc s)[i],?_,rfl,fun w' B' ax q'=>.int _ _ _⟩
  have hs:i<s.data.toList.length:=by rw[uc,List.length_map]at qJ;exact qJ
  show (Lib.strCells s)[i*1+0]?=_
  rw[Nat.mul_one,Nat.add_zero,Lib.strCells,List.getElem?_map,List.getElem?_eq_getElem hs]
  simp[uc]
 ·cases hx
def nZ(s:ByteArray):List (T .u8):=uc s
theorem OW(s:ByteArray):(nZ s).length=s.size:=ajz s
theorem ajB(s:ByteArray):tA .u8 (nZ s) (Lib.strCells s):=ajA s
section
variable {P:Program} {w w':World} {w0:Wd} {B N:Nat} {af ax:bq} {ρ ρ':Nat->Loc} {σ:S} {a:Act} {X:Type} {d:Nat} {r:X}
theorem Rl.Wf{t ut e ty:TypeId}{i:TypeInfo}{rr o:Nat}{q:Bool}{l:List (T .u8)}{u:Value}{s:ByteArray}(h:Rl w0 N af ρ σ a w)(hF:w0.F rr=none)(eE:P.underlying t=some (.slice e))(eo:P.underlying ut=some .string)(ht:tid .u8=e)(hi:P.info? e=some i)(hz:i.zero=some (.int .u8 0))
  (cT:i.size=1) (gi:i.bytes=1) (hd:RV w w0.heap.size af [rr] (.sl .u8 (o+2) q l) u) (hlen:l.length+s.size<1073741824):
  ∃ v' w' ax,(Builtin.append_ #[t,ut] ty #[u,.string s]).run P w = .ok v' w'/\Rl w0 N ax (bG ρ rr (.dJ v')) ((σ.drop rr).root rr (.sl (.sl .u8 (o+2) false (l++nZ s)))) a w'/\jV v'=true:=by
 subst ht
 obtain⟨xs,gT,nP,AL,lJ⟩:=hd.NZ rfl (B':=0) (fun b _=>Nat.zero_le b)
 have xM:=ajB s
 have fD:=OW s
 obtain⟨v',w',aW,jJ,iJ,dV⟩:=ajx (P:=P) w 0 t ut ty (tid .u8) i eE eo hi hz cT gi u l.length xs gT s (by unfold maxLen;omega) (by omega) (Nat.zero_le _)
 have tC:(l++nZ s).length=l.length+s.size:=by rw[List.length_append,fD]
 rw[<-tC]at jJ
 have rS:=lJ.append xM gT.1
 have gk:jV v'=true:=by rcases jJ.2 with ⟨rfl,_⟩ | ⟨_,_,_,rfl,_⟩ <;>rfl
 have kg:Below 0 w w':=(Below.refl 0 w).grown iJ (Nat.zero_le _) (fun _ _=>Nat.zero_le _)
 have fM:iE w0 w w':=⟨kg.os,kg.tape,kg.output,kg.size,fun k hk hL=>iJ.block k (Nat.lt_of_lt_of_le hk h.below.size) (fun e'=>by
  rcases(h.cH k _ (nP k e'.symm)).1 with h1 | h1
  ·exact absurd hk (Nat.not_lt.2 h1)
  ·exact h1 hL)⟩
 by_cases kQ:v'.ownBlock=some w.heap.size
 ·have bw:w.heap.size<w'.heap.size:=by
   rcases jJ.2 with ⟨rfl,_⟩ | ⟨b,cap,cs,rfl,_,hh,_⟩
   ·cases kQ
   ·have:b=w.heap.size:=by simpa [Value.ownBlock]using kQ
    subst this
    exact(Array.getElem?_eq_some_iff.1 hh).1
  refine⟨v',w',bG af w.heap.size (some [rr]),aW,h.tq hF fM ⟨iJ.size,fun b hb aV=>iJ.block b hb (fun e'=>aV (nP b e'.symm)),fun b hb=>cm _ _ _ (by omega),fun b hb=>(h.cH b [] hb).2.2 rfl⟩ (fun b k hb hk=>?_) (fun r hr=>cm _ _ _ hr) (.sl v' _ (bK _ _ _) (De jJ rS (fun b hb=>?_))),gk⟩
  ·by_cases e:b=w.heap.size
   ·subst e
    rw[bK]at hk
    injection hk with hk
    subst hk
    exact⟨bw,by simp⟩
   ·rw[cm _ _ _ e]at hk
    have:=(h.cH b k hk).2.1
    omega
  ·rw[kQ]at hb
   injection hb with hb
   subst hb
   exact bK _ _ _
 ·have Df:v'.ownBlock=u.ownBlock:=by
   rcases dV with dV | dV
   ·exact dV
   ·exact absurd dV kQ
  refine⟨v',w',af,aW,h.tq hF fM ⟨iJ.size,fun b hb aV=>iJ.block b hb (fun e'=>aV (nP b e'.symm)),fun _ _=>rfl,fun b hb=>(h.cH b [] hb).2.2 rfl⟩ (fun b k hb hk=>?_) (fun r hr=>cm _ _ _ hr) (.sl v' _ (bK _ _ _) (De jJ rS (fun b hb=>nP b (by rw[<-Df];exact hb)))),gk⟩
  have:=(h.cH b k hk).2.1
  omega
def DO(P:Program)(t ut:TypeId):Bool:=
 (match tu P t with
 | some (e,.u8)=>(match P.info? e with
  | some i=>Nat.beq i.size 1&&Nat.beq i.bytes 1&&(match i.zero with
   | some (.int .u8 0)=>true
   | _=>false)
  | none=>false)
 | _=>false)&&(match P.underlying ut with
 | some .string=>true
 | _=>false)
def wj{X:Type}(P:Program)(N:Nat)(σ:S)(d:Nat)(t ut:TypeId)(x y:A)(k:S->Option X):Option X:=
 match y with
 | .lf (.v (.str s))=>bif DO P t ut then (match x with
  | .lf (.v .nil)=>bif cu (nZ s).length then gD N σ d (.sl (.sl .u8 2 false (nZ s))) (.lf (.own [d])) k else none
  | .lf (.own [r])=>(match σ.m r with
   | some (.sl (.sl .u8 (o+2) q l))=>bif Nat.blt d N&&(Nat.blt r N || Nat.ble 60000 r)&&cu (l.length+(nZ s).length)then k (((σ.drop r).root r (.sl (.sl .u8 (o+2) false (l++nZ s)))).set d (.lf (.own [r])))else none
   | _=>none)
  | _=>none)else none
 | _=>none
theorem ajC{t ut:TypeId}(h:DO P t ut=true):∃ e i,P.underlying t=some (.slice e)/\tid .u8=e/\P.info? e=some i/\i.size=1/\i.bytes=1/\i.zero=some (.int .u8 0)/\P.underlying ut=some .string:=by
 unfold DO at h
 rw[Bool.and_eq_true]at h
 obtain⟨h1,h2⟩:=h
 have hu:P.underlying ut=some .string:=by
  split at h2
  ·assumption
  ·cases h2
 split at h1
 ·rename_i e he
  obtain⟨eE,ht,i,hi,cT,gi⟩:=xL he
  rw[hi]at h1
  simp only[Bool.and_eq_true]at h1
  obtain⟨⟨h3,h4⟩,h5⟩:=h1
  refine⟨e,i,eE,ht,hi,Nat.eq_of_beq_eq_true h3,Nat.eq_of_beq_eq_true h4,?_,hu⟩
  split at h5
  ·assumption
  ·cases h5
 ·cases h1
theorem ajD{t ut ty:TypeId}{x y:A}{k:S->Option X}(h:wj P N σ d t ut x y k=some r):∃ aj,k aj=some r/\∀ af ρ a w,Rl w0 N af ρ σ a w->∀ u v,RA w w0.heap.size af ρ x u->RA w w0.heap.size af ρ y v->
  ∃ w' ax ρ' z,(Builtin.append_ #[t,ut] ty #[u,v]).run P w = .ok z w'/\Rl w0 N ax ρ' aj (a.put (some d) z) w':=by
 unfold wj at h
 split at h
 ·rename_i s
  cases hb:DO P t ut with
  | false=>rw[hb]at h;cases h
  | true=>
   rw[hb,cond_true]at h
   obtain⟨e,i,eE,ht,hi,cT,gi,hz,eo⟩:=ajC hb
   split at h
   ·cases hL:cu (nZ s).length with
    | false=>rw[hL]at h;cases h
    | true=>
     rw[hL,cond_true]at h
     have hL:(nZ s).length<1073741824:=by simpa [cu]using hL
     obtain⟨hd,h3⟩:=l8 h
     refine⟨_,h3,fun af ρ a w hR u v hu hv=>?_⟩
     have hu:u = .slice none 0 0:=by cases hu.2;rfl
     subst hu
     obtain rfl:=hv.2.qy
     obtain⟨v',w',ax,aW,aT,gk⟩:=hR.Wf (ty:=ty) (rr:=d) (o:=0) (q:=false) (l:=[]) (s:=s) (hR.eg d (.inl hd)) eE eo ht hi hz cT gi (.cD _ _ _) (by rw[OW]at hL;simpa using hL)
     exact⟨w',ax,_,v',aW,aT.set ⟨gk,by simp[cc,bK]⟩ hd⟩
   ·rename_i rr
    split at h
    ·rename_i o q l hm
     cases hL:(Nat.blt d N&&(Nat.blt rr N || Nat.ble 60000 rr)&&cu (l.length+(nZ s).length))with
     | false=>rw[hL]at h;cases h
     | true=>
      rw[hL,cond_true]at h
      rw[Bool.and_eq_true,Bool.and_eq_true,Bool.or_eq_true]at hL
      have vF:l.length+(nZ s).length<1073741824:=by simpa [cu]using hL.2
      have hd:d<N:=by have:=Nat.le_of_ble_eq_true hL.1.1;omega
      have ic:rr<N\/60000<=rr:=hL.1.2.imp (fun h=>by have:=Nat.le_of_ble_eq_true h;omega) (fun h=>Nat.le_of_ble_eq_true h)
      refine⟨_,h,fun af ρ a w hR u v hu hv=>?_⟩
      obtain rfl:=hv.2.qy
      have dm:=hR.root rr _ hm
      generalize he:aP.sl (.sl .u8 (o+2) q l)=x at dm
      cases dm with
      | ak=>cases he
      | mp=>cases he
      | gh=>cases he
      | sl uu y aK hr=>
       injection he with he
       subst he
       have xJ:uu=u:=by
        have h4:=hu.2
        simp only[cc,aK]at h4
        injection h4
       subst xJ
       obtain⟨v',w',ax,aW,aT,gk⟩:=hR.Wf (ty:=ty) (s:=s) (hR.eg rr ic) eE eo ht hi hz cT gi hr (by rw[OW]at vF;exact vF)
       exact⟨w',ax,_,v',aW,aT.set ⟨gk,by simp[cc,bK]⟩ hd⟩
    ·cases h
   ·cases h
 ·cases h
theorem ajE{t ut:TypeId}{x y:A}{k:S->Option X}(h:wj P N σ d t ut x y k=some r):∃ τ,k τ=some r/\bW (fun X k=>wj (X:=X) P N σ d t ut x y k) τ:=by
 unfold wj at h
 split at h
 ·rename_i s
  cases hb:DO P t ut with
  | false=>rw[hb]at h;cases h
  | true=>
   rw[hb,cond_true]at h
   split at h
   ·cases hL:cu (nZ s).length with
    | false=>rw[hL]at h;cases h
    | true=>
     rw[hL,cond_true]at h
     obtain⟨h3,h4⟩:=so h
     exact⟨_,h3,fun X k=>by simp only[wj,hb,hL,cond_true];exact h4 X k⟩
   ·rename_i rr
    split at h
    ·rename_i o q l hm
     cases hL:(Nat.blt d N&&(Nat.blt rr N || Nat.ble 60000 rr)&&cu (l.length+(nZ s).length))with
     | false=>rw[hL]at h;cases h
     | true=>
      rw[hL,cond_true]at h
      exact⟨_,h,fun X k=>by simp only[wj,hb,hm,hL,cond_true]⟩
    ·cases h
   ·cases h
 ·cases h
end
end Go.Proofs.YtinbifpbkcbnkaaGreat
namespace Go.Proofs.YtinbifpbkcbnkaaGreat
open Go.RowKit
set_option linter.unusedVariables false
def jC(l:List (Int×Bool))(k:Int):Bool:=match l with
 | []=>false
 | p :: ps=>bif k==p.1 then p.2 else jC ps k
def jO(l:List (Int×Bool))(k:Int)(v:Bool):List (Int×Bool):=match l with
 | []=>[(k,v)]
 | p :: ps=>bif k==p.1 then (k,v) :: ps else p :: jO ps k v
def A1(P:Program)(t:TypeId):Bool:=match P.underlying t with
 | some (.map k e)=>(match P.underlying k with
  | some (.int .i64)=>true
  | _=>false)&&(match zeroOf P e with
  | some (.bool false)=>true
  | _=>false)
 | _=>false
def Ij{X:Type}(N:Nat)(σ:S)(d:Nat)(k:S->Option X):Option X:=gD N σ d (.mp []) (.pk d nL) k
def DP{X:Type}(P:Program)(σ:S)(t:TypeId)(x i:A)(k:A->Option X):Option X:=
 match x,i with
 | .pk r n,.lf (.v (.int .i64 key))=>bif Nat.beq n nL&&A1 P t then (match σ.m r with
  | some (.mp l)=>k (.lf (.v (.bool (jC l key))))
  | _=>none)else none
 | _,_=>none
def DQ{X:Type}(P:Program)(σ:S)(t:TypeId)(x i v:A)(k:S->Option X):Option X:=
 match x,i,v with
 | .pk r n,.lf (.v (.int .i64 key)),.lf (.v (.bool b))=>bif Nat.beq n nL&&A1 P t then (match σ.m r with
  | some (.mp l)=>k ⟨σ.t,bG σ.m r (some (.mp (jO l key b)))⟩
  | _=>none)else none
 | _,_,_=>none
section
variable {P:Program} {w w':World} {w0:Wd} {B N:Nat} {af ax:bq} {ρ ρ':Nat->Loc} {σ:S} {a:Act} {X:Type} {d:Nat} {r:X} {o:Oper}
theorem Wg{t:TypeId}(h:A1 P t=true):∃ k e i,P.underlying t=some (.map k e)/\P.underlying k=some (.int .i64)/\P.info? e=some i/\i.zero=some (.bool false):=by
 unfold A1 at h
 split at h
 ·rename_i k e he
  rw[Bool.and_eq_true]at h
  obtain⟨h1,h2⟩:=h
  have hk:P.underlying k=some (.int .i64):=by
   split at h1
   ·assumption
   ·cases h1
  have hz:zeroOf P e=some (.bool false):=by
   split at h2
   ·assumption
   ·cases h2
  unfold zeroOf at hz
  cases hi:P.info? e with
  | none=>rw[hi]at hz;cases hz
  | some i=>
   rw[hi]at hz
   exact⟨k,e,i,he,hk,hi,hz⟩
 ·cases h
theorem Rl.newObj{ob:Obj}{x:aP}{ρ':Nat->Loc}(h:Rl w0 N af ρ σ a w)(hF:w0.F d=none)(aK:∀ r,r≠d->ρ' r=ρ r)
  (hx:dK (w.alloc ob) w0.heap.size (bG af w.heap.size (some [d])) ρ' d x):Rl w0 N (bG af w.heap.size (some [d])) ρ' ((σ.drop d).root d x) a (w.alloc ob):=by
 refine h.tq hF (iE.UT w0 w _ h.below.size) ⟨by simp,fun b hb _=>Below.heap_alloc w _ b hb,fun b hb=>cm _ _ _ (by omega),fun b hb=>(h.cH b [] hb).2.2 rfl⟩ (fun b k hb hk=>?_) aK hx
 by_cases e:b=w.heap.size
 ·subst e
  rw[bK]at hk
  injection hk with hk
  subst hk
  exact⟨by simp,by simp⟩
 ·rw[cm _ _ _ e]at hk
  have:=(h.cH b k hk).2.1
  omega
theorem ajF{t:TypeId}{k:S->Option X}(h:Ij N σ d k=some r):∃ aj,k aj=some r/\∀ af ρ a w,Rl w0 N af ρ σ a w->∃ w' ax ρ' v,(Instr.makeMap t none).run P w = .ok v w'/\Rl w0 N ax ρ' aj (a.put (some d) v) w':=by
 obtain⟨hd,h⟩:=l8 h
 refine⟨_,h,fun af ρ a w hR=>?_⟩
 have aW:(Instr.makeMap t none).run P w = .ok (.map (some w.heap.size)) (w.alloc (.map #[] 0)):=rfl
 refine⟨_,bG af w.heap.size (some [d]),bG ρ d (.ak w.heap.size 0),_,aW,(hR.newObj (hR.eg d (.inl hd)) (fun r hr=>cm _ _ _ hr) ?_).set ⟨w.heap.size,bK _ _ _,(Nz _).symm⟩ hd⟩
 exact .mp w.heap.size 0 #[] [] (bK _ _ _) (bK _ _ _) (heap_alloc_new w _) rfl
theorem ajG{k:S->Option X}(h:Ij N σ d k=some r):∃ τ,k τ=some r/\bW (fun X k=>Ij (X:=X) N σ d k) τ:=by
 obtain⟨h1,h2⟩:=so h
 exact⟨_,h1,h2⟩
def yC(l:List (Int×Bool)):List (Value×Value):=l.map fun p=>(.int .i64 p.1,.bool p.2)
theorem OX:∀ (es:List MapEntry) (l:List (Int×Bool)) (k:Int) (n:Nat),es.map (fun e=>(e.key,e.val))=yC l->
  (Instr.findNow (.int .i64) (.int .i64 k) es n=some none/\jC l k=false/\∀ v,jO l k v=l++[(k,v)])\/
  (∃ i b,Instr.findNow (.int .i64) (.int .i64 k) es n=some (some (n+i,.bool b))/\jC l k=b/\∃ h:i<es.length,es[i].key = .int .i64 k/\∀ v,yC (jO l k v)=(es.modify i fun e=>{ e with key:=.int .i64 k,val:=.bool v }).map (fun e=>(e.key,e.val)))
 | [],[],k,n,_=>.inl ⟨rfl,rfl,fun v=>rfl⟩
 | [],_ :: _,k,n,h=>by cases h
 | _ :: _,[],k,n,h=>by cases h
 | e :: es,p :: l,k,n,h=>by
  have h:(e.key,e.val) :: es.map (fun e=>(e.key,e.val))=(.int .i64 p.1,.bool p.2) :: yC l:=h
  injection h with h1 h2
  injection h1 with hk hv
  have hs:Instr.sameNow (.int .i64) (.int .i64 k) e.key=some (k==p.1):=by
   rw[hk]
   simp[Instr.sameNow]
  cases hb:(k==p.1)with
  | true=>
   have Ik:k=p.1:=by simpa using hb
   refine .inr ⟨0,p.2,?_,by simp only[jC,hb,cond_true],by simp,by simp[hk,Ik],fun v=>?_⟩
   ·simp only[Instr.findNow,hs,hb,hv]
    rfl
   ·simp only[jO,hb,cond_true]
    simp only[List.modify_zero_cons,List.map_cons]
    show (Value.int .i64 k,Value.bool v) :: yC l=_
    rw[h2]
  | false=>
   rcases OX es l k (n+1) h2 with ⟨a1,a2,a3⟩ | ⟨i,b,a1,a2,hi,a3,a4⟩
   ·refine .inl ⟨?_,by simp only[jC,hb,cond_false,a2],fun v=>by simp only[jO,hb,cond_false,a3];rfl⟩
    simp only[Instr.findNow,hs,hb]
    exact a1
   ·refine .inr ⟨i+1,b,?_,by simp only[jC,hb,cond_false,a2],by simpa using hi,by simpa using a3,fun v=>?_⟩
    ·simp only[Instr.findNow,hs,hb]
     rw[a1]
     congr 3
     omega
    ·simp only[jO,hb,cond_false]
     simp only[List.modify_succ_cons,List.map_cons]
     show (Value.int .i64 p.1,Value.bool p.2) :: yC (jO l k v)=_
     rw[a4,hk,hv]
theorem Il{kt:TypeId}{k:Int}{es:List MapEntry}{z:Option (Nat×Value)}(hk:P.underlying kt=some (.int .i64))(h:Instr.findNow (.int .i64) (.int .i64 k) es 0=some z):(Instr.findKey kt (.int .i64 k) es).run P w = .ok z w:=by
 unfold Instr.findKey
 simp only[Sem.run_bind,run_underlying hk,Result.andThen_ok,h]
 rfl
theorem Wh{t:TypeId}{x i:A}{k:A->Option X}(h:DP P σ t x i k=some r):∃ v,k v=some r/\bW (fun X k=>DP (X:=X) P σ t x i k) v/\∀ af ρ a w,Rl w0 N af ρ σ a w->∀ u z,RA w w0.heap.size af ρ x u->RA w w0.heap.size af ρ i z->
  ∃ y,(Instr.lookup t u z false).run P w = .ok y w/\RA w w0.heap.size af ρ v y:=by
 unfold DP at h
 split at h
 ·rename_i rr n key
  cases hb:(Nat.beq n nL&&A1 P t)with
  | false=>rw[hb]at h;cases h
  | true=>
   rw[hb,cond_true]at h
   split at h
   ·rename_i l hm
    refine⟨_,h,fun X k=>by simp only[DP,hb,cond_true,hm],fun af ρ a w hR u z hu hz=>?_⟩
    rw[Bool.and_eq_true]at hb
    obtain⟨kt,et,ti,ht,yD,hi,Wi⟩:=Wg hb.2
    have hn:=Nat.eq_of_beq_eq_true hb.1
    subst hn
    obtain⟨b,aK,rfl⟩:=hu
    have hz:z = .int .i64 key:=by
     have h2:=hz.2
     cases h2
     rfl
    subst hz
    have dm:=hR.root rr _ hm
    generalize he:aP.mp l=y at dm
    cases dm with
    | ak=>cases he
    | sl=>cases he
    | gh=>cases he
    | mp b' c es l' gl hl hh Im=>
     injection he with he
     subst he
     rw[aK]at gl
     injection gl with e1 _
     subst e1
     refine⟨.bool (jC l key),?_,rfl,.bool _ _⟩
     rw[Nz]
     unfold Instr.lookup
     simp only[Sem.run_bind,run_underlying ht,Result.andThen_ok,MapKept.run_getObj_map hh,Sem.run_pure]
     rw[MapKept.run_checkKey (k:=.int .i64 key) yD rfl]
     simp only[Result.andThen_ok]
     rcases OX es.toList l key 0 Im with ⟨a1,a2,_⟩ | ⟨i,v,a1,a2,_⟩
     ·rw[Il yD a1]
      have HC:(zeroValue et).run P w = .ok (.bool false) w:=by simp[zeroValue,typeInfo,hi,Wi]
      simp only[Result.andThen_ok,a2,Sem.run_bind,Sem.run_pure,HC]
      rfl
     ·rw[Il yD a1]
      simp only[Result.andThen_ok,a2,Sem.run_bind,Sem.run_pure]
      rfl
   ·cases h
 ·cases h
theorem Wj{t:TypeId}{x i v:A}{k:S->Option X}(h:DQ P σ t x i v k=some r):∃ aj,k aj=some r/\bW (fun X k=>DQ (X:=X) P σ t x i v k) aj/\∀ af ρ a w,Rl w0 N af ρ σ a w->∀ u z y,RA w w0.heap.size af ρ x u->RA w w0.heap.size af ρ i z->RA w w0.heap.size af ρ v y->
  ∃ w',(Instr.mapUpdate t u z y).run P w = .ok () w'/\Rl w0 N af ρ aj a w':=by
 unfold DQ at h
 split at h
 ·rename_i rr n key bv
  cases hb:(Nat.beq n nL&&A1 P t)with
  | false=>rw[hb]at h;cases h
  | true=>
   rw[hb,cond_true]at h
   split at h
   ·rename_i l hm
    refine⟨_,h,fun X k=>by simp only[DQ,hb,cond_true,hm],fun af ρ a w hR u z y hu hz hy=>?_⟩
    rw[Bool.and_eq_true]at hb
    obtain⟨kt,et,ti,ht,yD,hi,Wi⟩:=Wg hb.2
    have hn:=Nat.eq_of_beq_eq_true hb.1
    subst hn
    obtain⟨b,aK,rfl⟩:=hu
    have hz:z = .int .i64 key:=by
     have h2:=hz.2
     cases h2
     rfl
    subst hz
    have hy:y = .bool bv:=by
     have h2:=hy.2
     cases h2
     rfl
    subst hy
    have dm:=hR.root rr _ hm
    generalize he:aP.mp l=y at dm
    cases dm with
    | ak=>cases he
    | sl=>cases he
    | gh=>cases he
    | mp b' c es l' gl hl hh Im=>
     injection he with he
     subst he
     rw[aK]at gl
     injection gl with e1 _
     subst e1
     have Ic:b<w.heap.size:=(Array.getElem?_eq_some_iff.1 hh).1
     have HZ:∀ (A2:Array MapEntry) (c':Nat),A2.toList.map (fun e=>(e.key,e.val))=yC (jO l key bv)->Rl w0 N af ρ ⟨σ.t,bG σ.m rr (some (.mp (jO l key bv)))⟩ a { w with heap:=w.heap.setIfInBounds b (.map A2 c') }:=by
      intro A2 c' ajH
      have hW:rM w { w with heap:=w.heap.setIfInBounds b (.map A2 c') } b:=by
       refine⟨by simp,rfl,rfl,rfl,fun k hk=>?_⟩
       show (w.heap.setIfInBounds b _)[k]?=_
       rw[Array.getElem?_setIfInBounds_ne (Ne.symm hk)]
      have hC:pP w { w with heap:=w.heap.setIfInBounds b (.map A2 c') } af ρ:=by
       intro k ad v ha hv gk
       obtain⟨j',i',s',q,rfl,hq,_,_,NG⟩:=vA k ad ha
       have aV:ad.block≠b:=by
        intro e
        rw[e,hl]at hq
        injection hq with hq
        obtain⟨v',dR⟩:=NG rr hq.symm
        rw[aK]at dR
        cases dR
       exact(World.cell?_of_block (hW.block _ aV)).trans hv
      refine hR.wrote hW hl hC fun r' y hy=>?_
      by_cases ic:r'=rr
      ·subst ic
       rw[bK]at hy
       injection hy with hy
       subst hy
       refine .mp b c' A2 _ aK hl ?_ ajH
       show (w.heap.setIfInBounds b _)[b]?=_
       rw[Array.getElem?_setIfInBounds_self]
       simp[Ic]
      ·rw[cm _ _ _ ic]at hy
       exact(hR.root r' y hy).wrote hW hl hC (NF ic)
     rw[Nz]
     unfold Instr.mapUpdate
     simp only[Sem.run_bind,run_underlying ht,Result.andThen_ok,MapKept.run_getObj_map hh,Sem.run_pure]
     rw[MapKept.run_checkKey (k:=.int .i64 key) yD rfl]
     simp only[Result.andThen_ok]
     rcases OX es.toList l key 0 Im with ⟨a1,a2,a3⟩ | ⟨i,v,a1,a2,qJ,a3,a4⟩
     ·rw[Il yD a1]
      simp only[Result.andThen_ok]
      rw[MapKept.run_setObj_map _ hh]
      refine⟨_,rfl,HZ _ _ ?_⟩
      rw[a3]
      simp only[Array.toList_push,List.map_append,Im,yC]
      rfl
     ·rw[Il yD a1]
      simp only[Result.andThen_ok,Nat.zero_add]
      have tr:(es[i]?.map (·.key)).getD (.int .i64 key) = .int .i64 key:=by
       have h1:i<es.size:=by simpa using qJ
       rw[Array.getElem?_eq_getElem h1]
       simpa using a3
      rw[tr]
      have iq:(Instr.keyThatStays (.int .i64 key) (.int .i64 key)).run P w = .ok (.int .i64 key) w:=by
       unfold Instr.keyThatStays
       simp[Instr.sameBits]
      simp only[Sem.run_bind]
      rw[iq]
      simp only[Result.andThen_ok]
      rw[MapKept.run_setObj_map _ hh]
      refine⟨_,rfl,HZ _ _ ?_⟩
      rw[a4]
      simp
   ·cases h
 ·cases h
end
end Go.Proofs.YtinbifpbkcbnkaaGreat
namespace Go.Proofs.YtinbifpbkcbnkaaGreat
open Go.RowKit
set_option linter.unusedVariables false
def DR(t:TypeId)(d:Nat):Bool:=[].any fun(p:Nat×Nat)=>Nat.beq p.1 t&&Nat.beq p.2 d
def yE(dst:Option Tmp)(t:TypeId):Bool:=match dst with
 | some d=>DR t d
 | none=>false
def yF{X:Type}(P:Program)(N:Nat)(σ:S)(d:Nat)(t:TypeId)(x y:A)(k:S->Option X):Option X:=
 match tu P t with
 | some (e,tc)=>bif Nat.beq (full tc) 0&&(zeroOf P e).any (fun z=>Nat.beq z.cells.size (aB tc))then nM σ y fun yv=>(match yv.HA tc with
  | none=>none
  | some l2=>match x with
   | .lf (.own [r])=>(match σ.m r with
    | some (.sl (.sl t' (o+2) true l))=>if h:t'=tc then (bif !xP l2&&cu (l.length+l2.length)then gD N σ d (.sl (.sl tc (o+2) false ((h ▸ l)++l2))) (.lf (.own [d])) k else none)else none
    | _=>none)
   | _=>none)else none
 | none=>none
section
variable {P:Program} {w w':World} {w0:Wd} {B N:Nat} {af ax:bq} {ρ ρ':Nat->Loc} {σ:S} {a:Act} {X:Type} {d:Nat} {r:X}
theorem Rl.ajI{t e ty:TypeId}{tc:TC}{i:TypeInfo}{z:Value}{rr o g:Nat}{qn:Bool}{l l2:List (T tc)}{u v:Value}{q':List Nat}{Bx:Nat}{N1:bq}(h:Rl w0 N af ρ σ a w)(hF:w0.F d=none)(eE:P.underlying t=some (.slice e))(ht:tid tc=e)(hi:P.info? e=some i)(hz:i.zero=some z)
  (cT:i.size=aB tc) (gi:i.bytes<=65536) (fR:z.cells.size=aB tc) (hf:full tc=0) (hd:RV w w0.heap.size af [rr] (.sl tc (o+2) true l) u) (hs:RV w Bx N1 q' (.sl tc g qn l2) v) (aV:l2≠[]) (hlen:l.length+l2.length<1073741824):
  ∃ v' w' ax,(Builtin.append_ #[t,t] ty #[u,v]).run P w = .ok v' w'/\Rl w0 N ax (bG ρ d (.dJ v')) ((σ.drop d).root d (.sl (.sl tc (o+2) false (l++l2)))) a w'/\jV v'=true:=by
 subst ht
 obtain⟨xs,gT,nP,AL,lJ⟩:=hd.NZ hf (B':=0) (fun b _=>Nat.zero_le b)
 obtain⟨A,c,news,rfl,tB,ke,xM⟩:=hs.reads hf
 have fU:(l.length+l2.length)*i.bytes<=140737488355328:=by
  have h1:(l.length+l2.length)*i.bytes<=1073741824*65536:=Nat.mul_le_mul (by omega) gi
  omega
 have DC:0<l2.length:=List.length_pos_iff.2 aV
 obtain⟨v',w',aW,jJ,iJ,dV⟩:=Mn (P:=P) w 0 t ty (tid tc) i z (aB tc) i.bytes eE hi hz cT rfl fR (oF tc) u l.length xs gT _ A l2.length c news tB ke (by unfold maxLen;omega) fU (Nat.zero_le _)
 have tC:(l++l2).length=l.length+l2.length:=List.length_append
 have hex:∃ b,u = .slice (some ⟨b,0,none⟩) l.length l.length:=by
  cases hd with
  | ah _ _ _ _ _ _ _ _ _ ho=>omega
  | cW _ _ _ _ _ ho=>omega
  | own _ _ _ _ _ b cap cs us hl hh hs hn hm hc hr=>exact⟨b,by rw[hm.2 rfl]⟩
 obtain⟨b,rfl⟩:=hex
 obtain⟨b',qq,rfl,_,dn⟩:=tB.2 DC
 have ajJ:∀ j x,news[j]?=some x->w.cell? ((⟨b',qq,none⟩:Addr).add j)=some x:=by
  intro j x hx
  have vb:(⟨b',qq,none⟩:Addr).add j=⟨b',qq+j,none⟩:=by unfold Addr.add;split <;>simp_all
  rw[vb]
  exact dn j x hx
 have Wl:=run_append_grow (P:=P) w t ty (tid tc) i z eE hi hz ⟨b,0,none⟩ l.length l.length xs (by rw[cT];exact gT.1) (gT.cells (g:=b) rfl) ⟨b',qq,none⟩ l2.length c news (by rw[cT];exact tB.1) ajJ (by omega) (by omega) (growslice_fits (by omega) fU)
 rw[aW]at Wl
 injection Wl with e1 e2
 have hold:∀ k,k<w.heap.size->w'.heap[k]?=w.heap[k]?:=by
  intro k hk
  rw[e2]
  exact heap_alloc_old w.drew _ hk
 have hvb:v'.ownBlock=some w.heap.size:=by rw[e1];rfl
 have bw:w.heap.size<w'.heap.size:=by rw[e2];simp
 rw[<-tC]at jJ
 have rS:=lJ.append xM gT.1
 have gk:jV v'=true:=by rw[e1];rfl
 have kg:Below 0 w w':=(Below.refl 0 w).grown iJ (Nat.zero_le _) (fun _ _=>Nat.zero_le _)
 have fM:iE w0 w w':=⟨kg.os,kg.tape,kg.output,kg.size,fun k hk hL=>hold k (Nat.lt_of_lt_of_le hk h.below.size)⟩
 refine⟨v',w',bG af w.heap.size (some [d]),aW,h.tq hF fM ⟨iJ.size,fun b hb _=>hold b hb,fun b hb=>cm _ _ _ (by omega),fun b hb=>(h.cH b [] hb).2.2 rfl⟩ (fun b k hb hk=>?_) (fun r hr=>cm _ _ _ hr) (.sl v' _ (bK _ _ _) (De jJ rS (fun b hb=>?_))),gk⟩
 ·by_cases e:b=w.heap.size
  ·subst e
   rw[bK]at hk
   injection hk with hk
   subst hk
   exact⟨bw,by simp⟩
  ·rw[cm _ _ _ e]at hk
   have:=(h.cH b k hk).2.1
   omega
 ·rw[hvb]at hb
  injection hb with hb
  subst hb
  exact bK _ _ _
theorem ajK{t ty:TypeId}{x y:A}{k:S->Option X}(h:yF P N σ d t x y k=some r):∃ aj,k aj=some r/\∀ af ρ a w,Rl w0 N af ρ σ a w->∀ u v,RA w w0.heap.size af ρ x u->RA w w0.heap.size af ρ y v->
  ∃ w' ax ρ' z,(Builtin.append_ #[t,t] ty #[u,v]).run P w = .ok z w'/\Rl w0 N ax ρ' aj (a.put (some d) z) w':=by
 unfold yF at h
 split at h
 ·rename_i e tc gE
  obtain⟨eE,ht,i,hi,cT,gi⟩:=xL gE
  cases hc:(Nat.beq (full tc) 0&&(zeroOf P e).any (fun z=>Nat.beq z.cells.size (aB tc)))with
  | false=>rw[hc]at h;cases h
  | true=>
   rw[hc,cond_true]at h
   rw[Bool.and_eq_true]at hc
   have hf:=Nat.eq_of_beq_eq_true hc.1
   obtain⟨z,hz,fR⟩:=(Option.any_eq_true _ _).1 hc.2
   have fR:=Nat.eq_of_beq_eq_true fR
   have oM:i.zero=some z:=by unfold zeroOf at hz;simpa [hi]using hz
   obtain⟨yv,HE,h2⟩:=UW (w0:=w0) (N:=N) h
   clear h
   split at h2
   ·cases h2
   ·rename_i l2 fD
    split at h2
    ·rename_i rr
     split at h2
     ·rename_i t' o l hm
      split at h2
      ·rename_i fE
       subst fE
       cases hL:(!xP l2&&cu (l.length+l2.length))with
       | false=>rw[hL]at h2;cases h2
       | true=>
        rw[hL,cond_true]at h2
        rw[Bool.and_eq_true]at hL
        have aV:l2≠[]:=by rintro rfl;cases hL.1
        have vF:l.length+l2.length<1073741824:=by simpa [cu]using hL.2
        obtain⟨hd,h3⟩:=l8 h2
        refine⟨_,h3,fun af ρ a w hR u v hu hv=>?_⟩
        obtain⟨q',_,_,dR⟩:=HE af ρ a w hR v hv
        obtain⟨g,qn,dR⟩:=N2 fD dR
        have dm:=hR.root rr _ hm
        generalize he:aP.sl (.sl t' (o+2) true l)=x at dm
        cases dm with
        | ak=>cases he
        | mp=>cases he
        | gh=>cases he
        | sl uu y aK hr=>
         injection he with he
         subst he
         have xJ:uu=u:=by
          have h4:=hu.2
          simp only[cc,aK]at h4
          injection h4
         subst xJ
         obtain⟨v',w',ax,aW,aT,gk⟩:=hR.ajI (ty:=ty) (d:=d) (hR.eg d (.inl hd)) eE ht hi oM cT gi fR hf hr dR aV vF
         exact⟨w',ax,_,v',aW,aT.set ⟨gk,by simp[cc,bK]⟩ hd⟩
      ·cases h2
     ·cases h2
    ·cases h2
 ·cases h
theorem ajL{t:TypeId}{x y:A}{k:S->Option X}(h:yF P N σ d t x y k=some r):∃ τ,k τ=some r/\bW (fun X k=>yF (X:=X) P N σ d t x y k) τ:=by
 unfold yF at h
 split at h
 ·rename_i e tc gE
  cases hc:(Nat.beq (full tc) 0&&(zeroOf P e).any (fun z=>Nat.beq z.cells.size (aB tc)))with
  | false=>rw[hc]at h;cases h
  | true=>
   rw[hc,cond_true]at h
   obtain⟨yv,h2,hd⟩:=OJ h
   clear h
   split at h2
   ·cases h2
   ·rename_i l2 fD
    split at h2
    ·rename_i rr
     split at h2
     ·rename_i t' o l hm
      split at h2
      ·rename_i fE
       subst fE
       cases hL:(!xP l2&&cu (l.length+l2.length))with
       | false=>rw[hL]at h2;cases h2
       | true=>
        rw[hL,cond_true]at h2
        obtain⟨h3,h4⟩:=so h2
        exact⟨_,h3,fun X k=>by
         simp only[yF,gE,hc,cond_true]
         exact(hd.at_ _).trans (by simp only[fD,hm,dif_pos,hL,cond_true];exact h4 X k)⟩
      ·cases h2
     ·cases h2
    ·cases h2
 ·cases h
end
end Go.Proofs.YtinbifpbkcbnkaaGreat
namespace Go.Proofs.YtinbifpbkcbnkaaGreat
open Go.RowKit
set_option linter.unusedVariables false
abbrev dG:=Nat->Option qO
def fO(P:Program)(Φ:dG):Prop:=∀ f c,Φ f=some c->enters P f/\V7 P f c
def dQ{X:Type}(o:Oper)(k:Nat->Option X):Option X:=
 match o.dst with
 | some d=>k d
 | none=>none
def eO:Op->Bool
 | .move _ | .assign _ | .pick .. | .build .. | .load .. | .binOp .. | .unOp .. | .convert .. | .fieldAddr .. | .field .. | .indexAddr .. | .index .. | .extract .. | .nilCheck _=>true
 | .call ⟨.builtin .len,_,_⟩ | .call ⟨.builtin .max,_,_⟩ | .call ⟨.builtin .min,_,_⟩=>true
 | .slice _ _ _ _ none=>true
 | _=>false
def cA{X:Type}(P:Program)(σ:S)(op:Op)(k:A->Option X):Option X:=
 match op with
 | .move x=>k (aA σ x)
 | .assign x=>k (aA σ x)
 | .pick c x y=>(match aA σ c with
  | .lf (.v (.bool b))=>bif b then k (aA σ x)else k (aA σ y)
  | _=>none)
 | .build t parts=>rT P σ t parts.toList k
 | .load t x=>g7 P σ t (aA σ x) k
 | .binOp op t x y _=>jK P σ op t (aA σ x) (aA σ y) k
 | .unOp op _ x=>vK (aA σ x) fun a=>AG op a fun z=>k (.lf (.v z))
 | .convert s d x=>l9 P σ s d (aA σ x) k
 | .fieldAddr s x f=>qz P s (aA σ x) f k
 | .field s x f=>tE P s (aA σ x) f k
 | .indexAddr t x i=>mO P σ t (aA σ x) (aA σ i) k
 | .index t x i=>vH P t (aA σ x) (aA σ i) k
 | .extract x i=>xI (aA σ x) i k
 | .nilCheck x=>Ia (aA σ x) k
 | .call ⟨.builtin .len,⟨[x]⟩,⟨[t]⟩⟩=>kP P σ t (aA σ x) k
 | .call ⟨.builtin .max,⟨[x,y]⟩,⟨[_,_]⟩⟩=>xO true (aA σ x) (aA σ y) k
 | .call ⟨.builtin .min,⟨[x,y]⟩,⟨[_,_]⟩⟩=>xO false (aA σ x) (aA σ y) k
 | .slice t x lo hi none=>nQ P σ t (aA σ x) (lo.map (aA σ)) (hi.map (aA σ)) k
 | _=>none
def gH{X:Type}(P:Program)(N:Nat)(Φ:dG)(σ:S)(o:Oper)(k:S->Option X):Option X:=
 match o.op with
 | .alloc e=>dQ o fun d=>pV P N σ d e k
 | .box e x=>dQ o fun d=>yh N σ d (aA σ x) k
 | .buildSlice t len parts=>dQ o fun d=>bif mc t then v9 P N σ d t len parts.toList k else xN P N σ d t len parts.toList k
 | .store t x y=>(match o.dst with
  | none=>bif yl (aA σ x) (aA σ y)then yj P σ t (aA σ x) (aA σ y) k else lH P σ t (aA σ x) (aA σ y) k
  | some _=>none)
 | .makeSlice t l c=>dQ o fun d=>xK P N σ d t (aA σ l) (aA σ c) k
 | .call ⟨.value (.func f),args,_⟩=>(match Φ f with
  | some (.p c)=>dQ o fun d=>tL N σ d c args.toList k
  | some (.m c)=>kj N σ o.dst c args.toList k
  | some (.v c)=>dQ o fun d=>yx N σ d c args.toList k
  | some (.n F)=>dQ o fun d=>(match args.toList with
   | [x]=>yu N σ d F (aA σ x) k
   | _=>none)
  | some (.i c)=>yA N σ o.dst c (args.toList.map (aA σ)++[]) k
  | some (.d c)=>ye N σ o.dst c args.toList k
  | some (.q c)=>dQ o fun d=>vT N σ d c args.toList k
  | some (.c c)=>yB N σ o.dst c args.toList k
  | none=>none)
 | .call ⟨.builtin .append,⟨[x,y]⟩,⟨[t,t']⟩⟩=>bif Nat.beq t t' then dQ o fun d=>bif mc t then we P N σ d t (aA σ x) (aA σ y) k else bif DR t d then yF P N σ d t (aA σ x) (aA σ y) k else nO P N σ d t (aA σ x) (aA σ y) k else dQ o fun d=>wj P N σ d t t' (aA σ x) (aA σ y) k
 | .makeMap _ none=>dQ o fun d=>Ij N σ d k
 | .lookup t x i false=>DP P σ t (aA σ x) (aA σ i) fun v=>ig N σ o.dst v k
 | .mapUpdate t x i v=>(match o.dst with
  | none=>DQ P σ t (aA σ x) (aA σ i) (aA σ v) k
  | some _=>none)
 | .call ⟨.value (.tmp t),args,_⟩=>(match Ih (aA σ (.tmp t))with
  | some (f,ex)=>(match Φ f with
   | some (.i c)=>yA N σ o.dst c (args.toList.map (aA σ)++ex) k
   | _=>none)
  | none=>none)
 | .makeFunc (.func f) ⟨[]⟩ DS=>(match DM σ DS.toList with
  | some ps=>ig N σ o.dst (.fn f ps) k
  | none=>none)
 | _=>none
def cM{X:Type}(P:Program)(N:Nat)(Φ:dG)(σ:S)(o:Oper)(k:S->Option X):Option X:=
 bif eO o.op then cA P σ o.op fun v=>ig N σ o.dst v k else gH P N Φ σ o k
def n5{X:Type}(P:Program)(N:Nat)(Φ:dG)(σ:S)(o:Oper)(k:S->Option X):Option X:=
 match o.op,o.dst with
 | .store t x y,none=>(match aA σ y with
  | .view [q] s i j=>wh P σ q s i j t (aA σ x) k
  | _=>cM P N Φ σ o k)
 | .slice _ x _ _ none,some _=>cM P N Φ (A0 σ (aA σ x)) o k
 | _,_=>cM P N Φ σ o k
def eP(σ:S)(ops:Array Oper)(o:Oper):Option Bool:=
 match o.guard with
 | none=>some true
 | some (j,want)=>match (ops[j]?).bind (·.dst)with
  | some t=>(match σ.t t with
   | .lf (.v (.bool b))=>some (b==want)
   | .skip=>some false
   | _=>none)
  | none=>none
def Io(ops:Array Oper)(j:Nat):Bool:=ops.toList.any fun o=>match o.guard with
 | some (i,_)=>Nat.beq i j
 | none=>false
def mU{X:Type}(σ:S)(dst:Option Tmp)(g:Bool)(k:S->Option X):Option X:=
 bif g then (match dst with
  | some d=>(match σ.t d with
   | .lf (.v (.bool b))=>bif b then k (σ.set d (.lf (.v (.bool true))))else k (σ.set d (.lf (.v (.bool false))))
   | _=>k σ)
  | none=>k σ)else k σ
def sv{X:Type}(P:Program)(N:Nat)(Φ:dG)(ops:Array Oper):Nat->List Oper->S->(S->Option X)->Option X
 | _,[],σ,k=>k σ
 | j,o :: rest,σ,k=>match eP σ ops o with
  | some true=>n5 P N Φ σ o fun aj=>mU aj o.dst (Io ops j) fun sw=>sv P N Φ ops (j+1) rest sw k
  | some false=>ig N σ o.dst .skip fun aj=>sv P N Φ ops (j+1) rest aj k
  | none=>none
/-! Regions whose order is open: what is listed is a set of bits. -/
def c7{X:Type}(P:Program)(N:Nat)(Φ:dG)(ops:Array Oper)(σ:S)(o:Oper)(k:S->Option X):Option X:=
 match eP σ ops o with
 | some true=>cM P N Φ σ o k
 | some false=>ig N σ o.dst .skip k
 | none=>none
def kq(ops:Array Oper)(L j:Nat):Bool:=!L.testBit j&&(match ops[j]? with
 | some o=>o.after.toList.all fun e=>!Region.binds .any e || L.testBit e.on
 | none=>false)
def DT(ops:Array Oper)(i W j:Nat):Bool:=(match ops[j]? with
 | some o=>o.after.toList.any fun e=>Region.binds .any e&&(Nat.beq e.on i || W.testBit e.on)
 | none=>false)
def waits(ops:Array Oper)(i:Nat):Nat->Nat->Nat->Nat
 | 0,_,W=>W
 | n+1,j,W=>waits ops i n (j+1) (bif DT ops i W j then W ||| 2 ^ j else W)
def dX(o:Oper)(n:Nat):Bool:=match o.dst with
 | some d=>(match o.op with
  | .alloc _ | .box .. | .buildSlice .. | .makeSlice ..=>Nat.beq n d
  | .call ⟨.value (.func _),_,_⟩=>Nat.ble (1000000000100000+1000*d) n
  | .call ⟨.builtin .append,_,_⟩=>Nat.beq n d
  | _=>false)
 | none=>false
def Ip(Φ:dG)(op:Op):Bool:=eO op || (match op with
 | .alloc _ | .box .. | .buildSlice .. | .makeSlice ..=>true
 | .call ⟨.value (.func f),_,_⟩=>(match Φ f with
  | some (.p _)=>true
  | _=>false)
 | _=>false)
def gI(g:Oper->Bool)(ops:Array Oper)(i L W:Nat):Nat->Nat->Bool
 | 0,_=>false
 | f+1,j=>(!(Nat.beq j i || L.testBit j || W.testBit j)&&(match ops[j]? with
  | some oj=>g oj
  | none=>false)) || gI g ops i L W f (j+1)
def A3(g:Oper->Bool)(ops:Array Oper)(oi:Oper)(i L W:Nat):Nat->Nat->Bool
 | 0,_=>true
 | n+1,j=>(Nat.beq j i || L.testBit j || (bif W.testBit j then DT ops i W j else (match ops[j]? with
  | some oj=>g oj&&oi.apart ops oj
  | none=>true)))&&A3 g ops oi i L W n (j+1)
def Iq(c:lN):Bool:=c.ps.all fun p=>match p with
 | .v _ _=>true
 | .p _ g _=>Nat.beq g 0
 | .s _ _=>false
def oU(ok:Nat->Nat->Bool)(σ:S):List PK->List Operand->Bool
 | .p _ _ _ :: ps,.tmp t :: xs=>(match σ.t t with
  | .aC r _=>ok t r
  | _=>false)&&oU ok σ ps xs
 | .v _ _ :: ps,_ :: xs=>oU ok σ ps xs
 | [],[]=>true
 | _,_=>false
def gP(σ:S):List PK->List Operand->List Nat
 | .p _ _ _ :: ps,x :: xs=>(match aA σ x with
  | .aC r _=>r :: gP σ ps xs
  | _=>gP σ ps xs)
 | _ :: ps,_ :: xs=>gP σ ps xs
 | _,_=>[]
def mV(Φ:dG)(σ:S)(o:Oper):List Nat:=match o.op with
 | .call ⟨.value (.func f),args,_⟩=>(match Φ f with
  | some (.m c)=>gP σ c.ps args.toList
  | _=>[])
 | _=>[]
def js(t:Nat)(o:Oper):Bool:=match o.dst with
 | some d=>Nat.beq d t
 | none=>false
def sx(o:Oper):Bool:=(match o.op with
 | .alloc _=>true
 | _=>false)&&o.guard.isNone&&(match o.dst with
 | some d=>Nat.blt d 20000
 | none=>false)
def lO(o:Oper):Bool:=(match o.op with
 | .alloc _=>true
 | .buildSlice t _ _=>!mc t
 | .makeSlice ..=>true
 | _=>false)&&(match o.dst with
 | some d=>Nat.blt d 20000
 | none=>false)
def isApp(o:Oper):Bool:=match o.op with
 | .call ⟨.builtin .append,⟨[_,_]⟩,⟨[t,t']⟩⟩=>!mc t&&Nat.beq t t' && !yE o.dst t
 | _=>false
def OY(Φ:dG)(ops:Array Oper)(i L W:Nat)(σ:S)(o:Oper):Bool:=match o.op with
 | .call ⟨.value (.func f),args,_⟩=>(match Φ f with
  | some (.m c)=>Iq c&&oU (fun t r=>!gI (js t) ops i L W ops.size 0 && !gI (fun ok=>dX ok r) ops i L W ops.size 0 && !gI isApp ops i L W ops.size 0) σ c.ps args.toList
  | _=>false)
 | _=>false
def A.jt(p pb:Nat->Bool):A->Bool
 | .lf x=>x.nr p
 | .agg cs=>cs.all (Lf.nr p)
 | .cq xs=>xs.all fun q=>q.2.all (Lf.nr p)
 | .ptr k=>dN p k
 | .aC r _=>!pb r
 | .pk r _=>!pb r
 | .view k _ _ _=>dN p k
 | .fn _ cap=>cap.all fun q=>!pb q.1
 | _=>true
def wm(σ:S)(o:Oper):List Nat:=match o.op with
 | .store _ (.tmp t) _=>(match σ.t t with
  | .aC r _=>[r]
  | _=>[])
 | .call ⟨.builtin .append,⟨[.tmp t,_]⟩,⟨[_,_]⟩⟩=>(match σ.t t with
  | .lf (.own [r])=>[r]
  | _=>[])
 | _=>[]
def Ir(σ:S)(o:Oper):List Nat:=match o.op with
 | .call ⟨.builtin .append,⟨[.tmp t,_]⟩,⟨[_,_]⟩⟩=>(match σ.t t with
  | .lf (.own [r])=>[r]
  | _=>[])
 | _=>[]
def ajM(t:Nat)(o:Oper):Bool:=match o.op with
 | .store _ (.tmp t') _=>Nat.beq t' t
 | _=>false
def faR(ops:Array Oper)(i L W:Nat)(σ:S)(o:Oper):List Nat:=match o.op,o.dst with
 | .fieldAddr _ (.tmp x) _,some t=>bif gI (ajM t) ops i L W ops.size 0 then (match σ.t x with
  | .aC r _=>[r]
  | _=>[])else []
 | _,_=>[]
def wo(Φ:dG)(ops:Array Oper)(i L W:Nat)(σ:S)(n:Nat):Bool:=
 gI (fun o=>dX o n) ops i L W ops.size 0 || gI (fun o=>bN n (mV Φ σ o) || bN n (wm σ o)) ops i L W ops.size 0
def sy(Φ:dG)(ops:Array Oper)(i L W:Nat)(σ:S)(n:Nat):Bool:=
 wo Φ ops i L W σ n || gI (fun o=>bN n (faR ops i L W σ o)) ops i L W ops.size 0
def ud(σ:S)(ops:Array Oper)(i L W:Nat)(n:Nat):Bool:=gI (fun o=>dX o n) ops i L W ops.size 0 || gI (fun o=>bN n (Ir σ o)) ops i L W ops.size 0
def wq(Φ:dG)(o:Oper):Bool:=match o.op with
 | .call ⟨.value (.func f),_,_⟩=>(match Φ f with
  | some (.p _)=>true
  | _=>false)
 | _=>false
def kW(Φ:dG)(ops:Array Oper)(i L W:Nat)(t:Nat):Bool:=!gI (fun ok=>js t ok && !(lO ok || isApp ok || wq Φ ok)) ops i L W ops.size 0
def OZ(Φ:dG)(ops:Array Oper)(i L W:Nat)(o:Oper):Bool:=match o.op with
 | .call ⟨.builtin .append,⟨[.tmp t,_]⟩,⟨[ty,ty']⟩⟩=>kW Φ ops i L W t&&(!mc ty&&Nat.beq ty ty' && !yE o.dst ty)
 | _=>false
def kX(Φ:dG)(ops:Array Oper)(i L W:Nat)(σ:S)(x:Nat):Bool:=!gI (js x) ops i L W ops.size 0&&(match σ.t x with
 | .aC r _=>sy Φ ops i L W σ r
 | .gz _=>true
 | _=>false)
def Is(Φ:dG)(ops:Array Oper)(i L W:Nat)(σ:S)(o:Oper):Bool:=match o.op with
 | .fieldAddr _ (.tmp x) _=>kX Φ ops i L W σ x
 | _=>false
def It(Φ:dG)(ops:Array Oper)(i L W:Nat)(σ:S)(t:Nat):Bool:=!gI (fun ok=>js t ok && !(sx ok || Is Φ ops i L W σ ok)) ops i L W ops.size 0
def C3(Φ:dG)(ops:Array Oper)(i L W:Nat)(σ:S)(o:Oper):Bool:=match o.op with
 | .store _ (.tmp t) _=>o.dst.isNone&&It Φ ops i L W σ t&&(match σ.t t with
  | .ptr _=>false
  | _=>true)
 | _=>false
def O0(σ:S)(p:Nat->Bool)(o:Oper):Bool:=o.op.operands.toList.all fun x=>(aA σ x).nr p
def O1(σ:S)(p pb:Nat->Bool)(o:Oper):Bool:=(o.op.operands.toList.all fun x=>(aA σ x).jt p pb)&&(match o.op with
 | .load _ x=>(match aA σ x with
  | .aC r _=>!p r
  | _=>true)
 | _=>true)
def Wm(Φ:dG)(ops:Array Oper)(L:Nat)(σ:S)(i:Nat):Bool:=match ops[i]? with
 | some oi=>(eO oi.op || (match eP σ ops oi with
  | some b=>!b
  | none=>false))&&Nat.beq ((L ||| 2 ^ i) &&& waits ops i ops.size 0 0) 0&&A3 (fun oj=>Ip Φ oj.op || OY Φ ops i L (waits ops i ops.size 0 0) σ oj || C3 Φ ops i L (waits ops i ops.size 0 0) σ oj || OZ Φ ops i L (waits ops i ops.size 0 0) oj) ops oi i L (waits ops i ops.size 0 0) ops.size 0&&O1 σ (sy Φ ops i L (waits ops i ops.size 0 0) σ) (ud σ ops i L (waits ops i ops.size 0 0)) oi
 | none=>false
def wu{X:Type}(P:Program)(N:Nat)(Φ:dG)(ops:Array Oper)(L i:Nat)(σ:S)(o:Oper)(k:S->Option X):Option X:=
 match eP σ ops o with
 | some true=>cA P σ o.op fun v=>bif v.jt (sy Φ ops i L (waits ops i ops.size 0 0) σ) (ud σ ops i L (waits ops i ops.size 0 0))then ig N σ o.dst v k else none
 | some false=>ig N σ o.dst .skip k
 | none=>none
/-! A call may be taken first where all that is free beside it are new blocks. -/
def A.eO:A->Bool
 | .lf (.v _)=>true
 | .agg cs=>cs.all fun l=>match l with
  | .v _=>true
  | _=>false
 | _=>false
def O2(ops:Array Oper)(i L W:Nat)(σ:S)(o:Oper):Bool:=lO o&&(match eP σ ops o with
 | some b=>b
 | none=>false)&&(o.op.operands.toList.all fun x=>(aA σ x).eO&&(match x with
  | .tmp t=>!gI (js t) ops i L W ops.size 0
  | _=>true))&&(match o.guard with
 | some (g,_)=>(match (ops[g]?).bind (·.dst)with
  | some t=>!gI (js t) ops i L W ops.size 0
  | none=>true)
 | none=>true)
def lP(Φ:dG)(o:Oper):Bool:=match o.op with
 | .call ⟨.value (.func f),_,_⟩=>(match Φ f with
  | some (.p _)=>true
  | some (.m _)=>true
  | _=>false)
 | _=>false
def DU(o:Oper):Bool:=(match o.op with
 | .store _ (.tmp _) _=>true
 | _=>false)&&o.dst.isNone
def ue(σ:S)(o:Oper):Bool:=match o.op with
 | .store _ (.tmp t) _=>(match σ.t t with
  | .aC _ _=>true
  | _=>false)
 | _=>true
def DV(Φ:dG)(o:Oper):Bool:=lP Φ o || lO o || isApp o || DU o
def uf(σ:S)(p:Nat->Bool)(r:Nat):Bool:=match σ.m r with
 | some (.ak cs)=>cs.all (Lf.nr p)
 | _=>true
def A4(o:Oper)(n:Nat):Bool:=js n o
def Wn(Φ:dG)(ops:Array Oper)(L:Nat)(σ:S)(i:Nat):Bool:=match ops[i]? with
 | some oi=>DV Φ oi&&Nat.beq ((L ||| 2 ^ i) &&& waits ops i ops.size 0 0) 0&&A3 (O2 ops i L (waits ops i ops.size 0 0) σ) ops oi i L (waits ops i ops.size 0 0) ops.size 0 &&
   O0 σ (fun n=>gI (fun o=>A4 o n) ops i L (waits ops i ops.size 0 0) ops.size 0) oi&&(mV Φ σ oi).all (uf σ (fun n=>gI (fun o=>A4 o n) ops i L (waits ops i ops.size 0 0) ops.size 0))&&ue σ oi
 | none=>false
def kr{X:Type}(P:Program)(N:Nat)(Φ:dG)(ops:Array Oper):Nat->Nat->S->(S->Option X)->Option X
 | 0,L,σ,k=>(match (List.range ops.size).filter (kq ops L)with
  | []=>k σ
  | _=>none)
 | f+1,L,σ,k=>(match (List.range ops.size).filter (kq ops L)with
  | []=>k σ
  | [i]=>(match ops[i]? with
   | some o=>c7 P N Φ ops σ o fun aj=>mU aj o.dst (Io ops i) fun sw=>kr P N Φ ops f (L ||| 2 ^ i) sw k
   | none=>none)
  | rs=>(match rs.find? (Wm Φ ops L σ)with
   | some i=>(match ops[i]? with
    | some o=>wu P N Φ ops L i σ o fun aj=>mU aj o.dst (Io ops i) fun sw=>kr P N Φ ops f (L ||| 2 ^ i) sw k
    | none=>none)
   | none=>(match rs.find? (Wn Φ ops L σ)with
    | some i=>(match ops[i]? with
     | some o=>c7 P N Φ ops σ o fun aj=>mU aj o.dst (Io ops i) fun sw=>kr P N Φ ops f (L ||| 2 ^ i) sw k
     | none=>none)
    | none=>none)))
/-! A new slice of constants may come first,beside values and calls of contents. -/
def Iu:Op->Bool
 | .move _ | .assign _ | .load .. | .binOp .. | .unOp .. | .field .. | .fieldAddr .. | .index ..=>true
 | .call ⟨.builtin .len,_,_⟩=>true
 | _=>false
def O3(Φ:dG)(o:Oper):Bool:=Iu o.op || (match o.op with
 | .call ⟨.value (.func f),_,_⟩=>(match Φ f with
  | some (.p _)=>true
  | _=>false)
 | _=>false)
def early(Φ:dG)(ops:Array Oper)(i:Nat):Bool:=match ops[i]? with
 | some o=>(match o.op with
  | .buildSlice ..=>true
  | _=>false)&&lO o&&o.guard.isNone&&kq ops 0 i&&(o.op.operands.toList.all fun x=>match x with
  | .const _=>true
  | _=>false)&&Nat.beq ((0 ||| 2 ^ i) &&& waits ops i ops.size 0 0) 0&&A3 (O3 Φ) ops o i 0 (waits ops i ops.size 0 0) ops.size 0
 | none=>false
def ug{X:Type}(P:Program)(N:Nat)(Φ:dG)(ops:Array Oper)(σ:S)(k:S->Option X):Option X:=
 match (List.range ops.size).find? (early Φ ops)with
 | some i=>(match ops[i]? with
  | some o=>(match o.dst with
   | some e=>c7 P N Φ ops (σ.drop e) o fun aj=>kr P N Φ ops (ops.size-1) (0 ||| 2 ^ i) aj k
   | none=>none)
  | none=>none)
 | none=>kr P N Φ ops ops.size 0 σ k
structure bB where
 run:(X:Type)->S->(Exit->S->Option X)->Option X
abbrev me:=Nat->Option bB
def fZ{X:Type}(P:Program)(N:Nat)(Φ:dG)(Λ:me):Code->S->(Exit->S->Option X)->Option X
 | .skip,σ,k=>k .normal σ
 | .label _,σ,k=>k .normal σ
 | .ret,σ,k=>k .ret σ
 | .exit id,σ,k=>k (.exit id) σ
 | .region _ ops false,σ,k=>sv P N Φ ops 0 ops.toList σ fun aj=>k .normal aj
 | .region _ ops true,σ,k=>bif P.follows .mixedOrders then ug P N Φ ops σ fun aj=>k .normal aj else none
 | .seq x y,σ,k=>fZ P N Φ Λ x σ fun e aj=>match e with
  | .normal=>fZ P N Φ Λ y aj k
  | e=>k e aj
 | .cond c x y,σ,k=>match aA σ c with
  | .lf (.v (.bool b))=>bif b then fZ P N Φ Λ x σ k else fZ P N Φ Λ y σ k
  | _=>none
 | .block id c,σ,k=>match Λ id with
  | some b=>b.run X σ k
  | none=>fZ P N Φ Λ c σ fun e aj=>match e with
   | .exit oV=>if oV=id then k .normal aj else k (.exit oV) aj
   | e=>k e aj
 | _,_,_=>none
def AW(P:Program)(w0:Wd)(N:Nat)(c:Code)(σ:S)(K:Exit->S->Prop):Prop:=
 ∀ a w,R w0 N σ a w->c.wp P (fun e a' w'=>∃ aj,K e aj/\R w0 N aj a' w') a w
def occs:Code->List (Nat×Code)
 | .seq x y=>occs x++occs y
 | .cond _ x y=>occs x++occs y
 | .block id c=>(id,c) :: occs c
 | _=>[]
def bE(P:Program)(N:Nat)(c:Code)(b:bB):Prop:=∀ (X:Type) σ k (r:X) w0,b.run X σ k=some r->AW P w0 N c σ fun e aj=>k e aj=some r
def uh(P:Program)(N:Nat)(Λ:me)(l:List (Nat×Code)):Prop:=∀ p∈l,∀ b,Λ p.1=some b->bE P N (.block p.1 p.2) b
section
variable {P:Program} {w w':World} {w0:Wd} {B N:Nat} {af ax:bq} {ρ ρ':Nat->Loc} {σ:S} {a:Act} {X:Type} {d:Nat} {r:X} {o:Oper} {Φ:dG} {Λ:me}
theorem jZ.mem{aj:S}(hd:o.dst=some d)(h:∀ af ρ a w,Rl w0 N af ρ σ a w->∃ w' ax ρ' v,(execOp a.eval o).run P w = .ok (.value v) w'/\Rl w0 N ax ρ' aj (a.put (some d) v) w'):jZ P w0 N o σ aj:=by
 intro a w K Q hR hK
 obtain⟨af,ρ,hR⟩:=hR
 obtain⟨w',ax,ρ',v,aW,aT⟩:=h af ρ a w hR
 unfold Oper.wp
 rw[aW,Oper.upon_value,hd]
 exact hK _ _ ⟨ax,ρ',aT⟩
theorem fo{k:Nat->Option X}(h:dQ o k=some r):∃ d,o.dst=some d/\k d=some r:=by
 unfold dQ at h
 split at h
 ·rename_i d hd;exact⟨d,hd,h⟩
 ·cases h
theorem kY{s:Sem Value}{v:Value}(h:s.run P w = .ok v w'):(do pure (.value (<-s)):Sem Next).run P w = .ok (.value v) w':=by
 rw[Sem.run_bind,h];rfl
theorem A5{op:Op}{k:A->Option X}(h:cA P σ op k=some r):∃ v,k v=some r/\bW (fun X k=>cA (X:=X) P σ op k) v/\∀ af ρ a w (o:Oper),o.op=op->Rl w0 N af ρ σ a w->∃ u,(execOp a.eval o).run P w = .ok (.value u) w/\RA w w0.heap.size af ρ v u:=by
 unfold cA at h
 split at h
 ·rename_i x
  exact⟨_,h,fun X k=>rfl,fun af ρ a w o ho hR=>⟨a.eval x,by simp[execOp,ho],hR.aA x⟩⟩
 ·rename_i x
  exact⟨_,h,fun X k=>rfl,fun af ρ a w o ho hR=>⟨a.eval x,by simp[execOp,ho],hR.aA x⟩⟩
 ·rename_i c x y
  split at h
  ·rename_i b hb
   refine⟨bif b then aA σ x else aA σ y,by cases b <;>exact h,fun X k=>by simp only[cA,hb];cases b <;>rfl,fun af ρ a w o ho hR=>?_⟩
   have hc:=hR.aA c
   rw[hb]at hc
   have hv:=hc.2.vC
   cases b with
   | true=>exact⟨a.eval x,by simp[execOp,ho,hv,asBool],hR.aA x⟩
   | false=>exact⟨a.eval y,by simp[execOp,ho,hv,asBool],hR.aA y⟩
  ·cases h
 ·rename_i t parts
  obtain⟨y,h1,hd⟩:=ai2 h
  obtain⟨y',de,hs⟩:=ah2 (w0:=w0) (N:=N) (k:=fun z=>some z) (r:=y) (hd.at_ _)
  injection de with de
  subst de
  refine⟨_,h1,fun X k=>hd.at_ _,fun af ρ a w o ho hR=>?_⟩
  obtain⟨v,aW,aT⟩:=hs af ρ a w hR
  exact⟨v,by simp only[execOp,ho];exact kY aW,aT⟩
 ·rename_i t x
  obtain⟨y,h1,hd⟩:=DH h
  obtain⟨y',de,hs⟩:=UI (w0:=w0) (N:=N) (k:=fun z=>some z) (r:=y) (hd.at_ _)
  injection de with de
  subst de
  refine⟨_,h1,fun X k=>hd.at_ _,fun af ρ a w o ho hR=>?_⟩
  obtain⟨v,aW,aT⟩:=hs af ρ a w hR _ (hR.aA x)
  exact⟨v,by simp only[execOp,ho];exact kY aW,aT⟩
 ·rename_i op t x y yt
  obtain⟨z,h1,hd⟩:=aiX h
  obtain⟨z',de,hs⟩:=aie (w0:=w0) (N:=N) (k:=fun z=>some z) (r:=z) (hd.at_ _)
  injection de with de
  subst de
  refine⟨_,h1,fun X k=>hd.at_ _,fun af ρ a w o ho hR=>?_⟩
  obtain⟨t',aW,hr⟩:=hs af ρ a w hR x y _ _ (hR.aA x) (hR.aA y)
  exact⟨t',by simp only[execOp,ho];exact kY aW,hr⟩
 ·rename_i op t x
  obtain⟨u,h1,xQ⟩:=AY h
  obtain⟨z,h3,yg⟩:=VQ h1
  obtain⟨u',hx,de⟩:=Hw (k:=fun z=>some z) (r:=u) (xQ.at_ _)
  injection de with de
  subst de
  obtain⟨z',xR,hp,hs⟩:=ahH (P:=P) (k:=fun z=>some z) (r:=z) (yg.at_ _)
  injection xR with xR
  subst xR
  refine⟨_,h3,fun X k=>(xQ.at_ _).trans (yg.at_ _),fun af ρ a w o ho hR=>?_⟩
  have h1:=hR.aA x
  rw[hx]at h1
  obtain⟨t',aW,hr⟩:=hs w _ af [] _ h1.2
  exact⟨t',by simp only[execOp,ho];exact kY aW,V.C7 hp,hr⟩
 ·rename_i s d' x
  obtain⟨y,h1,hd⟩:=ai6 h
  obtain⟨y',de,hs⟩:=aia (w0:=w0) (N:=N) (k:=fun z=>some z) (r:=y) (hd.at_ _)
  injection de with de
  subst de
  refine⟨_,h1,fun X k=>hd.at_ _,fun af ρ a w o ho hR=>?_⟩
  obtain⟨v,aW,aT⟩:=hs af ρ a w hR _ (hR.aA x)
  exact⟨v,by simp only[execOp,ho];exact kY aW,aT⟩
 ·rename_i s x f
  obtain⟨y,h1,hd⟩:=aiY h
  obtain⟨y',de,hs⟩:=ahK (k:=fun z=>some z) (r:=y) (hd.at_ _)
  injection de with de
  subst de
  refine⟨_,h1,fun X k=>hd.at_ _,fun af ρ a w o ho hR=>?_⟩
  obtain⟨v,aW,aT⟩:=hs w _ af ρ _ (hR.aA x)
  exact⟨v,by simp only[execOp,ho];exact kY aW,aT⟩
 ·rename_i s x f
  obtain⟨y,h1,hd⟩:=ai3 h
  obtain⟨y',de,hs⟩:=aib (k:=fun z=>some z) (r:=y) (hd.at_ _)
  injection de with de
  subst de
  refine⟨_,h1,fun X k=>hd.at_ _,fun af ρ a w o ho hR=>?_⟩
  obtain⟨v,aW,aT⟩:=hs w _ af ρ _ (hR.aA x)
  exact⟨v,by simp only[execOp,ho];exact kY aW,aT⟩
 ·rename_i t x i
  obtain⟨y,h1,hd⟩:=aiZ h
  obtain⟨y',de,hs⟩:=ahL (w0:=w0) (N:=N) (k:=fun z=>some z) (r:=y) (hd.at_ _)
  injection de with de
  subst de
  refine⟨_,h1,fun X k=>hd.at_ _,fun af ρ a w o ho hR=>?_⟩
  obtain⟨v,aW,aT⟩:=hs af ρ a w hR _ _ (hR.aA x) (hR.aA i)
  exact⟨v,by simp only[execOp,ho];exact kY aW,aT⟩
 ·rename_i t x i
  obtain⟨y,h1,hd⟩:=ai4 h
  obtain⟨y',de,hs⟩:=ah9 (k:=fun z=>some z) (r:=y) (hd.at_ _)
  injection de with de
  subst de
  refine⟨_,h1,fun X k=>hd.at_ _,fun af ρ a w o ho hR=>?_⟩
  obtain⟨v,aW,aT⟩:=hs w _ af ρ _ _ (hR.aA x) (hR.aA i)
  exact⟨v,by simp only[execOp,ho];exact kY aW,aT⟩
 ·rename_i x i
  obtain⟨y,h1,hd⟩:=ai1 h
  obtain⟨y',de,hs⟩:=ahN (P:=P) (k:=fun z=>some z) (r:=y) (hd.at_ _)
  injection de with de
  subst de
  refine⟨_,h1,fun X k=>hd.at_ _,fun af ρ a w o ho hR=>?_⟩
  obtain⟨v,aW,aT⟩:=hs w _ af ρ _ (hR.aA x)
  exact⟨v,by simp only[execOp,ho];exact kY aW,aT⟩
 ·rename_i x
  obtain⟨h1,hd,hs⟩:=VY (w:=default) (B:=0) (af:=fun _=>none) (ρ:=fun _=>.dJ undef) h
  refine⟨_,h1,fun X k=>hd.at_ _,fun af ρ a w o ho hR=>?_⟩
  obtain⟨_,_,hs⟩:=VY (w:=w) (B:=w0.heap.size) (af:=af) (ρ:=ρ) h
  obtain⟨ad,hu⟩:=hs _ (hR.aA x)
  refine⟨a.eval x,?_,hR.aA x⟩
  simp only[execOp,ho,hu]
  rfl
 ·rename_i x t
  obtain⟨y,h1,hd⟩:=ai0 h
  refine⟨_,h1,fun X k=>hd.at_ _,fun af ρ a w o ho hR=>?_⟩
  obtain⟨y',de,hs⟩:=ahM (w0:=w0) (N:=N) (ty:=o.type) (k:=fun z=>some z) (r:=y) (hd.at_ _)
  injection de with de
  subst de
  obtain⟨v,aW,aT⟩:=hs af ρ a w hR _ (hR.aA x)
  exact⟨v,by simp only[execOp,ho,resolve,Sem.run_bind,Sem.run_pure,Result.andThen_ok,invoke,builtin,List.map_toArray,List.map_cons,List.map_nil];rw[aW];rfl,aT⟩
 ·rename_i x y t t'
  obtain⟨z,h1,hd⟩:=VR h
  obtain⟨z',de,hs⟩:=U4 (P:=P) (k:=fun z=>some z) (r:=z) (hd.at_ _)
  injection de with de
  subst de
  refine⟨_,h1,fun X k=>hd.at_ _,fun af ρ a w o ho hR=>?_⟩
  obtain⟨v,aW,aT⟩:=hs w _ af ρ t o.type _ _ (hR.aA x) (hR.aA y)
  refine⟨v,?_,aT⟩
  simp only[execOp,ho,resolve,Sem.run_bind,Sem.run_pure,Result.andThen_ok,invoke,builtin,List.map_toArray,List.map_cons,List.map_nil]
  have aW:(Builtin.max_ #[t,t'] o.type #[a.eval x,a.eval y]).run P w = .ok v w:=aW
  rw[aW];rfl
 ·rename_i x y t t'
  obtain⟨z,h1,hd⟩:=VR h
  obtain⟨z',de,hs⟩:=U4 (P:=P) (k:=fun z=>some z) (r:=z) (hd.at_ _)
  injection de with de
  subst de
  refine⟨_,h1,fun X k=>hd.at_ _,fun af ρ a w o ho hR=>?_⟩
  obtain⟨v,aW,aT⟩:=hs w _ af ρ t o.type _ _ (hR.aA x) (hR.aA y)
  refine⟨v,?_,aT⟩
  simp only[execOp,ho,resolve,Sem.run_bind,Sem.run_pure,Result.andThen_ok,invoke,builtin,List.map_toArray,List.map_cons,List.map_nil]
  have aW:(Builtin.min_ #[t,t'] o.type #[a.eval x,a.eval y]).run P w = .ok v w:=aW
  rw[aW];rfl
 ·rename_i t x lo hi
  obtain⟨y,h1,hd⟩:=ai7 h
  obtain⟨y',de,hs⟩:=aih (w0:=w0) (N:=N) (k:=fun z=>some z) (r:=y) (hd.at_ _)
  injection de with de
  subst de
  refine⟨_,h1,fun X k=>hd.at_ _,fun af ρ a w o ho hR=>?_⟩
  have ob:∀ z:Option Operand,(∀ b,z.map (aA σ)=some b->∃ v,z.map a.eval=some v/\RA w w0.heap.size af ρ b v)/\(z.map (aA σ)=none->z.map a.eval=none):=by
   intro z
   cases z with
   | none=>exact⟨fun b hb=>(by cases hb),fun _=>rfl⟩
   | some z=>exact⟨fun b hb=>(by cases hb;exact⟨_,rfl,hR.aA z⟩),fun hb=>(by cases hb)⟩
  obtain⟨v,aW,hr⟩:=hs af ρ a w hR _ _ _ (hR.aA x) (ob lo).1 (ob lo).2 (ob hi).1 (ob hi).2
  exact⟨v,by simp only[execOp,ho];exact kY aW,hr⟩
 ·cases h
theorem ajN{k:S->Option X}(bI:fO P Φ)(h:gH P N Φ σ o k=some r):∃ aj,k aj=some r/\jZ P w0 N o σ aj:=by
 unfold gH at h
 split at h
 ·rename_i e ho
  obtain⟨d,hd,h⟩:=fo h
  obtain⟨aj,h,hs⟩:=ahV (w0:=w0) h
  refine⟨aj,h,.mem hd fun af ρ a w hR=>?_⟩
  obtain⟨w',ax,ρ',v,aW,aT⟩:=hs af ρ a w hR
  exact⟨w',ax,ρ',v,by simp only[execOp,ho];exact kY aW,aT⟩
 ·rename_i e x ho
  obtain⟨d,hd,h⟩:=fo h
  obtain⟨aj,h,hs⟩:=ajb (w0:=w0) (e:=e) h
  refine⟨aj,h,.mem hd fun af ρ a w hR=>?_⟩
  obtain⟨w',ax,ρ',v,aW,aT⟩:=hs af ρ a w hR _ (hR.aA x)
  exact⟨w',ax,ρ',v,by simp only[execOp,ho];exact kY aW,aT⟩
 ·rename_i t len parts ho
  obtain⟨d,hd,h⟩:=fo h
  cases hn:mc t with
  | true=>
   rw[hn,cond_true]at h
   obtain⟨aj,h,hs⟩:=ajc (w0:=w0) h
   refine⟨aj,h,.mem hd fun af ρ a w hR=>?_⟩
   obtain⟨w',ax,ρ',v,aW,aT⟩:=hs af ρ a w hR
   exact⟨w',ax,ρ',v,by simp only[execOp,ho];exact kY aW,aT⟩
  | false=>
   rw[hn,cond_false]at h
   obtain⟨aj,h,hs⟩:=ah7 (w0:=w0) h
   refine⟨aj,h,.mem hd fun af ρ a w hR=>?_⟩
   obtain⟨w',ax,ρ',v,aW,aT⟩:=hs af ρ a w hR
   exact⟨w',ax,ρ',v,by simp only[execOp,ho];exact kY aW,aT⟩
 ·rename_i t x y ho
  split at h
  ·rename_i hd
   cases hn:yl (aA σ x) (aA σ y)with
   | true=>
    rw[hn,cond_true]at h
    obtain⟨aj,h,hs⟩:=aji (w0:=w0) (N:=N) h
    refine⟨aj,h,fun a w K Q hR hK=>?_⟩
    obtain⟨af,ρ,hR⟩:=hR
    obtain⟨w',ax,aW,aT⟩:=hs af ρ a w hR _ _ (hR.aA x) (hR.aA y)
    have:(execOp a.eval o).run P w = .ok .skip w':=by
     simp only[execOp,ho]
     rw[Sem.run_bind,aW];rfl
    unfold Oper.wp
    rw[this,Oper.upon_skip,hd]
    exact hK _ _ ⟨ax,ρ,aT⟩
   | false=>
    rw[hn,cond_false]at h
    obtain⟨aj,h,hs⟩:=UK (w0:=w0) (N:=N) h
    refine⟨aj,h,fun a w K Q hR hK=>?_⟩
    obtain⟨af,ρ,hR⟩:=hR
    obtain⟨w',aW,aT⟩:=hs af ρ a w hR _ _ (hR.aA x) (hR.aA y)
    have:(execOp a.eval o).run P w = .ok .skip w':=by
     simp only[execOp,ho]
     rw[Sem.run_bind,aW];rfl
    unfold Oper.wp
    rw[this,Oper.upon_skip,hd]
    exact hK _ _ ⟨af,ρ,aT⟩
  ·cases h
 ·rename_i t l c ho
  obtain⟨d,hd,h⟩:=fo h
  obtain⟨aj,h,hs⟩:=ahX (w0:=w0) h
  refine⟨aj,h,.mem hd fun af ρ a w hR=>?_⟩
  obtain⟨w',ax,ρ',v,aW,aT⟩:=hs af ρ a w hR _ _ (hR.aA l) (hR.aA c)
  exact⟨w',ax,ρ',v,by simp only[execOp,ho];exact kY aW,aT⟩
 ·rename_i f args cO ho
  split at h
  ·rename_i c hc
   obtain⟨d,hd,h⟩:=fo h
   obtain⟨he,dx⟩:=bI f _ hc
   exact ail ho hd he dx h
  ·rename_i c hc
   obtain⟨he,dx⟩:=bI f _ hc
   exact aiD ho he dx h
  ·rename_i c hc
   obtain⟨d,hd,h⟩:=fo h
   obtain⟨he,dx⟩:=bI f _ hc
   exact ajm ho hd he dx h
  ·rename_i F hc
   obtain⟨d,hd,h⟩:=fo h
   obtain⟨he,dx⟩:=bI f _ hc
   split at h
   ·rename_i x hx
    exact ajl ho hx hd he dx h
   ·cases h
  ·rename_i c hc
   obtain⟨he,dx⟩:=bI f _ hc
   exact Wa (ex:=[]) ho rfl he dx h
  ·rename_i c hc
   obtain⟨he,dx⟩:=bI f _ hc
   exact aiJ ho he dx h
  ·rename_i c hc
   obtain⟨d,hd,h⟩:=fo h
   obtain⟨he,dx⟩:=bI f _ hc
   exact aim ho hd he dx h
  ·rename_i c hc
   obtain⟨he,dx⟩:=bI f _ hc
   exact ajt ho he dx h
  ·cases h
 ·rename_i x y t t' ho
  cases fE:Nat.beq t t' with
  | false=>
   rw[fE,cond_false]at h
   obtain⟨d,hd,h⟩:=fo h
   obtain⟨aj,h,hs⟩:=ajD (w0:=w0) (ty:=o.type) h
   refine⟨aj,h,.mem hd fun af ρ a w hR=>?_⟩
   obtain⟨w',ax,ρ',v,aW,aT⟩:=hs af ρ a w hR _ _ (hR.aA x) (hR.aA y)
   refine⟨w',ax,ρ',v,?_,aT⟩
   simp only[execOp,ho,resolve,Sem.run_bind,Sem.run_pure,Result.andThen_ok,invoke,builtin,List.map_toArray,List.map_cons,List.map_nil]
   rw[aW];rfl
  | true=>
   rw[fE,cond_true]at h
   obtain rfl:=Nat.eq_of_beq_eq_true fE
   obtain⟨d,hd,h⟩:=fo h
   have hh:∃ aj,k aj=some r/\∀ af ρ a w,Rl w0 N af ρ σ a w->∀ u v,RA w w0.heap.size af ρ (aA σ x) u->RA w w0.heap.size af ρ (aA σ y) v->
     ∃ w' ax ρ' z,(Builtin.append_ #[t,t] o.type #[u,v]).run P w = .ok z w'/\Rl w0 N ax ρ' aj (a.put (some d) z) w':=by
    cases hn:mc t with
    | true=>rw[hn,cond_true]at h;exact ajg h
    | false=>
     rw[hn,cond_false]at h
     cases hk:DR t d with
     | true=>rw[hk,cond_true]at h;exact ajK h
     | false=>rw[hk,cond_false]at h;exact ahZ h
   obtain⟨aj,h,hs⟩:=hh
   refine⟨aj,h,.mem hd fun af ρ a w hR=>?_⟩
   obtain⟨w',ax,ρ',v,aW,aT⟩:=hs af ρ a w hR _ _ (hR.aA x) (hR.aA y)
   refine⟨w',ax,ρ',v,?_,aT⟩
   simp only[execOp,ho,resolve,Sem.run_bind,Sem.run_pure,Result.andThen_ok,invoke,builtin,List.map_toArray,List.map_cons,List.map_nil]
   rw[aW];rfl
 ·rename_i t ho
  obtain⟨d,hd,h⟩:=fo h
  obtain⟨aj,h,hs⟩:=ajF (w0:=w0) (t:=t) (P:=P) h
  refine⟨aj,h,.mem hd fun af ρ a w hR=>?_⟩
  obtain⟨w',ax,ρ',v,aW,aT⟩:=hs af ρ a w hR
  exact⟨w',ax,ρ',v,by simp only[execOp,ho];exact kY aW,aT⟩
 ·rename_i t x i ho
  obtain⟨v,h1,_,hs⟩:=Wh (w0:=w0) (N:=N) h
  refine jZ.val h1 fun af ρ a w hR=>?_
  obtain⟨y,aW,aT⟩:=hs af ρ a w hR _ _ (hR.aA x) (hR.aA i)
  exact⟨y,by simp only[execOp,ho];exact kY aW,aT⟩
 ·rename_i t x i v ho
  split at h
  ·rename_i hd
   obtain⟨aj,h,_,hs⟩:=Wj (w0:=w0) (N:=N) h
   refine⟨aj,h,fun a w K Q hR hK=>?_⟩
   obtain⟨af,ρ,hR⟩:=hR
   obtain⟨w',aW,aT⟩:=hs af ρ a w hR _ _ _ (hR.aA x) (hR.aA i) (hR.aA v)
   have:(execOp a.eval o).run P w = .ok .skip w':=by
    simp only[execOp,ho]
    rw[Sem.run_bind,aW];rfl
   unfold Oper.wp
   rw[this,Oper.upon_skip,hd]
   exact hK _ _ ⟨af,ρ,aT⟩
  ·cases h
 ·rename_i t args cO ho
  split at h
  ·rename_i f cap dg
   split at h
   ·rename_i c hc
    obtain⟨he,dx⟩:=bI f _ hc
    exact Wa ho dg he dx h
   ·cases h
  ·cases h
 ·rename_i f DS ho
  split at h
  ·rename_i ps gF
   obtain⟨h1,h2⟩:=Wb (w0:=w0) (N:=N) _ _ gF
   refine jZ.val h fun af ρ a w hR=>⟨.func (.func f) #[] (DS.map a.eval),by simp[execOp,ho,Instr.makeFunc],_,rfl,by simp[h1],fun j p hp=>?_⟩
   obtain⟨b,off,e1,e2⟩:=h2 af ρ a w hR j p hp
   exact⟨b,off,e1,by simpa using e2⟩
  ·cases h
 ·cases h
theorem Iv{k:S->Option X}(bI:fO P Φ)(h:cM P N Φ σ o k=some r):∃ aj,k aj=some r/\jZ P w0 N o σ aj:=by
 unfold cM at h
 cases hv:eO o.op with
 | true=>
  rw[hv,cond_true]at h
  obtain⟨v,h1,_,hs⟩:=A5 (w0:=w0) (N:=N) h
  exact jZ.val h1 fun af ρ a w hR=>hs af ρ a w o rfl hR
 | false=>
  rw[hv,cond_false]at h
  exact ajN bI h
theorem ajO{k:S->Option X}(bI:fO P Φ)(h:n5 P N Φ σ o k=some r):∃ aj,k aj=some r/\jZ P w0 N o σ aj:=by
 unfold n5 at h
 split at h
 ·rename_i t x y ho hd
  split at h
  ·rename_i q s i j hy
   obtain⟨aj,h1,hs⟩:=ajv (w0:=w0) (N:=N) h
   refine⟨aj,h1,fun a w K Q hR hK=>?_⟩
   obtain⟨af,ρ,hR⟩:=hR
   have hv:=hR.aA y
   rw[hy]at hv
   obtain⟨w',ax,aW,aT⟩:=hs af ρ a w hR _ _ (hR.aA x) hv
   have:(execOp a.eval o).run P w = .ok .skip w':=by
    simp only[execOp,ho]
    rw[Sem.run_bind,aW];rfl
   unfold Oper.wp
   rw[this,Oper.upon_skip,hd]
   exact hK _ _ ⟨ax,ρ,aT⟩
  ·exact Iv bI h
 ·obtain⟨aj,h1,hs⟩:=Iv (w0:=w0) bI h
  exact⟨aj,h1,fun a w K Q hR hK=>hs a w K Q hR.A0 hK⟩
 ·exact Iv bI h
end
end Go.Proofs.YtinbifpbkcbnkaaGreat
