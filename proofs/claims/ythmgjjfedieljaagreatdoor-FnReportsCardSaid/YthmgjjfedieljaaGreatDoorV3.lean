/-
  Running the program over pure contents, and that it follows (part 3). Nothing here is a claim.
-/
import Derived.Lib.AppendStr
import Derived.MapKept
import Derived.Test.YthmgjjfedieljaaGreatDoorV2
set_option linter.unusedSimpArgs false
namespace Go.Proofs.YthmgjjfedieljaaGreatDoor
set_option linter.defProp false
open Go.RowKit
set_option linter.unusedVariables false
def dT:Nat:=89999
def oy(lab:bg)(k:aa Nat):bg:=λb=>match lab b with
 |some q=>bif k.isSuffixOf q then some (q.take (q.length-k.length)++[dT])else bif cF dT q then none else some q
 |none=>none
def Qn(σ:S)(c:lV)(args:aa Operand)(q:Nat):Bool:=match iC σ c.ps args with
 |some C=>!cI q ((jF 0 C).map (·.1))&&C.any λD=>Nat.beq D.root dT
 |none=>false
def Ff{X:Type}(N:Nat)(σ:S)(E:ah Tmp)(c:lV)(args:aa Operand)(k:S->ah X):ah X:=
 match args with
 | .tmp t :: _=>(match σ.t t with
  | .lf (.own [j,i,s,q])=>(match σ.m q with
   | some (.sl (.sl C (o+2) F l))=>if s=aA C then (if hi:i<l.length then (match (enc C o l[i])[j]? with
    | some y=>bif Nat.ble N 20000&&Nat.ble 20000 q&&Nat.blt q 60000&&Qn ((σ.cL [q,dT] [dT] [(dT,.sl y)]).set t (.lf (.own [dT]))) c args q then mE N ((σ.cL [q,dT] [dT] [(dT,.sl y)]).set t (.lf (.own [dT]))) E c args λD=>(match D.m dT with
      | some (.sl I)=>(match dec C o (cP (enc C o l[i]) j [I])with
       |some e=>k ((D.drop dT).root q (.sl (.sl C (o+2) F (l.set i e))))
       |none=>none)
      |_=>none)else none
    |none=>none)else none)else none
   |_=>none)
  |_=>none)
 |_=>none
section
variable {P:Program} {w w':World} {w0:Wd} {B N:Nat} {lab cT ax:bg} {ρ eB ρ':Nat->Loc} {σ:S} {a:Act} {X:Type} {d:Nat} {r:X} {o:Oper} {K:aa Nat} {m:Nat->ah aM}
def Kh{b:Nat}(h:lab b=none):oy lab K b=none:=by simp[oy,h]
def ahP{b:Nat}{p:aa Nat}(h:lab b=some (p++K)):oy lab K b=some (p++[dT]):=by
 have C:K.isSuffixOf _=true:=List.isSuffixOf_iff_suffix.2 ⟨p,rfl⟩;simp[oy,h,C]
def Qo{b:Nat}{k:aa Nat}(h:lab b=some k)(C:¬ K <:+ k)(D:cF dT k=false):oy lab K b=some k:=by
 have C:K.isSuffixOf k=false:=by
  grind
 simp[oy,h,C,D]
def RV.cut{k:aa Nat}{x:V}{v:Value}(h:RV w B lab k x v)(p:aa Nat)(D:k=p++K\/x.aF=true):RV w B (oy lab K) (p++[dT]) x v:=
 h.map (Q:=λk C=>∃ p,k=p++K/\C=p++[dT]) (c9 _) (λb _ h=>⟨rfl,Kh h⟩) (λb k C _ hl e=>by
  obtain⟨p,rfl,rfl⟩:=e;exact⟨rfl,ahP hl,λj i s=>⟨j::i::s::p,rfl,rfl⟩⟩) (D.symm.imp_right λh=>⟨p,h,rfl⟩)
def RV.ahQ{k:aa Nat}{x:V}{v:Value}(h:RV w B lab k x v)(F:∀ b,lab b≠some [])(I:((∀ p,¬ K <:+ p++k)/\cF dT k=false)\/x.aF=true):RV w B (oy lab K) k x v:=
 h.map (Q:=λk C=>k=C/\(∀ p,¬ K <:+ p++k)/\cF dT k=false) (c9 _) (λb _ h=>⟨rfl,Kh h⟩) (λb k C _ hl e=>by
  obtain⟨rfl,D,E⟩:=e
  refine⟨rfl,Qo hl (D []) E,λj i s=>⟨rfl,λp=>?_,?_⟩⟩
  ·have:=D (p++[j,i,s])
   rwa [List.append_assoc]at this
  ·rw[JK (by rintro rfl;exact F b hl)];exact E) (I.symm.imp_right λh=>⟨rfl,h⟩)
def Rl.ahR{t:Nat}{x:A}(h:Rl w0 N lab ρ σ a w)(D:RA w w0.heap.size lab ρ x (a.tmps.getD t undef)):Rl w0 N lab ρ (σ.set t x) a w:=by
 refine⟨h.below,h.cE,h.root,λk=>?_,h.size,h.defers,h.fix,h.cY⟩
 show RA w _ lab ρ (bE σ.t t x k) _;by_cases C:k=t
 ·subst C;rw[bF];exact D
 ·rw[bZ _ _ _ C];exact h.tmp k
def Rl.ahS{q:Nat}{x:aM}(h:Rl w0 N lab ρ σ a w)(E:dz w w0.heap.size lab ρ q x):Rl w0 N lab ρ (σ.root q x) a w:=by
 refine⟨h.below,h.cE,λr y C=>?_,h.tmp,h.size,h.defers,h.fix,h.cY⟩
 have C:bE σ.m q _ r=some y:=C;by_cases D:r=q
 ·subst D;rw[bF]at C;simp_all
 ·rw[bZ _ _ _ D]at C;exact h.root r y C
def gQ.ahT(h:Rl w0 N lab ρ σ a w):gQ w0 w w:=⟨rfl,rfl,rfl,c9 _,λ_ _ _=>rfl⟩
def ahU{f:Nat}{args:Array Operand}{iO:Array TypeId}{c:lV}{k:S -> ah X}(ho:o.op = .call { callee:=.value (.func f),args,argTypes:=iO })(he:enters P f)(hc:th P f c)(h:Ff N σ o.dst c args.toList k=some r):∃ cN,k cN=some r/\jA P w0 N o σ cN:=by
 unfold Ff at h;split at h
 ·rename_i t rest nQ;split at h
  ·rename_i j i s q ht;split at h
   ·rename_i E oo qn l hm;split at h
    ·rename_i hs;subst hs;split at h
     ·rename_i hi;split at h
      ·rename_i y hy;generalize ahV:((σ.cL [q,dT] [dT] [(dT,.sl y)]).set t (.lf (.own [dT])))=oz at h;cases hb:(Nat.ble N 20000&&Nat.ble 20000 q&&Nat.blt q 60000&&Qn oz c args.toList q)with
       |false=>rw[hb]at h;cases h
       | true=>
        rw[hb,aj]at h;simp only[aH]at hb;obtain⟨⟨⟨hN,B0⟩,zB⟩,Ki⟩:=hb;have hN:=cr hN;have B0:=cr B0;have zB:q<60000:=cr zB;obtain⟨τ,WS,cn,U,rU,nP,xw,EZ⟩:=Qj (w0:=w0) ho he hc h;clear h;unfold Qn at Ki;rw[rU]at Ki;simp only[aH,gi]at Ki;obtain⟨BZ,hdT⟩:=Ki;obtain⟨mu,lW,Qp⟩:=List.any_eq_true.1 hdT;have Qp:=cv Qp;have ahW:cI dT cn=false:=by rw[<- Qp];exact xw mu lW
        have ahX:cI q cn=false:=by
         cases D:cI q cn with
         |false=>rfl
         |true=>have:=nP q D;omega
        have Qq:q≠dT:=by unfold dT;omega
        split at U
        ·rename_i y' EO;split at U
         ·rename_i e ahY
          refine⟨_,U,λa w KK Q hR hK=>?_⟩
          obtain⟨lab,ρ,hR⟩:=hR;have cS:=hR.uP;have ahZ:w0.F dT=none:=hR.cY dT (.inr (by decide));have eM:=hR.root q _ hm;generalize D:aM.sl (.sl E (oo+2) qn l)=x at eM;cases eM with
          |blk=>cases D
          |mp=>cases D
          |gh=>cases D
          | sl v yq cD hr=>
           injection D with D;subst D;cases hr with
           |dN=>simp at hi
           |eX=>simp at hi
           |fB=>simp at hi
           |aF _ _ _ _ _ _ _ _ _ ho=>omega
           | own _ _ _ _ _ b cap cs u hl hh hs Z qm WT ov=>
            have hKv:uH σ.m [j,i,aA E,q] y:=.elem j i [q] E oo qn l y (.root q _ hm) hi hy;obtain⟨Y,JU,ah0⟩:=hKv.ok hR.root;have uY:=hR.tmp t;rw[ht]at uY;have iX:a.tmps.getD t undef=Y:=by
             have h2:=uY.2;rw[JU]at h2;injection h2 with h2;exact h2.symm
            have ah1:Y=u i j:=by
             have h3:cC w lab ρ [j,i,aA E,q]=some (u i j):=by
              rw[JA,zg j i _ (show cC w lab ρ [q]=some (.slice (some ⟨b,0,none⟩) l.length cap) by simp[cC,cD]) hl];show w.cell? _=_;rw[cell_of_row w b _ cs _ _ hh];simp[*]
             rw[JU]at h3;injection h3
            have fo:jy Y=true:=by rw[<- iX];exact uY.1
            -- the state that the callee's caller sees
            have PY:∀ k:aa Nat,fh k [q,dT]=false -> cF q k=false/\cF dT k=false:=by
             intro k U;unfold fh at U;unfold cF;split at U
             next z O=>rw[O];have:=Wt U;simp only[fH,List.not_mem_nil,not_or]at this;exact⟨by simpa using this.1,by simpa using this.2⟩
             next O=>rw[O];exact⟨rfl,rfl⟩
            have hKq:∀ k:aa Nat,[j,i,aA E,q] <:+ k -> cF q k=true:=by
             rintro k ⟨p,rfl⟩;simp[cF]
            have ER:rQ w w lab (oy lab [j,i,aA E,q]) ρ (bE ρ dT (.cO Y)) [q,dT] [dT]:=by
             refine⟨c9 _,λI Fg C=>⟨rfl,?_⟩,λn Z=>?_,λI k C=>(hR.cE I k C).2⟩
             ·cases L:lab I with
              |none=>exact Kh L
              | some k=>
               obtain⟨g1,g2⟩:=PY k (C k L);exact Qo L (λnJ=>by rw[hKq k nJ]at g1;cases g1) g2
             ·refine bZ _ _ _ ?_;rintro rfl;simp[cI]at Z
            have uU:∀ I k,oy lab [j,i,aA E,q] I=some k -> (∃ T,lab I=some T)/\k≠[]:=by
             intro I k C;cases L:lab I with
             |none=>rw[Kh L]at C;cases C
             | some T=>
              refine⟨⟨T,rfl⟩,?_⟩;unfold oy at C;rw[L]at C;simp only at C;cases h1:List.isSuffixOf [j,i,aA E,q] T with
              | true=>
               rw[h1,aj]at C;injection C with C;rw[<- C];simp
              | false=>
               rw[h1,au]at C;cases h2:cF dT T with
               |true=>rw[h2,aj]at C;cases C
               | false=>
                rw[h2,au]at C;injection C with C;rw[<- C];exact(hR.cE I T L).2.2
            have qE:Rl w0 N (oy lab [j,i,aA E,q]) (bE ρ dT (.cO Y)) (σ.cL [q,dT] [dT] [(dT,.sl y)]) a w:=by
             refine hR.rR ER (gQ.ahT hR) (λI k C=>?_) (λn Z=>?_) (λn z O=>?_)
             ·obtain⟨⟨T,L⟩,Qr⟩:=uU I k C;have:=hR.cE I T L;exact⟨this.1,this.2.1,Qr⟩
             ·have:n=dT:=by simpa [cI]using Z
              rw[this];exact ahZ
             ·have Z:n=dT/\z = .sl y:=by
               rw[List.lookup_cons]at O;cases Qs:(n==dT)with
               |false=>rw[Qs]at O;cases O
               | true=>
                rw[Qs]at O;injection O with O;exact⟨by simpa using Qs,O.symm⟩
              obtain⟨rfl,rfl⟩:=Z;exact .sl Y y (bF _ _ _) (ah0.cut [] (.inl rfl))
            have jD:Rl w0 N (oy lab [j,i,aA E,q]) (bE ρ dT (.cO Y)) oz a w:=by
             rw[<- ahV];refine qE.ahR ?_;rw[iX];exact⟨fo,by simp only[cC,bF]⟩
            refine EZ a w KK Q _ _ jD λvv w' cT eB tC Fe uX o8 vf=>?_
            -- behind the call
            have rO:90000 <= gy o.dst:=by unfold gy;split<;>omega
            have ah2:tC dT = .cO Y:=by
             rw[vf dT (by unfold dT;omega),uX.eA dT ahW,bF]
            have ah3:tC q = .cO (.slice (some ⟨b,0,none⟩) l.length cap):=by
             rw[vf q (by omega),uX.eA q ahX,bZ _ _ _ Qq,cD]
            have eM:=Fe.root dT _ EO;generalize D:aM.sl y'=x at eM;cases eM with
            |blk=>cases D
            |mp=>cases D
            |gh=>cases D
            | sl v' y'' gS fC=>
             injection D with D;subst D;rw[ah2]at gS;injection gS with gS;subst gS;have Qt:=Fe.uP;have hrel:Rel dT cT (cT.ga dT [j,i,aA E,q]):=EC Qt;have WU:cF dT [q]=false:=by simpa [cF]using λe=>Qq e
             have Cl:oy lab [j,i,aA E,q] b=some [q]:=Qo hl (λnJ=>by have:=nJ.length_le;simp at this) WU;have ah4:fh [q] ((jF 0 WS).map (·.1))=false:=BZ;obtain⟨g1,g2⟩:=uX.same b (uX.lab b _ Cl).1 (λk C=>by rw[Cl]at C;injection C with C;subst C;exact ah4);have ah5:cT b=some [q]:=g2.trans Cl;have ah6:cT.ga dT [j,i,aA E,q] b=some [q]:=hrel.jz b _ ah5 WU;have hR4:=Fe.rel hrel (λI k C=>by
              unfold bg.ga at C;cases L:cT I with
              |none=>rw[L]at C;cases C
              | some T=>
               rw[L]at C;injection C with C;subst C;exact⟨⟨T,rfl⟩,VV (by simp) (λe=>Qt I (by rw[L,e]))⟩)
             refine hK _ _ ⟨_,tC,hR4.ahS (.sl _ _ ah3 ?_)⟩;have hj:j<aA E:=by
              have:=(de.1 hy).1
              rwa [jT]at this
             refine RV.JE (w':=w') (cs:=cs) (xs:=[y']) (u:=u) (us:=u) ah6 (g1.trans hh) hs Z qm hi (show j+1 <= aA E from hj) ahY (λi' Fh j' x D hij=>⟨WT i' Fh j' x D,?_⟩) (λn x D=>?_)
             ·have Qu:=ov i' Fh j' x D;have ah7:¬ (i'=i/\j'=j):=λe=>hij ⟨e.1,by simp;omega⟩
              have WV:cF dT [j',i',aA E,q]=false:=by simpa [cF]using λe=>Qq e
              have a1:=Qu.ahQ (K:=[j,i,aA E,q]) cS (.inl ⟨λp nJ=>?_,WV⟩)
              ·have a2:=a1.rR uX (.inl (by simpa [fh]using BZ));exact a2.rel hrel (.inl WV)
              ·have e1:[j,i,aA E,q]=[j',i',aA E,q]:=O0 nJ ⟨p,rfl⟩ rfl;injection e1 with e1 e2;injection e2 with e2 e3;exact ah7 ⟨e2.symm,e1.symm⟩
             ·cases n with
              | zero=>
               simp only[List.getElem?_cons_zero,gG]at D;subst D;refine⟨WT i hi j y hy,?_⟩;have:=fC.ga (q:=dT) (nk:=[j,i,aA E,q]) Qt;rw[VU,ah1]at this;exact this
              |succ n=>simp at D
         ·cases U
        ·cases U
      ·cases h
     ·cases h
    ·cases h
   ·cases h
  ·cases h
 ·cases h
def ah8{C:ah Tmp}{c:lV}{args:aa Operand}(D:∀ σ,cu λX k=>mE (X:=X) N σ C c args k):cu λX k=>Ff (X:=X) N σ C c args k:=λX Y k g=>by
 unfold Ff
 repeat' first|rfl|refine cK ((D _ _ _ _ _).trans (bu _ (funext λE=>?_))) rfl|split
def vg:∀ (q:aa Nat),cu λX k=>iq (X:=X) m q k
 |[]=>λ_ _ _ _=>rfl
 | [x]=>λX Y k g=>by
  simp only[iq]
  repeat' first|rfl|refine cK ?_ ?_|split
 |[_,_]=>λ_ _ _ _=>rfl
 | j :: i :: s :: q=>λX Y k g=>by
  simp only[iq]
  refine(vg q _ _ _ _).trans (bu _ (funext λy=>?_))
  repeat' first|rfl|split
  all_goals simp_all
def Cm{x:Lf}:cu λX k=>nK (X:=X) σ x k:=by
 cases x with
 |own q=>exact vg q
 |_=>exact λ_ _ _ _=>rfl
def WW{q:aa Nat}{s i j:Nat}:cu λX k=>sZ (X:=X) σ q s i j k:=λX Y k g=>by
 refine(vg q _ _ _ _).trans (bu _ (funext λy=>?_))
 repeat' first|rfl|refine cK ?_ ?_|split
def Qv{x:A}:cu λX k=>qt (X:=X) σ x k:=by
 cases x with
 |lf l=>exact Cm
 |view=>exact WW
 |_=>exact λ_ _ _ _=>rfl
def Qx{x:A}:cu λX k=>vK (X:=X) x k:=λX Y k g=>by
 unfold vK
 repeat' first|rfl|refine cK ?_ ?_|split
def ah9{ty:TypeId}{C:BinOp}{x y:V}:cu λX k=>Ex (X:=X) P ty C x y k:=λX Y k g=>by
 unfold Ex
 repeat' first|rfl|refine cK ?_ ?_|split
def aia{C:BinOp}{t:TypeId}{x y:A}:cu λX k=>w7 (X:=X) P σ C t x y k:=λX Y k g=>by
 unfold w7;split
 ·repeat' first|rfl|refine cK ?_ ?_|split
 ·split
  ·refine(Cm _ _ _ _).trans (bu _ (funext λz=>?_))
   repeat' first|rfl|refine cK ?_ ?_|split
  ·rfl
 ·exact(Qx.comp λa=>Qx.comp λb=>ah9.comp (b:=λX k z=>k (.lf (.v z))) λz _ _ _ _=>rfl) X Y k g
def aib{C:UnOp}{x:V}:cu λX k=>Ey (X:=X) C x k:=λX Y k g=>by
 unfold Ey
 repeat' first|rfl|refine cK ?_ ?_|split
def Kj{t:TypeId}{cs:aa Lf}:cu λX k=>uM (X:=X) P t cs k:=λX Y k g=>by
 unfold uM
 repeat' first|rfl|refine cK ?_ ?_|split
def WX{t:TypeId}{x:A}:cu λX k=>mm (X:=X) P σ t x k:=λX Y k g=>by
 unfold mm;split
 ·rfl
 ·split
  ·split
   ·exact Kj _ _ _ _
   ·rfl
  ·exact Kj _ _ _ _
  ·refine(vg _ _ _ _ _).trans (bu _ (funext λz=>?_))
   repeat' first|rfl|exact Kj _ _ _ _|split
  ·rfl
def aic{s:TypeId}{x:A}{f:Nat}:cu λX k=>BV (X:=X) P s x f k:=λX Y k g=>by
 unfold BV
 repeat' first|rfl|refine cK ?_ ?_|split
def aid{t:TypeId}{x i:A}:cu λX k=>wU (X:=X) P σ t x i k:=λX Y k g=>by
 unfold wU;split
 ·rfl
 ·split
  ·split
   ·repeat' first|rfl|refine cK ?_ ?_|split
   ·refine(vg _ _ _ _ _).trans (bu _ (funext λz=>?_))
    repeat' first|rfl|refine cK ?_ ?_|split
   ·rfl
  ·rfl
def aie{t:TypeId}{x:A}:cu λX k=>zo (X:=X) P σ t x k:=λX Y k g=>by
 unfold zo;split
 ·refine(Cm _ _ _ _).trans (bu _ (funext λz=>?_))
  repeat' first|rfl|refine cK ?_ ?_|split
 ·repeat' first|rfl|refine cK ?_ ?_|split
 ·rfl
def aif{x:A}{i:Nat}:cu λX k=>zq (X:=X) x i k:=λX Y k g=>by
 unfold zq
 repeat' first|rfl|refine cK ?_ ?_|split
def aih{t:TypeId}{parts:aa (Nat×Operand)}:cu λX k=>B1 (X:=X) P σ t parts k:=λX Y k g=>by
 unfold B1
 repeat' first|rfl|refine cK ?_ ?_|split
def aii{s:TypeId}{x:A}{f:Nat}:cu λX k=>EL (X:=X) P s x f k:=λX Y k g=>by
 unfold EL
 repeat' first|rfl|refine cK ?_ ?_|split
def WY{C:Bool}{x y:A}:cu λX k=>B2 (X:=X) C x y k:=λX Y k g=>by
 unfold B2
 repeat' first|rfl|refine cK ?_ ?_|split
def aij{t:TypeId}{x i:A}:cu λX k=>EM (X:=X) P t x i k:=λX Y k g=>by
 unfold EM
 repeat' first|rfl|refine cK ?_ ?_|split
def aik{C D:TypeId}{x:A}:cu λX k=>w5 (X:=X) P σ C D x k:=λX Y k g=>by
 unfold w5;split
 ·repeat' first|rfl|refine cK ?_ ?_|split
 ·refine(Cm _ _ _ _).trans (bu _ (funext λz=>?_))
  unfold JX
  repeat' first|rfl|refine cK ?_ ?_|split
 ·rfl
def Cn{x:ah A}{d:Int}:cu λX k=>rK (X:=X) x d k:=λX Y k g=>by
 unfold rK
 repeat' first|rfl|refine cK ?_ ?_|split
def WZ{t:TypeId}{q:aa Nat}{C:ah Nat}{lo hi:ah A}:cu λX k=>zF (X:=X) P σ t q C lo hi k:=λX Y k g=>by
 unfold zF;split
 ·split
  ·refine(vg _ _ _ _ _).trans (bu _ (funext λz=>?_))
   unfold B8;split
   ·split
    ·refine(Cn _ _ _ _).trans (bu _ (funext λ_=>(Cn _ _ _ _).trans (bu _ (funext λ_=>?_))))
     repeat' first|rfl|refine cK ?_ ?_|split
    ·rfl
   ·rfl
  ·rfl
 ·rfl
def ail{t:TypeId}{x:A}{lo hi:ah A}:cu λX k=>w8 (X:=X) P σ t x lo hi k:=λX Y k g=>by
 unfold w8;split
 ·exact WZ _ _ _ _
 ·exact WZ _ _ _ _
 ·unfold uV;split
  ·split
   ·refine(Cn _ _ _ _).trans (bu _ (funext λ_=>(Cn _ _ _ _).trans (bu _ (funext λ_=>?_))))
    repeat' first|rfl|refine cK ?_ ?_|split
   ·rfl
  ·split
   ·split
    ·split
     ·refine cK ((Cn _ _ _ _).trans (bu _ (funext λ_=>(Cn _ _ _ _).trans (bu _ (funext λ_=>?_))))) rfl
      repeat' first|rfl|refine cK ?_ ?_|split
     ·rfl
    ·rfl
   ·rfl
  ·rfl
def vh{C:ah Tmp}{x:A}:cu λX k=>gk (X:=X) N σ C x k:=λX Y k g=>by
 unfold gk
 repeat' first|rfl|refine cK ?_ ?_|split
def Fi{x:aM}{y:A}:cu λX k=>fO (X:=X) N σ d x y k:=λX Y k g=>cK rfl rfl
def zO{x:aM}{y:A}{k:S -> ah X}(h:fO N σ d x y k=some r):k (((σ.drop d).root d x).set d y)=some r/\kG (λX k=>fO (X:=X) N σ d x y k) (((σ.drop d).root d x).set d y):=by
 unfold fO at h;cases C:Nat.blt d N with
 |false=>simp_all
 |true=>rw[C]at h;exact⟨h,λX k=>by simp[fO,C,aj]⟩
def aim{e:TypeId}{k:S -> ah X}(h:o6 P N σ d e k=some r):∃ x y,k (((σ.drop d).root d x).set d y)=some r/\y = .aI d 0/\(∀ (C:S),kG (λX k=>o6 (X:=X) P N C d e k) (((C.drop d).root d x).set d y)):=by
 unfold o6 at h;split at h
 ·rename_i z D;obtain⟨E,_⟩:=zO h
  refine⟨_,_,E,rfl,λC X k=>?_⟩
  obtain⟨F,_⟩:=kJ h;have hb:Nat.blt d N=true:=gP F;simp[o6,D,fO,hb,aj]
 ·cases h
def W0{t:TypeId}{l c:A}{k:S -> ah X}(h:wX P N σ d t l c k=some r):∃ y,k (((σ.drop d).root d (.sl y)).set d (.lf (.own [d])))=some r/\(∀ (C:S),kG (λX k=>wX (X:=X) P N C d t l c k) (((C.drop d).root d (.sl y)).set d (.lf (.own [d])))):=by
 unfold wX at h;split at h
 ·rename_i e O T n U c D;split at h
  ·cases h
  ·rename_i z E;split at h
   ·rename_i hb;obtain⟨F,_⟩:=zO h
    refine⟨_,F,λC X k=>?_⟩
    obtain⟨I,_⟩:=kJ h;have L:Nat.blt d N=true:=gP I;simp[wX,D,E,bJ hb,fO,L,aj]
   ·cases h
 ·cases h
def W2{t:TypeId}{len:Nat}{parts:aa (Nat×Operand)}{k:S -> ah X}(h:w4 P N σ d t len parts k=some r):∃ y,k (((σ.drop d).root d (.sl y)).set d (.lf (.own [d])))=some r /\
  (∀(C:S),(∀p∈parts,aE C p.2=aE σ p.2) -> kG (λX k=>w4 (X:=X) P N C d t len parts k) (((C.drop d).root d (.sl y)).set d (.lf (.own [d])))):=by
 unfold w4 at h;split at h
 ·rename_i e D F;split at h
  ·rename_i z I;cases E:(Nat.beq (full D) 0&&Nat.beq z.cells.size (aA D)&&Nat.blt (len*aA D) 16777217)with
   |false=>simp_all
   | true=>
    rw[E,aj]at h;split at h
    ·rename_i cs L;split at h
     ·rename_i vs O;split at h
      ·rename_i l hl;obtain⟨T,_⟩:=zO h
       refine⟨_,T,λC U X k=>?_⟩
       obtain⟨Y,_⟩:=kJ h;have Z:Nat.blt d N=true:=gP Y;have e:(parts.map λp=>(p.1,aE C p.2))=parts.map λp=>(p.1,aE σ p.2):=nc λp hp=>by rw[U p hp]
       simp[w4,F,I,E,aj,e,L,O,hl,fO,Z]
      ·cases h
     ·cases h
    ·cases h
  ·cases h
 ·cases h
def ain{t:TypeId}{x y:A}:cu λX k=>rD (X:=X) P N σ d t x y k:=λX Y k g=>by
 unfold rD;split
 ·refine cK ((Qv _ _ _ _).trans (bu _ (funext λC=>?_))) rfl
  repeat' first|rfl|exact Fi _ _ _ _|refine cK ?_ ?_|split
 ·rfl
def W4:∀ (q:aa Nat) (y:V),cu λX k=>uN (X:=X) m q y k
 |[],_=>λ_ _ _ _=>rfl
 | [x],y=>λX Y k g=>by
  simp only[uN]
  repeat' first|rfl|refine cK ?_ ?_|split
 |[_,_],_=>λ_ _ _ _=>rfl
 | j :: i :: s :: q,y=>λX Y k g=>by
  simp only[uN]
  refine(vg q _ _ _ _).trans (bu _ (funext λz=>?_))
  repeat' first|rfl|exact W4 q _ _ _ _ _|split
def W5{t:TypeId}{x y:A}:cu λX k=>ou (X:=X) P σ t x y k:=λX Y k g=>by
 unfold ou;split
 ·split
  ·split
   ·repeat' first|rfl|refine cK ?_ ?_|split
   ·split
    ·rfl
    ·refine(vg _ _ _ _ _).trans (bu _ (funext λz=>?_))
     repeat' first|rfl|exact W4 _ _ _ _ _ _|refine cK ?_ ?_|split
   ·rfl
  ·rfl
 ·rfl
def Qy:∀ (xs:aa Lf),cu λX k=>pq (X:=X) σ xs k
 |[]=>λ_ _ _ _=>rfl
 |x::xs=>Cm.comp λy=>(Qy xs).comp (b:=λX k ys=>k (y.fJ::ys)) λ_ _ _ _ _=>rfl
def W7{x:A}:cu λX k=>mA (X:=X) σ x k:=λX Y k g=>by
 unfold mA
 repeat' first|rfl|exact Qy _ _ _ _ _|exact WW _ _ _ _|split
def aio{x:A}:cu λX k=>td (X:=X) σ x k:=λX Y k g=>by
 unfold td
 repeat' first|rfl|exact W7 _ _ _ _|refine(Qy _ _ _ _ _).trans (bu _ (funext λz=>?_))|split
def Qz{f:(X:Type)->A->(Pt->ah X)->ah X}(C:∀ x,cu λX k=>f X x k):∀ (xs:aa Operand),cu λX k=>tf (f X) σ xs k
 |[]=>λ_ _ _ _=>rfl
 |x::xs=>(C _).comp λp=>(Qz C xs).comp (b:=λX k ps=>k (p::ps)) λ_ _ _ _ _=>rfl
def Co{xs:aa Operand}:cu λX k=>qx (X:=X) σ xs k:=Qz (λ_=>W7) xs
def W8{xs:aa Operand}:cu λX k=>zG (X:=X) σ xs k:=Qz (λ_=>aio) xs
def Kk{C:fq}:cu λX k=>lR (X:=X) σ d C k:=λX Y k g=>by
 unfold lR
 repeat' first|rfl|refine cK ?_ ?_|split
def W9{f:Nat}{c:ji}(C:iY P f c){ev:(X:Type)->(aa Pt->ah X)->ah X}(D:cu ev):cu λX k=>qz (X:=X) N σ d c (ev X) k:=λX Y k g=>
 cK ((D.comp λps=>(C.1 ps).comp λE=>Kk) X Y k g) rfl
def Kl{f:Nat}{c:ji}(T:iY P f c){ev:(X:Type)->(aa Pt->ah X)->ah X}(U:cu ev){k:S->ah X}(h:qz N σ d c (ev X) k=some r):∃ C D,lR σ d C some=some D/\k D=some r/\
  ∀E I (F:(X:Type)->(aa Pt->ah X)->ah X),(∀(X:Type) (k:aa Pt->ah X),F X k=ev X k)->lR E d C some=some I->kG (λX k=>qz (X:=X) N E d c (F X) k) I:=by
 unfold qz at h;cases L:Nat.blt d N with
 |false=>rw[L]at h;cases h
 | true=>
  rw[L,aj]at h;obtain⟨ps,Y,Z⟩:=U.jV h;obtain⟨C,h3,PG⟩:=(T.1 ps).jV Y;obtain⟨D,h4,hd3⟩:=Kk.jV h3
  refine⟨C,D,hd3 _ _,h4,λE I F ha gW X k=>?_⟩
  obtain⟨τ2,O,hd4⟩:=Kk.jV gW;injection O with O;subst O;show qz N E d c (F X) k=_;unfold qz;rw[L,aj,ha,Z X];exact(PG X _).trans (hd4 X k)
/-! Keys that do not end in certain names. -/
def mF(p:Nat->Bool)(k:aa Nat):Bool:=!gR p k
def rV(p pb:Nat->Bool):lO:=⟨gR p,gR p,pb⟩
def Lf.nr(p:Nat->Bool):Lf->Bool:=Lf.fr (gR p)
def A.nr(p:Nat->Bool):A->Bool:=A.fr (rV p p)
def Fj{p:Nat->Bool}{n:Nat}(C:p n=true)(k:aa Nat)(h:cF n k=true):gR p k=true:=by
 unfold gR;rw[show k.getLast?=some n by simpa [cF]using h];exact C
def Xa{p:Nat->Bool}{k:aa Nat}{n:Nat}(h:mF p k=true)(C:p n=true):cF n k=false:=by
 cases hl:cF n k with
 |false=>rfl
 |true=>unfold mF at h;rw[Fj C k hl]at h;cases h
def aip{p:Nat->Bool}{n:Nat}(C:p n=true)(r:Nat)(h:Nat.beq r n=true):p r=true:=by rw[cv h];exact C
def Lf.xx{p:Nat->Bool}{x:Lf}{n:Nat}(h:x.nr p=true)(C:p n=true):x.drop n=x:=Lf.nE (Lf.qi (Fj C) h)
def oW.xx{p:Nat->Bool}{xs:aa Lf}{n:Nat}(h:xs.all (Lf.nr p)=true)(C:p n=true):xs.map (Lf.drop n)=xs:=oW.nE (bW.2 λc D=>Lf.qi (Fj C) (bW.1 h c D))
def A.zP{p pb:Nat->Bool}{x:A}{n:Nat}(h:x.fr (rV p pb)=true)(C:p n=true)(hb:pb n=true):x.drop n=x:=A.nE (A.qi (K:=uI n) (J:=rV p pb) (Fj C) (Fj C) (aip hb) h)
def A.xx{p:Nat->Bool}{x:A}{n:Nat}(h:x.nr p=true)(C:p n=true):x.drop n=x:=A.zP h C C
def S.ext'{σ C:S}(D:∀ k,σ.t k=C.t k)(E:∀ r,σ.m r=C.m r):σ=C:=by
 cases σ;cases C;simp
 grind
def S.set_set{e d:Nat}(h:e≠d)(v u:A):(σ.set d v).set e u=(σ.set e u).set d v:=by
 refine S.ext' (λk=>?_) λ_=>rfl
 show bE (bE σ.t d v) e u k=bE (bE σ.t e u) d v k;by_cases C:k=e
 ·subst C;rw[bF,bZ _ _ _ h,bF]
 ·by_cases D:k=d
  ·subst D;rw[bZ _ _ _ C,bF,bF]
  ·rw[bZ _ _ _ C,bZ _ _ _ D,bZ _ _ _ D,bZ _ _ _ C]
def S.drop_set(n:Nat){v:A}(C:v.drop n=v):(σ.set d v).drop n=(σ.drop n).set d v:=by
 refine S.ext' (λk=>?_) λ_=>rfl
 show (bE σ.t d v k).drop n=bE (λk=>(σ.t k).drop n) d v k;by_cases h:k=d
 ·subst h;rw[bF,bF,C]
 ·rw[bZ _ _ _ h,bZ _ _ _ h]
def QA(v:A):∀ (xs:aa V) (c:Nat) (σ:S),(∀ n,c <= n -> v.drop n=v) -> kK c (σ.set d v) xs=(kK c σ xs).set d v
 |[],c,σ,h=>rfl
 | x :: xs,c,σ,h=>by
  simp[kK];cases D:x.aF with
  | true=>
   exact QA v xs _ σ (λn C=>h n (by omega))
  | false=>
   rw[S.drop_set c (h c (c9 _))];exact QA v xs _ ((σ.drop c).root c _) (λn C=>h n (by omega))
def QB(v:A):∀ (ps:aa Pt) (c:Nat) (σ:S),(∀ n,c <= n -> v.drop n=v) -> mC c (σ.set d v) ps=(mC c σ ps).set d v
 |[],c,σ,h=>rfl
 | p :: ps,c,σ,h=>by
  simp[mC];rw[QA v p.2 c σ h];exact QB v ps _ _ (λn C=>h n (by omega))
end
def xy{X:Type}(N:Nat)(σ:S)(d:Nat)(x:A)(k:S->ah X):ah X:=
 match x.wT with
 |some xs=>bif xs.all Lf.live then fO N σ d (.blk (xs.map (Lf.drop d))) (.aI d 0) k else none
 |none=>none
def Km{X:Type}(x:A)(k:A->ah X):ah X:=
 match x with
 |.aI r j=>k (.aI r j)
 |.ptr q=>k (.ptr q)
 |.ij cs=>k (.ij cs)
 |_=>none
section
variable {P:Program} {w w':World} {w0:Wd} {B N:Nat} {lab ax:bg} {ρ ρ':Nat->Loc} {σ:S} {a:Act} {X:Type} {d:Nat} {r:X} {o:Oper}
def aiq{e:TypeId}{x:A}{k:S -> ah X}(h:xy N σ d x k=some r):∃ D,k D=some r /\ ∀ lab ρ a w,Rl w0 N lab ρ σ a w -> ∀ u,RA w w0.heap.size lab ρ x u ->
  ∃w' ax ρ' v,(Instr.box e u).run P w = .ok v w'/\Rl w0 N ax ρ' D (a.put (some d) v) w':=by
 unfold xy at h;split at h
 ·rename_i xs O;cases E:xs.all Lf.live with
  |false=>grind
  | true=>
   rw[E,aj]at h;obtain⟨F,h⟩:=kJ h
   refine⟨_,h,λlab ρ a w hR u T=>?_⟩
   obtain⟨hl,_⟩:=EB O E T;have U:(Instr.box e u).run P w = .ok (.pointer (some ⟨w.heap.size,0,none⟩)) (w.alloc (.cells u.cells e)):=by
    simp[Instr.box,newVar,newRow]
   refine⟨_,bE lab w.heap.size (some [d]),bE ρ d (.blk w.heap.size 0),_,U,(hR.zw (hR.cY d (.inl F)) (λr C=>bZ _ _ _ C) ?_).set ⟨w.heap.size,0,bF _ _ _,rfl⟩ F⟩
   have Y:dR (w.alloc (.cells u.cells e)) w0.heap.size (bE lab w.heap.size (some [d])) ρ xs u.cells:=
    hl.jz (by simp) (λb hb=>⟨Below.heap_alloc w _ b hb,bZ _ _ _ (by omega)⟩) (λb k hb=>(hR.cE b k hb).2.1)
   have I:=Y.eA (ρ':=bE ρ d (.blk w.heap.size 0)) (d:=d) (λr C=>bZ _ _ _ C)
   refine .blk w.heap.size 0 u.cells e _ (λj=>u.cells.getD j undef) (bF _ _ _) (bF _ _ _) (heap_alloc_new w _) (by rw[I.1];omega) λj y Z=>?_
   obtain⟨v,L,C⟩:=I.2 j y Z;have hg:u.cells.getD j undef=v:=by rw[gw,L];rfl
   rw[hg,eS];exact⟨L,C⟩
 ·cases h
def air{x:A}{k:S -> ah X}(h:xy N σ d x k=some r):∃ y u,k (((σ.drop d).root d y).set d u)=some r/\(∀ (C:S),kG (λX k=>xy (X:=X) N C d x k) (((C.drop d).root d y).set d u)):=by
 unfold xy at h;split at h
 ·rename_i xs E;cases D:xs.all Lf.live with
  |false=>simp_all
  | true=>
   rw[D]at h;obtain⟨F,_⟩:=zO h
   refine⟨_,_,F,λC X k=>?_⟩
   obtain⟨I,_⟩:=kJ h;have hb:Nat.blt d N=true:=gP I;simp[xy,E,D,fO,hb,aj]
 ·cases h
def ais{x:A}{k:A->ah X}(h:Km x k=some r):k x=some r/\∀ u,RA w B lab ρ x u->∃ ad,u = .pointer (some ad):=by
 unfold Km at h;split at h
 ·exact⟨h,λu C=>by obtain⟨b,off,_,rfl⟩:=C;exact⟨_,rfl⟩⟩
 ·exact⟨h,λu C=>by obtain⟨ad,rfl,_⟩:=C;exact⟨_,rfl⟩⟩
 ·exact⟨h,λu C=>by obtain⟨b,off,rfl,_⟩:=C;exact⟨_,rfl⟩⟩
 ·cases h
end
def oA(t:TypeId):Bool:=[999999,999999,50,999999,57,999999,999999,999999,999999,999999,101,999999,999999,999999,999999,999999].any (Nat.beq t)
def V.lit:V->Bool
 |.sl _ _ _ _=>false
 |_=>true
def QC(C:TC)(len:Nat)(cs:aa Lf):ah (aa (T C)):=
 bif Nat.ble 2 len then (match rI cs with
  |some D=>bif D.all V.lit then zC C (full C) len D else none
  |none=>none)else none
def tD{X:Type}(P:Program)(N:Nat)(σ:S)(d:Nat)(t:TypeId)(len:Nat)(parts:aa (Nat×Operand))(k:S->ah X):ah X:=
 match rC P t with
 | some (e,C)=>match zeroOf P e with
  | some z=>bif Nat.beq z.cells.size (aA C)&&Nat.blt (len*aA C) 16777217 then (match wZ (λi=>some (i*aA C,aA C)) (List.replicate len (z.cells.toList.map mw)).flatten (parts.map λp=>(p.1,aE σ p.2))with
   | some cs=>bif Nat.beq len 0 then fO N σ d (.sl (.sl C (full C+2) true [])) (.lf (.own [d])) k else (match QC C len cs with
    |some l=>fO N σ d (.sl (.sl C (full C+2) true l)) (.lf (.own [d])) k
    |none=>fO N σ d (.blk (cs.map (Lf.drop d))) (.pk d len) k)
   |none=>none)else none
  |none=>none
 |none=>none
def zR{X:Type}(N:Nat)(σ:S)(d r D:Nat)(C:TC)(n:Nat)(k:S->ah X):ah X:=
 match σ.m D,σ.m r with
 | some (.blk cs),some (.sl (.sl E (o+2) q l))=>if h:E=C then (match gp r (λj=>(j % aA C) :: (l.length+j / aA C) :: aA C :: [r]) cs.length 0 cs σ with
  | some (F,I)=>(match zC C o n F with
   |some l2=>bif Nat.blt d N&&aT (l.length+l2.length)then k (((I.drop r).root r (.sl (.sl C (o+2) false ((h ▸ l)++l2)))).set d (.lf (.own [r])))else none
   |none=>none)
  |none=>none)else none
 |_,_=>none
def Fk{X:Type}(P:Program)(N:Nat)(σ:S)(d:Nat)(t:TypeId)(x y:A)(k:S->ah X):ah X:=
 match rC P t,y with
 | some (e,C),.pk D n=>bif (zeroOf P e).any (λz=>Nat.beq z.cells.size (aA C))&&(Nat.blt d N&&Nat.blt n oV)then (match x with
  |.lf (.v .nil)=>zR N ((σ.drop d).root d (.sl (.sl C (full C+2) false []))) d d D C n k
  |.lf (.own [r])=>bif Nat.blt r N ||Nat.ble 60000 r then zR N σ d r D C n k else none
  |_=>none)else none
 |_,_=>none
def rW{X:Type}(P:Program)(σ:S)(t:TypeId)(x y:A)(k:S->ah X):ah X:=
 match iB P t,y.wT,x with
 | some n,some xs,.ptr [j,i,s,r]=>if xs.length=n then (bif xs.all Lf.live then (match gp r (λm=>(j+m) :: i :: s :: [r]) xs.length 0 xs σ with
  | some (E,D)=>(match D.m r with
   | some (.sl (.sl C (o+2) F l))=>if s=aA C then (if h:i<l.length then (if j+n<=aA C then (match dec C o (cP (enc C o l[i]) j E)with
    |some e=>k (D.cL [r] [] [(r,.sl (.sl C (o+2) F (l.set i e)))])
    |none=>none)else none)else none)else none
   |_=>none)
  |none=>none)else none)else none
 |_,_,_=>none
def vi(x y:A):Bool:=match x,y.wT with
 |.ptr _,some xs=>(oY xs).isNone
 |_,_=>false
section
variable {P:Program} {w w':World} {w0:Wd} {B N:Nat} {lab ax:bg} {ρ ρ':Nat->Loc} {σ:S} {a:Act} {X:Type} {d:Nat} {r:X} {o:Oper}
def Xb{place:Nat -> ah (Nat×Nat)}:∀ (parts:aa (Nat×A)) (cells out:aa Lf),wZ place cells parts=some out -> out.length=cells.length
 |[],cells,out,h=>by injection h with h;rw[h]
 | (i,x) :: rest,cells,out,h=>by
  unfold wZ at h;split at h
  ·rename_i off n xs C D;split at h
   ·rename_i E;cases hl:xs.all _ with
    | true=>
     rw[hl]at h;rw[Xb rest _ _ h,wO _ _ _ (by omega)]
    |false=>simp_all
   ·cases h
  ·cases h
def RV.ait{q C:aa Nat}{x:V}{v:Value}{B':Nat}{ax:bg}(h:RV w B lab q x v)(D:x.lit=true):RV w' B' ax C x v:=by
 cases h<;>first|exact .int _ _ _|exact .bool _ _|exact .str _ _|exact .nil _|cases D
def aiu{D:TC}{len:Nat}{cs:aa Lf}{l:aa (T D)}(h:QC D len cs=some l):∃ C,cs=C.map .v/\(∀ x∈C,V.lit x=true)/\zC D (full D) len C=some l:=by
 unfold QC at h;cases F:Nat.ble 2 len with
 |false=>rw[F]at h;cases h
 | true=>
  rw[F,aj]at h;split at h
  ·rename_i C I;cases E:C.all V.lit with
   |false=>rw[E]at h;cases h
   | true=>
    rw[E,aj]at h;exact⟨C,EK cs C I,λx L=>bW.1 E x L,h⟩
  ·cases h
def aiv{t:TypeId}{len:Nat}{parts:Array (Nat×Operand)}{k:S->ah X}(h:tD P N σ d t len parts.toList k=some r):∃ cN,k cN=some r/\∀ lab ρ a w,Rl w0 N lab ρ σ a w->
  ∃w' ax ρ' v,(Instr.buildSlice t len (parts.map λ(i,x)=>(i,a.eval x))).run P w = .ok v w'/\Rl w0 N ax ρ' cN (a.put (some d) v) w':=by
 unfold tD at h;split at h
 ·rename_i e C nM;obtain⟨fK,ht,i,hi,Z,ir⟩:=uQ nM;split at h
  ·rename_i z hz;cases hc:(Nat.beq z.cells.size (aA C)&&Nat.blt (len*aA C) 16777217)with
   |false=>rw[hc]at h;cases h
   | true=>
    rw[hc,aj]at h;rw[aH]at hc;have lH:=cv hc.1;have hsm:len*aA C<16777217:=by have:=cr hc.2;omega
    have nN:i.zero=some z:=by unfold zeroOf at hz;simpa [hi]using hz
    split at h
    ·rename_i cs kH;have key:∀ lab ρ (a:Act) w,Rl w0 N lab ρ σ a w->∃ D,(Instr.buildSlice t len (parts.map λ(i,x)=>(i,a.eval x))).run P w = .ok (.slice (some ⟨w.heap.size,0,none⟩) len len) (w.alloc (.cells D e))/\dR w w0.heap.size lab ρ cs D/\D.size=cs.length:=λlab ρ a w hR=>by
      have Pn:dR w w0.heap.size lab ρ (List.replicate len (z.cells.toList.map mw)).flatten (madeCells z.cells (len*aA C)):=by
       have e1:(List.replicate len (z.cells.toList.map mw)).flatten=((List.replicate len z.cells.toList).flatten).map mw:=by
        rw[List.map_flatten,List.map_replicate]
       rw[e1,<-Wa z.cells (aA C) len lH (mh C)]
       refine⟨by simp,λj x E=>?_⟩
       rw[dI]at E;cases I:(madeCells z.cells (len*aA C)).toList[j]? with
       |none=>rw[I]at E;cases E
       | some v=>
        rw[I]at E;injection E with E;subst E;exact⟨v,by simpa using I,JP v⟩
      obtain⟨D,uW,hl⟩:=JV (w:=w) (B:=w0.heap.size) (lab:=lab) (ρ:=ρ) _ _ _ (parts.toList.map λp=>(p.1,a.eval p.2)) cs kH Pn (by simp) (λj p q U hq=>by
       rw[dI]at U hq;cases E:parts.toList[j]? with
       |none=>rw[E]at U;cases U
       | some x=>
        rw[E]at U hq;injection U with U;injection hq with hq;subst U hq;exact⟨rfl,hR.aE x.2⟩)
      have Y:(Instr.buildSlice t len (parts.map λ(i,x)=>(i,a.eval x))).run P w = .ok (.slice (some ⟨w.heap.size,0,none⟩) len len) (w.alloc (.cells D e)):=by
       have EJ:(parts.map λ(i,x)=>(i,a.eval x)).toList=parts.toList.map λp=>(p.1,a.eval p.2):=by simp
       by_cases h0:len*aA C=0
       ·have hm:madeCells z.cells (len*aA C) = #[]:=by rw[h0];simp[madeCells]
        rw[hm]at uW;have Pp:len*i.size=0:=by rw[Z];exact h0
        rw[<-Z]at uW;have e0:∀f:Nat->Value,Array.map f (Array.range 0) = #[]:=λf=>by simp
        simp only[Instr.buildSlice,fA,fW fK,jO,sizeOf,typeInfo];simp[hi,Pp];rw[e0,uW];simp[newRow]
       ·exact run_buildSlice (P:=P) w t e len _ D i z fK hi nN (by rw[Z];omega) (by rw[Z];exact h0) (by rw[Z,EJ];exact uW)
      exact⟨D,Y,hl,hl.1⟩
     cases mq:Nat.beq len 0 with
     | true=>
      rw[mq,aj]at h;have hln:=cv mq;subst hln;obtain⟨T,h⟩:=kJ h
      refine⟨_,h,λlab ρ a w hR=>?_⟩
      obtain⟨D,Y,hl,hcz⟩:=key lab ρ a w hR;have rO:cs.length=0:=by
       have h1:=Xb _ _ _ kH;rw[h1];simp
      refine⟨_,bE lab w.heap.size (some [d]),bE ρ d (.cO (.slice (some ⟨w.heap.size,0,none⟩) 0 0)),_,Y,(hR.zw (hR.cY d (.inl T)) (λr F=>bZ _ _ _ F) (.sl _ _ (bF _ _ _) ?_)).set ⟨rfl,by simp[cC,bF]⟩ T⟩
      exact RV.own (w:=w.alloc (.cells D e)) (B:=w0.heap.size) (lab:=bE lab w.heap.size (some [d])) [d] C (full C) true [] w.heap.size 0 D (λ_ _=>undef)
       (bF _ _ _) (by rw[ht];exact heap_alloc_new w _) (by omega) (c9 _) ⟨by unfold maxLen;omega,λ_=>rfl⟩ (λL O=>absurd O (by simp)) (λL O=>absurd O (by simp))
     |false=>
     rw[mq,au]at h;split at h
     ·rename_i l Fl;obtain⟨vs,EN,aiw,QD⟩:=aiu Fl;obtain⟨T,h⟩:=kJ h
      refine⟨_,h,λlab ρ a w hR=>?_⟩
      obtain⟨D,Y,hl,_⟩:=key lab ρ a w hR;obtain⟨zE,uO,fT⟩:=JW C (full C) len vs l QD;have Po:D.size=len*aA C:=by rw[hl.1,EN,eE,uO]
      refine⟨_,bE lab w.heap.size (some [d]),bE ρ d (.cO (.slice (some ⟨w.heap.size,0,none⟩) len len)),_,Y,(hR.zw (hR.cY d (.inl T)) (λr F=>bZ _ _ _ F) (.sl _ _ (bF _ _ _) ?_)).set ⟨rfl,by simp[cC,bF]⟩ T⟩
      have nL:∀ L (O:L<l.length) j x,(enc C (full C) l[L])[j]?=some x->∃ v,D[L*aA C+j]?=some v/\∀ (w':World) (B':Nat) (ax:bg) (q':aa Nat),RV w' B' ax q' x v:=by
       intro L O j x E;obtain⟨y,hy,hw⟩:=fT L O j x E;obtain⟨v,I,F⟩:=hl.2 (L*aA C+j) (.v y) (by rw[EN,dI,hy];rfl);exact⟨v,I,λw' B' ax q'=>(F.2.ait (aiw y (fP hy))).wk hw⟩
      have:=RV.own (w:=w.alloc (.cells D e)) (B:=w0.heap.size) (lab:=bE lab w.heap.size (some [d])) [d] C (full C) true l w.heap.size len D (λi j=>(D[i*aA C+j]?).getD undef)
       (bF _ _ _) (by rw[ht];exact heap_alloc_new w _) Po (by omega) ⟨by have:=Nat.le_mul_of_pos_right len (mh C);unfold maxLen;omega,λ_=>zE.symm⟩ (λL O j x E=>?_) (λL O j x E=>?_)
      ·rw[zE]at this;exact this
      ·obtain⟨v,I,_⟩:=nL L O j x E;rw[I];rfl
      ·obtain⟨v,I,F⟩:=nL L O j x E;rw[I];exact F _ _ _ _
     obtain⟨T,h⟩:=kJ h
     refine⟨_,h,λlab ρ a w hR=>?_⟩
     obtain⟨D,Y,hl,_⟩:=key lab ρ a w hR
     refine⟨_,bE lab w.heap.size (some [d]),bE ρ d (.blk w.heap.size 0),_,Y,(hR.zw (hR.cY d (.inl T)) (λr F=>bZ _ _ _ F) ?_).set ⟨w.heap.size,bF _ _ _,(OU (by have:=Nat.le_mul_of_pos_right len (mh C);unfold oV;omega)).symm⟩ T⟩
     have h1:dR (w.alloc (.cells D e)) w0.heap.size (bE lab w.heap.size (some [d])) ρ cs D:=
      hl.jz (by simp) (λb hb=>⟨Below.heap_alloc w _ b hb,bZ _ _ _ (by omega)⟩) (λb k hb=>(hR.cE b k hb).2.1)
     have h2:=h1.eA (ρ':=bE ρ d (.blk w.heap.size 0)) (d:=d) (λr F=>bZ _ _ _ F)
     refine .blk w.heap.size 0 D e _ (λj=>D.getD j undef) (bF _ _ _) (bF _ _ _) (heap_alloc_new w _) (by rw[h2.1];omega) λj y hy=>?_
     obtain⟨v,I,F⟩:=h2.2 j y hy;have hg:D.getD j undef=v:=by rw[gw,I];rfl
     rw[hg,eS];exact⟨I,F⟩
    ·cases h
  ·cases h
 ·cases h
def aix{t:TypeId}{len:Nat}{parts:aa (Nat×Operand)}{k:S->ah X}(h:tD P N σ d t len parts k=some r):∃ y u,k (((σ.drop d).root d y).set d u)=some r/\
  (∀(C:S),(∀p∈parts,aE C p.2=aE σ p.2)->kG (λX k=>tD (X:=X) P N C d t len parts k) (((C.drop d).root d y).set d u)):=by
 unfold tD at h;split at h
 ·rename_i e tc U;split at h
  ·rename_i z Y;cases D:(Nat.beq z.cells.size (aA tc)&&Nat.blt (len*aA tc) 16777217)with
   |false=>rw[D]at h;cases h
   | true=>
    rw[D,aj]at h;split at h
    ·rename_i cs Z;cases E:Nat.beq len 0 with
     | true=>
      rw[E,aj]at h;obtain⟨F,_⟩:=zO h
      refine⟨_,_,F,λC I X k=>?_⟩
      obtain⟨L,_⟩:=kJ h;have O:Nat.blt d N=true:=gP L;have e:(parts.map λp=>(p.1,aE C p.2))=parts.map λp=>(p.1,aE σ p.2):=nc λp T=>by rw[I p T]
      simp only[tD,U,Y,D,aj,e,Z,fO,O,E]
     | false=>
      rw[E,au]at h;split at h
      ·rename_i l Fl;obtain⟨F,_⟩:=zO h
       refine⟨_,_,F,λC I X k=>?_⟩
       obtain⟨L,_⟩:=kJ h;have O:Nat.blt d N=true:=gP L;have e:(parts.map λp=>(p.1,aE C p.2))=parts.map λp=>(p.1,aE σ p.2):=nc λp T=>by rw[I p T]
       simp only[tD,U,Y,D,aj,e,Z,fO,O,E,au,Fl]
      ·rename_i Fl;obtain⟨F,_⟩:=zO h
       refine⟨_,_,F,λC I X k=>?_⟩
       obtain⟨L,_⟩:=kJ h;have O:Nat.blt d N=true:=gP L;have e:(parts.map λp=>(p.1,aE C p.2))=parts.map λp=>(p.1,aE σ p.2):=nc λp T=>by rw[I p T]
       simp only[tD,U,Y,D,aj,e,Z,fO,O,E,au,Fl]
    ·cases h
  ·cases h
 ·cases h
def Xc{t e ty:TypeId}{U:TC}{i:TypeInfo}{z:Value}{rr ry n:Nat}{k:S -> ah X}(fK:P.underlying t=some (.slice e))(ht:tid U=e)(hi:P.info? e=some i)(hz:i.zero=some z)
  (hsz:i.size=aA U) (ir:i.bytes <= 65536) (lH:z.cells.size=aA U) (h:zR N σ d rr ry U n k=some r):∃cN,k cN=some r /\ ∀lab ρ a w,Rl w0 N lab ρ σ a w -> w0.F rr=none -> ∀u v b,ρ rr = .cO u -> ρ ry = .blk b 0 -> v = .slice (some ⟨b,0,none⟩) n n ->
  ∃w' ax ρ' z,(Builtin.append_ #[t,t] ty #[u,v]).run P w = .ok z w'/\Rl w0 N ax ρ' cN (a.put (some d) z) w':=by
 unfold zR at h;split at h
 ·rename_i cs E o q l QE hr;split at h
  ·rename_i lQ;subst lQ;split at h
   ·rename_i vs τ QF;split at h
    ·rename_i l2 jY;cases T:(Nat.blt d N&&aT (l.length+l2.length))with
     |false=>rw[T]at h;cases h
     | true=>
      rw[T,aj]at h;rw[aH]at T;have wY:l.length+l2.length<1073741824:=by simpa [aT]using T.2
      have hd:d<N:=by have:=cr T.1;omega
      refine⟨_,h,λlab ρ a w hR hF u v b aiy aiz L=>?_⟩
      subst L;have Y:=hR.root ry _ QE;generalize C:aM.blk cs=x at Y;cases Y with
      |sl=>cases C
      |mp=>cases C
      |gh=>cases C
      | blk b' off cells e' eo us cD ot hh hs hc=>
       injection C with C;subst C;rw[aiz]at cD;injection cD with e1 e2;subst e1 e2;have iL:dR w w0.heap.size lab ρ cs ((List.range cs.length).map us).toArray:=by
        refine⟨by simp,λj x I=>?_⟩
        have D:j<cs.length:=(de.1 I).1;exact⟨us j,by simp[D],(hc j x I).2⟩
       obtain⟨ax,eG,uO,Kn,_,ov,iX,_,_⟩:=JL (w0:=w0) (N:=N) (λj=>by simp[cF]) _ _ _ _ _ _ QF lab ρ a w hR _ iL;obtain⟨zE,aiA,fT⟩:=JW E o n vs l2 jY;have uU:cs.length=n*aA E:=by rw[<- uO,aiA]
       have o7:∀ j,j<cs.length -> (us j).oneCell'=true:=by
        intro j D;have I:=bQ (by rw[uO];exact D);obtain⟨u',s5,O⟩:=Kn j _ I;have:u'=us j:=by simpa [D]using s5.symm
        rw[<- this];exact O.one
       have QG:b<w.heap.size:=(gD.1 hh).1;have uS:Reads w w.heap.size (aA E) (some ⟨b,0,none⟩) n ((List.range cs.length).map us):=by
        refine⟨by simp[uU],λhn=>⟨b,0,rfl,QG,λj v L=>?_⟩⟩
        have D:j<cs.length:=by have:=(de.1 L).1;simpa using this
        have:v=us j:=by simpa [D]using L.symm
        subst this;rw[cell_of_row w b _ cells _ _ hh];simp_all
       have gI:rJ w w0.heap.size ax rr l.length E o l2 ((List.range cs.length).map us):=by
        intro Z Fh j x I;have D:j<aA E:=by have:=(de.1 I).1;rwa [jT]at this
        obtain⟨y,Y,hw⟩:=fT Z Fh j x I;obtain⟨u',s5,O⟩:=Kn _ _ Y;refine⟨u',s5,?_⟩;have e1:(0+(Z*aA E+j)) % aA E=j:=by rw[eS,Nat.add_comm,Nat.add_mul_mod_self_right,Nat.mod_eq_of_lt D]
        have e2:(0+(Z*aA E+j)) / aA E=Z:=by rw[eS,Nat.add_comm,Nat.add_mul_div_right _ _ (mh E),Nat.div_eq_of_lt D,eS]
        simp only[e1,e2]at O;exact O.wk hw
       have zS:=eG.root rr _ (ov _ hr);generalize C:aM.sl (.sl E (o+2) q l)=x at zS;cases zS with
       |blk=>cases C
       |mp=>cases C
       |gh=>cases C
       | sl uu y gS O=>
        injection C with C;subst C;rw[aiy]at gS;injection gS with gS;subst gS;obtain⟨v',w',cT,dZ,jD,fo⟩:=eG.ag9 (ty:=ty) (c:=n) hF fK ht hi hz hsz ir lH O uS (λv L=>by
         obtain⟨j,D⟩:=List.mem_iff_getElem?.1 L;have EI:j<cs.length:=by have:=(de.1 D).1;simpa using this
         have:v=us j:=by simpa [EI]using D.symm
         rw[this];exact o7 j EI) zE.symm gI wY
        exact⟨w',cT,_,v',dZ,jD.set ⟨fo,by simp[cC,bF]⟩ hd⟩
    ·cases h
   ·cases h
  ·cases h
 ·cases h
def aiB{rr C n:Nat}{D:TC}:cu λX k=>zR (X:=X) N σ d rr C D n k:=λX Y k g=>by
 unfold zR
 repeat' first|rfl|refine cK ?_ ?_|split
def aiC{t ty:TypeId}{x y:A}{k:S -> ah X}(h:Fk P N σ d t x y k=some r):∃ C,k C=some r /\ ∀ lab ρ a w,Rl w0 N lab ρ σ a w -> ∀ u v,RA w w0.heap.size lab ρ x u -> RA w w0.heap.size lab ρ y v ->
  ∃w' ax ρ' z,(Builtin.append_ #[t,t] ty #[u,v]).run P w = .ok z w'/\Rl w0 N ax ρ' C (a.put (some d) z) w':=by
 unfold Fk at h;split at h
 ·rename_i e I ry n nM;obtain⟨Z,ht,i,hi,hsz,ir⟩:=uQ nM;cases E:((zeroOf P e).any (λz=>Nat.beq z.cells.size (aA I))&&(Nat.blt d N&&Nat.blt n oV))with
  |false=>simp_all
  | true=>
   rw[E,aj]at h;rw[aH]at E;obtain⟨z,hz,F⟩:=(Option.any_eq_true _ _).1 E.1;have F:=cv F;have nN:i.zero=some z:=by unfold zeroOf at hz;simpa [hi]using hz
   have L:=E.2;rw[aH]at L;have hd:d<N:=by have:=cr L.1;omega
   have ke:n<oV:=by have:=cr L.2;omega
   split at h
   ·obtain⟨C,O,T⟩:=Xc (w0:=w0) (ty:=ty) Z ht hi nN hsz ir F h
    refine⟨C,O,λlab ρ a w hR u v D U=>?_⟩
    have D:u = .slice none 0 0:=by cases D.2;rfl
    subst D;obtain⟨b,hb,rfl⟩:=U;have QE:ry≠d:=by
     rintro rfl;unfold zR at h;split at h
     ·simp_all
     ·cases h
    have hR0:=hR.new (d:=d) (x:=.sl (.sl I (full I+2) false [])) (.cO (.slice none 0 0)) (.sl _ _ (bF _ _ _) (.dN _ _ _)) (hR.cY d (.inl hd));exact T _ _ a w hR0 (hR.cY d (.inl hd)) _ _ b (bF _ _ _) ((bZ _ _ _ QE).trans hb) (OU ke)
   ·rename_i rr;cases Y:(Nat.blt rr N || Nat.ble 60000 rr)with
    |false=>simp_all
    | true=>
     rw[Y,aj]at h;rw[dA]at Y;have ov:rr<N \/ 60000 <= rr:=Y.imp (λh=>by have:=cr h;omega) (λh=>cr h);obtain⟨C,O,T⟩:=Xc (w0:=w0) (ty:=ty) Z ht hi nN hsz ir F h
     refine⟨C,O,λlab ρ a w hR u v D U=>?_⟩
     obtain⟨b,hb,rfl⟩:=U;have cD:ρ rr = .cO u:=by
      have h4:=D.2;simp only[cC]at h4;cases hl:ρ rr with
      |blk b o=>simp_all
      |bB us=>simp_all
      |cO v=>simp_all
     exact T lab ρ a w hR (hR.cY rr ov) _ _ b cD hb (OU ke)
   ·cases h
 ·cases h
def aiD{t:TypeId}{x y:A}:cu λX k=>Fk (X:=X) P N σ d t x y k:=λX Y k g=>by
 unfold Fk
 repeat' first|rfl|exact aiB _ _ _ _|refine cK ?_ ?_|split
def aiE{t:TypeId}{x y:A}{k:S -> ah X}(h:rW P σ t x y k=some r):∃ cN,k cN=some r /\ ∀ lab ρ a w,Rl w0 N lab ρ σ a w -> ∀ u v,RA w w0.heap.size lab ρ x u -> RA w w0.heap.size lab ρ y v ->
  ∃w' ax,(Instr.storeAt t u v).run P w = .ok () w'/\Rl w0 N ax ρ cN a w':=by
 unfold rW at h;split at h
 ·rename_i n xs j i s rr hn oZ;split at h
  ·rename_i hlen;cases QH:xs.all Lf.live with
   |false=>rw[QH]at h;cases h
   | true=>
    rw[QH,aj]at h;split at h
    ·rename_i vs τ QF;split at h
     ·rename_i C o' qn l gW;split at h
      ·rename_i nJ;split at h
       ·rename_i hi;split at h
        ·rename_i hj;split at h
         ·rename_i e he
          refine⟨_,h,λlab ρ a w hR u v hu hv=>?_⟩
          obtain⟨ad,rfl,F⟩:=hu;obtain⟨hl,o7⟩:=EB oZ QH hv;have iL:dR w w0.heap.size lab ρ xs v.cells.toList.toArray:=by simpa using hl
          obtain⟨ax,Z,uO,Kn,_,ov,iX,awE,_⟩:=JL (w0:=w0) (N:=N) (λm=>by simp[cF]) _ _ _ _ _ _ QF lab ρ a w hR _ iL;simp only[addrAt]at F;split at F
          ·rename_i b n0 c0 cD;split at F
           ·rename_i ot;injection F with F;subst F;have zS:=Z.root rr _ gW;generalize D:aM.sl (.sl C (o'+2) qn l)=x at zS;cases zS with
            |blk=>cases D
            |mp=>cases D
            |gh=>cases D
            | sl uu y gS fC=>
             injection D with D;subst D;rw[cD]at gS;injection gS with gS;subst gS;cases fC with
             |aF _ _ _ _ _ _ _ _ _ ho=>omega
             |eX=>simp at hi
             |fB=>simp at hi
             | own _ _ _ _ _ _ cap cs us Ko hh hs wR hm hc hr=>
              subst nJ;have QI:v.cells.size=n:=by rw[hl.1,hlen]
              have zk:i*aA C+aA C <= c0*aA C:=by
               have:(i+1)*aA C <= c0*aA C:=gO _ (by omega);rw[gE]at this;exact this
              have mj:i*aA C+j+v.cells.toList.length <= cs.size:=by rw[jr,QI,hs];omega
              have L:=JD w b (i*aA C+j) v.cells.toList;obtain⟨U,gI,lP⟩:=Eh b (tid C) v.cells.toList (i*aA C+j) w cs hh mj;have rA:∀ m,U[m]?=if m<i*aA C+j then cs[m]? else if m<i*aA C+j+n then v.cells[m-(i*aA C+j)]? else cs[m]?:=by
               intro m;have e2:U[m]?=(cP cs.toList (i*aA C+j) v.cells.toList)[m]?:=by
                rw[show U[m]?=U.toList[m]? by simp,lP];rfl
               rw[e2,uJ _ _ _ (by simpa using mj),jr,QI];simp
              have Ew:U.size=cs.size:=by
               rw[<- jr,lP];have:=wO cs.toList (i*aA C+j) v.cells.toList (by simpa using mj);simp only[cP]at this;simp_all
              have QG:b<w.heap.size:=(gD.1 hh).1;have hz:w.heap.size <= (w.setCells b (i*aA C+j) v.cells.toList).heap.size:=Nat.le_of_eq L.size.symm;have QJ:∀E,E<w.heap.size -> ax E≠some [rr] -> (w.setCells b (i*aA C+j) v.cells.toList).heap[E]?=w.heap[E]?:=λE _ cS=>L.block E (by rintro rfl;exact cS Ko)
              have hth:w.there b (i*aA C+j) v.cells.size:=by
               intro m rB;refine⟨?_,frozen_of_row w b _ cs _ hh⟩;rw[cell_of_row w b _ cs _ _ hh];simp;omega
              have jX:vs.length=n:=by rw[uO,hlen]
              refine⟨_,ax,O4 w b _ t v hth (by rw[QI];exact hn) o7,Z.rR (ns:=[rr]) (cn:=[]) (eB:=ρ) (cT:=ax) ⟨hz,λE Fg O=>⟨L.block E ?_,rfl⟩,λ_ _=>rfl,λE k O=>(Z.cE E k O).2⟩
               ⟨L.os,L.tape,L.output,hz,λk O hL=>L.block k ?_⟩ (λE k O=>?_) (λr hr=>by cases hr) (λr0 x D=>?_)⟩
              ·rintro rfl;have:=O _ Ko;simp[fh,cI]at this
              ·rintro rfl;rcases(Z.cE k _ Ko).1 with h1 | h1
               ·exact absurd O (Nat.not_lt.2 h1)
               ·exact h1 hL
              ·have:=Z.cE E k O;exact⟨this.1,Nat.lt_of_lt_of_le this.2.1 hz,this.2.2⟩
              ·have jZ:r0=rr/\x = .sl (.sl C (o'+2) qn (l.set i e)):=by
                simp only[List.lookup]at D;split at D
                next Fg=>injection D with D;exact⟨by simpa using Fg,D.symm⟩
                ·cases D
               obtain⟨rfl,rfl⟩:=jZ;refine .sl _ _ cD ?_
               refine RV.JE (u:=us) (us:=λ_ m=>v.cells.getD (m-j) undef) (cs:=cs) (xs:=vs) Ko gI (Ew.trans hs) wR hm hi (by rw[jX];exact hj) he (λI h' Y x T JF=>?_) (λm x T=>?_)
               ·have qj:Y<aA C:=by have:=(de.1 T).1;rwa [jT]at this
                refine⟨?_,(hr I h' Y x T).under (n:=r0) (.inl (by simp)) hz QJ (λ_ _=>rfl)⟩
                rw[rA];have zl:¬ (¬ I*aA C+Y<i*aA C+j/\I*aA C+Y<i*aA C+j+n):=by
                 rintro⟨h1,h2⟩;rcases Nat.lt_trichotomy I i with dV|heq|BP
                 ·have:(I+1)*aA C <= i*aA C:=gO _ dV;rw[gE]at this;omega
                 ·subst heq;exact JF ⟨rfl,by omega,by omega⟩
                 ·have:(i+1)*aA C <= I*aA C:=gO _ BP;rw[gE]at this;omega
                split
                ·exact hc I h' Y x T
                ·rw[bx];exact hc I h' Y x T
               ·obtain⟨v0,uT,zm⟩:=Kn m x T;have rB:m<n:=by rw[<- jX];exact(de.1 T).1
                have JS:v.cells[m]?=some v0:=by simpa using uT
                have BQ:v.cells.getD (j+m-j) undef=v0:=by rw[show j+m-j=m by omega,gw,JS];rfl
                show U[_]?=some (v.cells.getD (j+m-j) undef)/\RV _ _ _ _ _ (v.cells.getD (j+m-j) undef);rw[BQ,rA,bx,bJ];rw[eS]at zm
                refine⟨?_,zm.under (n:=r0) (.inl (by simp)) hz QJ (λ_ _=>rfl)⟩
                rw[show i*aA C+(j+m)-(i*aA C+j)=m by omega];exact JS
           ·cases F
          ·cases F
         ·cases h
        ·cases h
       ·cases h
      ·cases h
     ·cases h
    ·cases h
  ·cases h
 ·cases h
def aiF{t:TypeId}{x y:A}:cu λX k=>rW (X:=X) P σ t x y k:=λX Y k g=>by
 unfold rW
 repeat' first|rfl|refine cK ?_ ?_|split
end
def Kp(P:Program)(f:Nat)(F:aa Int->ah Int):Prop:=
 ∀ (w:World) (l:aa (T .u8)) (h:Int) (v:Value),F l=some h->RV w w.heap.size (λ_=>none) [] (.sl .u8 0 false l) v->Hd w (λ_=>none)->Calls P f #[v] w λe w'=>
  ∃b off cells t,e = .returned (.pointer (some ⟨b,off,none⟩))/\Below w.heap.size w w'/\w.heap.size<=b/\w'.heap[b]?=some (.cells cells t (0,0))/\cells[off]?=some v/\cells[off+1]?=some (.int .i64 0)/\cells[off+2]?=some (.int .i64 h)
def Fo{X:Type}(N:Nat)(σ:S)(d:Nat)(F:aa Int->ah Int)(x:A)(k:S->ah X):ah X:=
 match x with
 | .lf (.v (.sl .u8 0 q l))=>bif Nat.blt d N then (match F l with
  |some h=>k (((σ.drop (1000000000100000+1000*d)).root (1000000000100000+1000*d) (.blk [.v (.sl .u8 0 q l),.v (.int .i64 0),.v (.int .i64 h)])).set d (.aI (1000000000100000+1000*d) 0))
  |none=>none)else none
 |_=>none
structure zU where
 a:Nat
 j:Nat
 t:TC
 run:List Pt->Option (Nat×Nat)
def rX(bB:Array Value)(a j:Nat):ah Value:=match bB[a]? with
 |some (.agg us)=>us[j]?
 |some u=>bif Nat.beq j 0 then some u else none
 |none=>none
def Kq(P:Program)(f:Nat)(c:zU):Prop:=
 ∀ (args:aa Pt) (p:Nat×Nat),c.run args=some p->∀ (w:World) (bB:Array Value),pn w args bB->Hd w (λ_=>none)->Calls P f bB w λe w'=>
  ∃A n cap,rX bB c.a c.j=some (.slice A n cap)/\p.1<=p.2/\p.2<=n/\e = .returned (sliced A p.1 p.2 cap (aA c.t))/\Below w.heap.size w w'
def Xd(σ:S)(args:aa Operand)(a j:Nat):ah Lf:=match args[a]? with
 | some x=>(match aE σ x with
  |.agg cs=>cs[j]?
  |.lf l=>bif Nat.beq j 0 then some l else none
  |_=>none)
 |none=>none
def Fp{X:Type}(N:Nat)(σ:S)(d:Nat)(c:zU)(args:aa Operand)(k:S->ah X):ah X:=
 bif Nat.blt d N then qx σ args λps=>(match c.run ps with
  | some p=>(match Xd σ args c.a c.j with
   |some (.v (.sl t g _ l))=>if t=c.t then (bif Nat.blt g 2&&Nat.ble p.1 p.2&&Nat.ble p.2 l.length then k (σ.set d (.lf (.v (.sl t g false ((l.take p.2).drop p.1)))))else none)else none
   |_=>none)
  |none=>none)else none
structure rY where
 run:(X:Type)->Nat->S->List A->(S->A->Option X)->Option X
def Cp{α β:Type}(f:(X:Type)->(α->β->ah X)->ah X):Prop:=∀(X Y:Type) (k:α->β->ah X) (g:X->ah Y),(f X k).bind g=f Y λa b=>(k a b).bind g
def Cp.jV{α β:Type}{f:(X:Type)->(α->β->ah X)->ah X}(n:Cp f){X:Type}{k:α->β->ah X}{r:X}(h:f X k=some r):∃ a b,k a b=some r/\∀ (X:Type) (k:α->β->ah X),f X k=k a b:=by
 obtain⟨⟨a,b⟩,C,D⟩:=cu.jV (f:=λX (k:α×β->ah X)=>f X λa b=>k (a,b)) (λX Y k g=>n X Y _ g) (k:=λp=>k p.1 p.2) h;exact⟨a,b,C,λX k=>D X λp=>k p.1 p.2⟩
def vj(P:Program)(f:Nat)(c:rY):Prop:=(∀ N σ xs,Cp λX k=>c.run X N σ xs k)/\
 ∀ [Inhabited Wd] (N:Nat) (σ:S) (xs:aa A) (C:S) (y:A),c.run (S×A) N σ xs (λσ y=>some (σ,y))=some (C,y)->
  ∀ (w0:Wd) (lab:bg) (ρ:Nat->Loc) (a:Act) (w:World) (bB:Array Value),Rl w0 N lab ρ σ a w->bB.size=xs.length->(∀ i,RA w w0.heap.size lab ρ ((xs[i]?).getD .undef) (bB.getD i undef))->
   Calls P f bB w λe w'=>∃v ax ρ',e = .returned v/\Rl w0 N ax ρ' C a w'/\RA w' w0.heap.size ax ρ' y v
inductive pJ where
 |p (c:ji)
 |m (c:lV)
 |n (F:List Int->Option Int)
 |v (c:zU)
 |i (c:rY)
 |d (c:lV)
 |q (c:ji)
 |c (c:lV)
def QK(P:Program)(f:Nat):pJ->Prop
 |.p c=>iY P f c
 |.m c=>th P f c
 |.n F=>Kp P f F
 |.v c=>Kq P f c
 |.i c=>vj P f c
 |.d c=>th P f c
 |.q c=>iY P f c
 |.c c=>th P f c
section
variable {P:Program} {w w':World} {w0:Wd} {B N:Nat} {lab cT ax:bg} {ρ eB ρ':Nat->Loc} {σ:S} {a:Act} {X:Type} {d:Nat} {r:X} {ns cn:aa Nat} {o:Oper}
def Xe:∀ (xs:aa Lf),cu λX k=>qC (X:=X) σ ns xs k
 |[]=>λ_ _ _ _=>rfl
 |x::xs=>λX Y k g=>cK ((Cm.comp λy=>(Xe xs).comp (b:=λX k ys=>k (y.fJ::ys)) λ_ _ _ _ _=>rfl) X Y k g) rfl
def Xf{x:A}:cu λX k=>pI (X:=X) σ ns x k:=λX Y k g=>by
 unfold pI
 repeat' first|rfl|exact Xe _ _ _ _ _|refine cK ?_ ?_|split
def Kr:∀ (ps:aa PK) (xs:aa Operand) (C:aa Mu),cu λX k=>iD (X:=X) σ ns ps xs C k:=λps=>by
 induction ps with
 |nil=>intro xs C X Y k g;cases xs<;>cases C<;>rfl
 | cons p ps D=>
  intro xs C X Y k g;cases xs with
  |nil=>cases p<;>cases C<;>rfl
  | cons x xs=>
   cases p with
   | v b t=>
    refine(Xf _ _ _ _).trans (bu _ (funext λp=>cK ?_ rfl))
    split
    ·exact D _ _ _ _ _ _
    ·rfl
   | p t E o=>
    cases C with
    |nil=>rfl
    | cons m C=>cases m with
     |sl=>rfl
     | blk=>
      simp only[iD];split
      ·exact D _ _ _ _ _ _
      ·rfl
   | s t E=>
    cases C with
    |nil=>rfl
    | cons m C=>cases m with
     |blk=>rfl
     | sl=>
      simp only[iD];split
      ·exact D _ _ _ _ _ _
      ·rfl
def aiG{C:ah Tmp}{D:fq}:cu λX k=>ox (X:=X) N σ C D k:=λX Y k g=>by
 unfold ox
 repeat' first|rfl|exact Kk _ _ _ _|refine cK ?_ ?_|split
def QL{C:ah Tmp}{c:lV}{args:aa Operand}:cu λX k=>mE (X:=X) N σ C c args k:=λX Y k g=>by
 unfold mE;split
 ·refine cK ((Kr _ _ _ _ _ _ _).trans (bu _ (funext λx=>?_))) rfl
  split
  ·exact cK (aiG _ _ _ _) rfl
  ·rfl
 ·rfl
def aiH{F:aa Int->ah Int}{x:A}:cu λX k=>Fo (X:=X) N σ d F x k:=λX Y k g=>by
 unfold Fo
 repeat' first|rfl|refine cK ?_ ?_|split
def aiI{f:Nat}{x:Operand}{args:Array Operand}{T:Array TypeId}{F:aa Int -> ah Int}{k:S -> ah X}(ho:o.op = .call { callee:=.value (.func f),args,argTypes:=T })(hx:args.toList=[x])(hd:o.dst=some d)(he:enters P f)(hc:Kp P f F)(h:Fo N σ d F (aE σ x) k=some r):
  ∃U,k U=some r/\jA P w0 N o σ U:=by
 unfold Fo at h;split at h
 ·rename_i q l hq;cases E:Nat.blt d N with
  |false=>rw[E]at h;cases h
  | true=>
   rw[E,aj]at h;have Cb:d<N:=cr E;split at h
   ·rename_i Y hhz
    refine⟨_,h,λa w K Q hR hK=>?_⟩
    obtain⟨lab,ρ,hR⟩:=hR;have I:=hR.aE x;rw[hq]at I;have uT:RV w w.heap.size (λ_=>none) [] (.sl .u8 0 false l) (a.eval x):=by
     have Z:RV w w.heap.size (λ_=>none) [] (.sl .u8 0 q l) (a.eval x):=I.2.fJ;cases q with
     |false=>exact Z
     |true=>exact Z.wk (.q _ _ _)
    unfold Oper.wp;rw[J2 w o a f args T ho he,Oper.upon_enter];have va:(args.map a.eval) = #[a.eval x]:=by apply Array.ext';rw[Array.toList_map,hx];rfl
    rw[va]
    refine(hc w l _ _ hhz uT (w0.on hR.below (λ_ _ h=>by cases h))).mono λe w' lS=>?_
    obtain⟨b,off,cells,t,rfl,L,hb,hh,rO,QM,lP⟩:=lS;have hB:=hR.below.size;have iM:b<w'.heap.size:=(gD.1 hh).1;have qE:Rl w0 N (bE lab b (some [1000000000100000+1000*d])) ρ σ a w':=by
     refine hR.grow L (λc O=>bZ _ _ _ (by omega)) (λc k O D=>?_)
     by_cases e:c=b
     ·subst e;rw[bF]at D;injection D with D
      grind
     ·rw[bZ _ _ _ e]at D;have:=(hR.cE c k D).2.1;omega
    have jD:=qE.new (d:=1000000000100000+1000*d) (x:=.blk [.v (.sl .u8 0 q l),.v (.int .i64 0),.v (.int .i64 Y)]) (.blk b off) (by
     refine .blk b off cells t _ (λj=>(#[a.eval x,.int .i64 0,.int .i64 Y]:Array Value).getD j undef) (bF _ _ _) (bF _ _ _) hh (by
      have:=(gD.1 lP).1;simp;omega) (λj y C=>?_)
     have ER:di w' w0.heap.size (bE lab b (some [1000000000100000+1000*d])) (bE ρ (1000000000100000+1000*d) (.blk b off)) (.v (.sl .u8 0 q l)) (a.eval x):=by
      refine⟨rfl,I.2.jz L.size (λc O=>⟨L.block c O,bZ _ _ _ (by omega)⟩)⟩
     match j,C with
     |0,C=>simp at C;subst C;exact⟨rO,ER⟩
     |1,C=>simp at C;subst C;exact⟨QM,rfl,.int _ _ _⟩
     |2,C=>simp at C;subst C;exact⟨lP,rfl,.int _ _ _⟩
     |j+3,C=>simp at C) (hR.cY _ (.inr (by omega)))
    rw[hd];exact hK _ _ ⟨_,_,jD.set ⟨b,off,bF _ _ _,rfl⟩ Cb⟩
   ·cases h
 ·cases h
def aiJ{f:Nat}{args:Array Operand}{L:Array TypeId}{c:zU}{k:S -> ah X}(Z:o.op = .call { callee:=.value (.func f),args,argTypes:=L })(hd:o.dst=some d)(he:enters P f)(hc:Kq P f c)(h:Fp N σ d c args.toList k=some r):∃ O,k O=some r/\jA P w0 N o σ O:=by
 unfold Fp at h;cases T:Nat.blt d N with
 |false=>grind
 | true=>
  rw[T,aj]at h;have Cb:d<N:=by have:=cr T;omega
  obtain⟨ps,E,nQ⟩:=Wm (w0:=w0) (N:=N) _ _ h;split at E
  ·rename_i p hp;split at E
   ·rename_i t g q l hl;split at E
    ·rename_i lQ;cases hb:(Nat.blt g 2&&Nat.ble p.1 p.2&&Nat.ble p.2 l.length)with
     |false=>grind
     | true=>
      rw[hb,aj]at E;rw[aH,aH]at hb;have U:g<2:=by have:=cr hb.1.1;omega
      have pK:=cr hb.1.2;have h2l:=cr hb.2
      refine⟨_,E,λa w K Q hR hK=>?_⟩
      obtain⟨lab,ρ,hR⟩:=hR;unfold Oper.wp;rw[J2 w o a f args L Z he,Oper.upon_enter];have va:(args.map a.eval)=(args.toList.map a.eval).toArray:=by apply Array.ext';rw[Array.toList_map]
      rw[va]
      refine(hc ps p hp w _ (nQ lab ρ a w hR) (w0.on hR.below (λ_ _ h=>by cases h))).mono λe w' lS=>?_
      obtain⟨A,n,cap,C,hle,hn,rfl,I⟩:=lS;have kI:RV w w0.heap.size lab [] (.sl t g q l) (.slice A n cap):=by
       unfold Xd at hl;split at hl
       ·rename_i x hx;have hev:((args.toList.map a.eval).toArray)[c.a]?=some (a.eval x):=by
         rw[List.getElem?_toArray,dI,hx];rfl
        unfold rX at C;rw[hev]at C;have D:=hR.aE x;split at hl
        next cs kH=>rw[kH]at D;obtain⟨us,iL,hrl⟩:=D;rw[iL]at C;obtain⟨u,F,hr⟩:=hrl.2 _ _ hl;simp only at C;rw[C]at F;injection F with F;subst F;exact hr.2
        ·rename_i lf uY;rw[uY]at D;cases hj:Nat.beq c.j 0 with
         |false=>grind
         | true=>
          rw[hj]at hl C;injection hl with hl;subst hl;have D:di w w0.heap.size lab ρ (.v (.sl t g q l)) (a.eval x):=D;have Y:∀ us,a.eval x ≠ .agg us:=by
           intro us e;rw[e]at D;cases D.2
          generalize a.eval x=z at C D Y;cases z<;>first|exact absurd rfl (Y _)|(simp only[aj,gG]at C;cases C;exact D.2)|(simp only[aj,gG]at C;cases C)
        ·cases hl
       ·cases hl
      obtain⟨QN,B7,Pw⟩:=kI.part (a:=p.1) (h:=p.2) U pK h2l;subst lQ;rw[hd];have eG:=hR.grow I (ax:=lab) (λ_ _=>rfl) (λb k hb hk=>absurd (hR.cE b k hk).2.1 (Nat.not_lt.2 hb));refine hK _ _ ⟨lab,ρ,eG.set ⟨by simp[V.aF,U],?_⟩ Cb⟩;exact QN.jz I.size λb hb=>⟨I.block b hb,rfl⟩
    ·cases E
   ·cases E
  ·cases E
def aiK{c:zU}{args:aa Operand}:cu λX k=>Fp (X:=X) N σ d c args k:=λX Y k g=>by
 unfold Fp
 refine cK ((Co _ _ _ _).trans (bu _ (funext λps=>?_))) rfl
 repeat' first|rfl|refine cK ?_ ?_|split
/-! Calls of functions that are run in the state of their caller. -/
def Fq{X:Type}(N:Nat)(σ:S)(C:ah Tmp)(c:rY)(xs:aa A)(k:S->ah X):ah X:=c.run X N σ xs λD y=>gk N D C y k
def aiL(p:Nat×Nat):A:=.aI p.1 p.2
def Fs(σ:S):aa Operand->ah (aa (Nat×Nat))
 |[]=>some []
 | x :: xs=>match aE σ x,Fs σ xs with
  |.aI r j,some ps=>some ((r,j)::ps)
  |_,_=>none
def aiM(w:World)(o:Oper)(a:Act)(f:Nat)(cl:Operand)(C:Array Value)(args:Array Operand)(E:Array TypeId)(F:o.op = .call { callee:=.value cl,args,argTypes:=E })(I:a.eval cl = .func (.func f) #[] C)(L:enters P f):
  (execOp a.eval o).run P w = .ok (.enter f (args.map a.eval++C)) w:=by
 obtain⟨fn,O,T,D⟩:=L;have U:¬ fn.name = "runtime.NumGoroutine":=by simpa using T
 have Y:¬ fn.body=none:=by intro e;rw[e]at D;cases D
 simp[execOp,F,resolve,I,Deferred.ofValue,invoke,callFunc,Sem.run,O,U,Y]
def Kt:A->ah (Nat×aa A)
 |.fn f cap=>some (f,cap.map aiL)
 |.lN f cs=>some (f,[.ij cs])
 |_=>none
def aiN{x:A}{f:Nat}{ex:aa A}{u:Value}(h:Kt x=some (f,ex))(L:RA w B lab ρ x u):∃ D:Array Value,u = .func (.func f) #[] D/\D.size=ex.length /\ ∀ (j:Nat) y,ex[j]?=some y -> RA w B lab ρ y (D.getD j undef):=by
 unfold Kt at h;split at h
 ·rename_i Y cap;injection h with h;injection h with E F;subst E F;obtain⟨D,O,T,U⟩:=L
  refine⟨D,O,by simp[T],λj y C=>?_⟩
  rw[dI]at C;cases I:cap[j]? with
  |none=>simp_all
  | some p=>
   rw[I]at C;injection C with C;subst C;obtain⟨b,off,E,F⟩:=U _ p I;rw[gw,F];exact⟨b,off,E,rfl⟩
 ·injection h with h;injection h with E F;subst E F;obtain⟨pv,e,I⟩:=L
  refine⟨#[pv],e,rfl,λj y C=>?_⟩
  rcases j with _|j
  ·injection C with C;subst C;exact I
  ·cases C
 ·cases h
def Xg{f:Nat}{cl:Operand}{ex:aa A}{args:Array Operand}{U:Array TypeId}{c:rY}{k:S->ah X}(ho:o.op = .call { callee:=.value cl,args,argTypes:=U })(uU:Kt (aE σ cl)=some (f,ex))(he:enters P f)(Y:vj P f c)
  (h:Fq N σ o.dst c (args.toList.map (aE σ)++ex) k=some r):∃Z,k Z=some r/\jA P w0 N o σ Z:=by
 unfold Fq at h
 haveI:Inhabited Wd:=⟨w0⟩
 obtain⟨oz,y,C,D⟩:=(Y.1 _ _ _).jV h;have EZ:=Y.2 _ _ _ _ _ (D _ _);have step:∀ a w K Q,R w0 N σ a w->(∀ v w' ax ρ',Rl w0 N ax ρ' oz a w'->RA w' w0.heap.size ax ρ' y v->K (a.put o.dst v) w')->o.wp P a w K Q:=by
  intro a w K Q hR E;obtain⟨lab,ρ,hR⟩:=hR;obtain⟨I,hv,hs,jX⟩:=aiN uU (hR.aE cl);unfold Oper.wp;rw[aiM w o a f cl I args U ho hv he,Oper.upon_enter]
  refine(EZ w0 lab ρ a w _ hR (by simp[hs]) λi=>?_).mono λe w' lS=>?_
  ·by_cases hi:i<args.size
   ·have e1:(args.toList.map (aE σ)++ex)[i]?=some (aE σ args[i]):=by
     rw[List.getElem?_append_left (by simpa using hi),dI,Array.getElem?_toList,Array.getElem?_eq_getElem hi];rfl
    have L:(args.map a.eval++I).getD i undef=a.eval args[i]:=by
     rw[gw,Array.getElem?_append_left (by simpa using hi)];simp[hi]
    rw[e1,L];exact hR.aE _
   ·have e0:(args.toList.map (aE σ)++ex)[i]?=ex[i-args.size]?:=by
     rw[List.getElem?_append_right (by simp;omega)];simp
    rw[e0];cases hp:ex[i-args.size]? with
    |none=>trivial
    | some p=>
     have L:(args.map a.eval++I).getD i undef=I.getD (i-args.size) undef:=by
      rw[gw,Array.getElem?_append_right (by simp;omega),gw];simp
     rw[L];exact jX _ p hp
  ·obtain⟨v,ax,ρ',rfl,F,O⟩:=lS;exact E v w' ax ρ' F O
 unfold gk at C;split at C
 ·rename_i D
  refine⟨oz,C,λa w K Q hR E=>step a w K Q hR λv w' ax ρ' F _=>?_⟩
  rw[D];exact E _ _ ⟨ax,ρ',F⟩
 ·rename_i d D;cases T:Nat.blt d N with
  |false=>rw[T]at C;cases C
  | true=>
   rw[T,aj]at C
   refine⟨_,C,λa w K Q hR E=>step a w K Q hR λv w' ax ρ' F O=>?_⟩
   rw[D];exact E _ _ ⟨ax,ρ',F.set O (by have:=cr T;omega)⟩
def Xh:∀ (xs:aa Operand) (ps:aa (Nat×Nat)),Fs σ xs=some ps -> ps.length=xs.length /\ ∀ lab ρ a w,Rl w0 N lab ρ σ a w -> ∀ (j:Nat) p,ps[j]?=some p -> ∃ b off,ρ p.1 = .blk b off/\(xs.map a.eval)[j]?=some (.pointer (some ⟨b,off+p.2,none⟩))
 | [],ps,h=>by
  simp only[Fs,gG]at h;simp_all
 | x :: xs,ps,h=>by
  unfold Fs at h;split at h
  ·rename_i rr j F I L;injection h with h;subst h;obtain⟨O,T⟩:=Xh xs F L
   refine⟨by simp[O],λlab ρ a w hR C p D=>?_⟩
   cases C with
   | zero=>
    simp at D;subst D;have E:=hR.aE x;rw[I]at E;obtain⟨b,off,U,Y⟩:=E;simp_all
   |succ C =>grind
  ·cases h
end
def A.xz(q s n:Nat):A->A
 |.lf (.own [C])=>bif Nat.beq C q then .view [q] s 0 n else .lf (.own [C])
 |x=>x
def S.xz(σ:S)(p:Nat×Nat×Nat):S:=⟨λk=>(σ.t k).xz p.1 p.2.1 p.2.2,σ.m⟩
def QO:aa (Nat×Nat×Nat)->S->S
 |[],σ=>σ
 |p::l,σ=>QO l (σ.xz p)
def QS(c0 g:Nat):Mu->aa (Nat×Nat×Nat)
 |.sl q (.sl t _ _ l)=>bif Nat.ble 1000000 g&&Nat.blt q c0 then [(q,aA t,l.length)]else []
 |_=>[]
def Ft(c0:Nat):aa PK->aa Mu->aa (Nat×Nat×Nat)
 |.v _ _::ps,C=>Ft c0 ps C
 |.p _ _ _::ps,_::C=>Ft c0 ps C
 |.s _ g::ps,D::C=>QS c0 g D++Ft c0 ps C
 |_,_=>[]
def Fu{X:Type}(N:Nat)(σ:S)(C:ah Tmp)(c:lV)(args:aa Operand)(k:S->ah X):ah X:=
 match iC σ c.ps args with
 |some D=>mE N σ C c args λE=>k (QO (Ft (gy C) c.ps D) E)
 |none=>none
section
variable {P:Program} {w w':World} {w0:Wd} {B N:Nat} {lab cT ax:bg} {ρ eB ρ':Nat->Loc} {σ:S} {a:Act} {X:Type} {d:Nat} {r:X} {o:Oper}
def Rl.xz{p:Nat×Nat×Nat}{ad:ah Addr}{c:Nat}(h:Rl w0 N lab ρ σ a w)(E:ρ p.1 = .cO (.slice ad p.2.2 c)):Rl w0 N lab ρ (σ.xz p) a w:=by
 refine⟨h.below,h.cE,h.root,λk=>?_,h.size,h.defers,h.fix,h.cY⟩
 have C:=h.tmp k;show RA _ _ _ _ ((σ.t k).xz p.1 p.2.1 p.2.2) _;generalize σ.t k=x at C;unfold A.xz;split
 ·rename_i F;cases hb:Nat.beq F p.1 with
  |false=>exact C
  | true=>
   obtain rfl:=cv hb;have D:=C.2;simp only[cC,E]at D;injection D with D;refine⟨ad,p.2.2,c,by simp[cC,E],gF _,c9 _,?_⟩;rw[<- D];cases ad<;>simp[sliced,Addr.add]
 ·exact C
def Xi:∀ (l:aa (Nat×Nat×Nat)) (σ:S),Rl w0 N lab ρ σ a w->(∀ p∈l,∃ A c,ρ p.1 = .cO (.slice A p.2.2 c))->Rl w0 N lab ρ (QO l σ) a w
 |[],σ,h,_=>h
 | p :: l,σ,h,hl=>by
  obtain⟨A,c,C⟩:=hl p (.head _);exact Xi l _ (h.xz C) λp C=>hl p (.tail _ C)
def aiO{c0 g:Nat}{D:Mu}{p:Nat×Nat×Nat}(h:p∈QS c0 g D):∃ q t o C l,D = .sl q (.sl t o C l)/\p=(q,aA t,l.length)/\q<c0:=by
 unfold QS at h;split at h
 ·rename_i q t o C l;cases hb:(Nat.ble 1000000 g&&Nat.blt q c0)with
  |false=>simp_all
  | true=>
   rw[hb]at h;rw[aH]at hb;exact⟨q,t,o,C,l,rfl,ng.1 h,cr hb.2⟩
 ·cases h
def Ku{c0:Nat}{p:Nat×Nat×Nat}:∀ (ps:aa PK) (C:aa Mu),p∈Ft c0 ps C -> ∃ q t o D l,Mu.sl q (.sl t o D l)∈C/\p=(q,aA t,l.length)/\q<c0
 |.v _ _::ps,C,h=>Ku ps C h
 |.p _ _ _::ps,I::C,h=>let ⟨q,t,o,D,l,F,E⟩:=Ku ps C h;⟨q,t,o,D,l,.tail _ F,E⟩
 | .s _ g :: ps,I :: C,h=>by
  rcases List.mem_append.1 h with h|h
  ·obtain⟨q,t,o,D,l,rfl,E⟩:=aiO h;exact⟨q,t,o,D,l,.head _,E⟩
  ·obtain⟨q,t,o,D,l,F,E⟩:=Ku ps C h;exact⟨q,t,o,D,l,.tail _ F,E⟩
def RV.aiP{q:aa Nat}{t:TC}{g:Nat}{C:Bool}{l:aa (T t)}{v:Value}(h:RV w B lab q (.sl t g C l) v):∃ A c,v = .slice A l.length c:=by
 cases h<;>exact⟨_,_,rfl⟩
def aiQ{f:Nat}{args:Array Operand}{O:Array TypeId}{c:lV}{k:S->ah X}(T:o.op = .call { callee:=.value (.func f),args,argTypes:=O })(U:enters P f)(Y:th P f c)(h:Fu N σ o.dst c args.toList k=some r):∃ E,k E=some r/\jA P w0 N o σ E:=by
 unfold Fu at h;split at h
 ·rename_i WS F;obtain⟨oz,Kv,cn,Z,D,_,h4,h5⟩:=Qj (w0:=w0) T U Y h;rw[F]at D;injection D with D;subst D
  refine⟨_,Z,λa w K Q hR hK=>?_⟩
  obtain⟨lab,ρ,hR⟩:=hR
  refine h5 a w K Q lab ρ hR λv w' cT eB tC eG hv _ cD=>hK _ _ ⟨cT,tC,Xi _ _ eG λp hp=>?_⟩
  obtain⟨q,t,oo,qn,l,I,rfl,hq⟩:=Ku _ _ hp;have lW:=(J9 _ _ _ F _ I).1;have L:=hR.root q _ lW;generalize C:aM.sl _=z at L;cases L with
  |blk=>cases C
  |mp=>cases C
  |gh=>cases C
  | sl u y PF hr=>
   injection C with C;subst C;obtain⟨A,c,rfl⟩:=hr.aiP;exact⟨A,c,(cD q hq).trans ((hv.eA q (h4 _ I)).trans PF)⟩
 ·cases h
def aiR{C:ah Tmp}{c:lV}{args:aa Operand}:cu λX k=>Fu (X:=X) N σ C c args k:=λX Y k g=>by
 unfold Fu;split
 ·exact QL _ _ _ _
 ·rfl
end
def bg.un(lab:bg)(q:Nat):bg:=λb=>match lab b with
 |some k=>bif cF q k then none else some k
 |none=>none
def Fv{X:Type}(P:Program)(σ:S)(q s i j:Nat)(t:TypeId)(x:A)(k:S->ah X):ah X:=
 match σ.m q with
 |some (.sl (.sl C (o+2) D l))=>bif Nat.beq s (aA C)&&Nat.beq (full C) 0 then ou P (σ.drop q) t (x.drop q) (.lf (.v (.sl C 0 false ((l.take j).drop i)))) k else none
 |_=>none
section
variable {P:Program} {w w':World} {w0:Wd} {B N:Nat} {lab ax:bg} {ρ ρ':Nat->Loc} {σ:S} {a:Act} {X:Type} {d q:Nat} {r:X} {o:Oper} {y:V}
def aiS(C:∀ b,lab b≠some []):Rel q lab (lab.un q):=
 ⟨C,λb h=>by simp[bg.un,h],λb k h D=>by simp[bg.un,h,D]⟩
def RV.ice{C:TC}{g:Nat}{O:Bool}{l:aa (T C)}{A:ah Addr}{n c:Nat}(E:RV w B lab [q] (.sl C (g+2) O l) (.slice A n c))(Z:full C=0):RV w B (lab.un q) [] (.sl C 0 false l) (.slice A n c)/\n=l.length:=by
 cases E with
 |dN=>exact⟨.dN _ _ _,rfl⟩
 |eX=>grind
 |fB=>grind
 |aF _ _ _ _ _ _ _ _ _ ho=>omega
 | own=>
  rename_i b cs u hl I hc E hs U hm;have L:∀ (i:Nat) (h:i<l.length) (j:Nat) (x:V),(enc C 0 l[i])[j]?=some x -> (enc C g l[i])[j]?=some x/\x.plain=true:=by
   intro i h j x D;obtain⟨y,F,rfl⟩:=uG C g l[i] j x D;have Y:=Jx C g l[i] y (fP F);cases y with
   | sl t' o' q' l'=>
    have:=cr (show Nat.ble _ _=true from Y);omega
   | nil=>
    have:=OS C g l[i] _ (fP F);cases this
   |_=>exact⟨F,rfl⟩
  refine⟨.aF _ _ _ _ _ b 0 c u (by omega) (by simp[bg.un,hl,cF]) (gD.1 I).1 (by omega) U (λi h j x D=>?_) (λi h j x D=>?_),rfl⟩
  ·rw[eS,cell_of_row w b _ cs _ _ I];simp_all
  ·exact(E i h j x (L i h j x D).1).rz (L i h j x D).2
def aiT{s i j:Nat}{t:TypeId}{x:A}{k:S -> ah X}(h:Fv P σ q s i j t x k=some r):∃ E,k E=some r /\ ∀ lab ρ a w,Rl w0 N lab ρ σ a w -> ∀ u v,RA w w0.heap.size lab ρ x u -> RA w w0.heap.size lab ρ (.view [q] s i j) v ->
  ∃w' ax,(Instr.storeAt t u v).run P w = .ok () w'/\Rl w0 N ax ρ E a w':=by
 unfold Fv at h;split at h
 ·rename_i F g Y l Z;cases hb:(Nat.beq s (aA F)&&Nat.beq (full F) 0)with
  |false=>rw[hb]at h;cases h
  | true=>
   rw[hb,aj]at h;rw[aH]at hb;obtain rfl:=cv hb.1;have hf:=cv hb.2;obtain⟨E,h1,hs⟩:=VR (w0:=w0) (N:=N) h
   refine⟨E,h1,λlab ρ a w hR u v hu hv=>?_⟩
   have I:Rel q lab (lab.un q):=aiS hR.uP;have qE:=hR.rel I (λb k C=>by
    unfold bg.un at C;cases hl:lab b with
    |none=>rw[hl]at C;cases C
    | some L=>
     rw[hl]at C;simp only at C;cases O:cF q L with
     |true=>rw[O]at C;cases C
     | false=>
      rw[O]at C;injection C with C;subst C;exact⟨⟨_,rfl⟩,(hR.cE b L hl).2.2⟩)
   obtain⟨A,n,c,T,h3,h4,rfl⟩:=hv;have U:=hR.root q _ Z;generalize D:aM.sl (.sl F (g+2) Y l)=z at U;cases U with
   |blk=>cases D
   |mp=>cases D
   |gh=>cases D
   | sl vq y cD hr=>
    injection D with D;subst D;have hvq:vq = .slice A n c:=by
     simp only[cC,cD]at T;injection T
    subst hvq;obtain⟨h5,h6⟩:=hr.ice hf;have h7:=(h5.part (by omega) h3 (by omega)).1;obtain⟨w',dZ,jD⟩:=hs _ _ _ _ qE u _ (hu.rel I) (show RA _ _ _ _ (.lf (.v _)) _ from ⟨rfl,h7⟩);exact⟨w',_,dZ,jD⟩
 ·cases h
def aiU{q s i j:Nat}{t:TypeId}{x:A}:cu λX k=>Fv (X:=X) P σ q s i j t x k:=λX Y k g=>by
 unfold Fv
 repeat' first|rfl|exact W5 _ _ _ _|refine cK ?_ ?_|split
def Cq{X:Type}(P:Program)(σ:S)(t:TypeId)(x lo hi C:A)(k:ah X):ah X:=
 match x,lo,hi,C with
 | .lf (.own q),.lf (.v (.int _ a)),.lf (.v (.int _ b)),.lf (.v (.int _ c))=>(match oq P t with
  | some e=>(match iB P e with
   | some _=>iq σ.m q λy=>(match y with
    |.sl _ _ _ l=>if 0<=a/\a<=b/\b<=c/\c<=(l.length:Int)then k else none
    |_=>none)
   |none=>none)
  |none=>none)
 |_,_,_,_=>none
def aiV{t:TypeId}{x lo hi T:A}{k:ah X}(h:Cq P σ t x lo hi T k=some r):k=some r /\
  ∀lab ρ a w,Rl w0 N lab ρ σ a w -> ∀u F I L,RA w w0.heap.size lab ρ x u -> RA w w0.heap.size lab ρ lo F -> RA w w0.heap.size lab ρ hi I -> RA w w0.heap.size lab ρ T L -> ∃v,(Instr.sliceAt t u (some F) (some I) (some L)).run P w = .ok v w:=by
 unfold Cq at h;split at h
 ·rename_i q kl a kh b km c;split at h
  ·rename_i e O;split at h
   ·rename_i n U;obtain⟨y0,Px,C⟩:=qq q _ h;split at C
    ·rename_i tc g qn xs;split at C
     ·rename_i hb
      refine⟨C,λlab ρ ac w hR u F I L Y hl hh hm=>?_⟩
      rw[hl.2.fS,hh.2.fS,hm.2.fS];have Z:P.underlying t=some (.slice e):=by
       unfold oq at O;split at O
       ·grind
       ·cases O
      have fT:P.elem t=e:=by simp[Program.elem,Z]
      have Xj:P.underlying t=some (.slice (P.elem t)):=by rw[fT];exact Z
      have hss:(sizeOf (P.elem t)).run P w = .ok n w:=by
       unfold iB at U;cases hi:P.info? e with
       |none=>grind
       | some i=>
        have:i.size=n:=by simpa [hi]using U
        simp[sizeOf,typeInfo,fT,hi,this]
      obtain⟨v0,uT,jZ⟩:=Px.ok hR.root;have fo:∃ D n c,u = .slice D n c:=by
       have:=Y.1;cases u<;>first|cases this;done|exact⟨_,_,_,rfl⟩
      obtain⟨D,n',c',rfl⟩:=fo;have E:=Y.2;rw[uT]at E;injection E with E;subst E;have hf:RV w 0 (λ_=>none) [] (.sl tc 0 qn xs) (.slice D n' c'):=jZ.fJ;obtain⟨_,B7,Pw⟩:=RV.part (w:=w) hf (a:=0) (h:=xs.length) (by omega) (by omega) (by omega);refine⟨sliced D a.toNat b.toNat c.toNat n,?_⟩;rw[run_sliceAt_slice w t _ _ _ _ Xj,run_slice_lhm w t D n' c' Xj kl kh km a b c hb.1 hb.2.1 hb.2.2.1 (by omega),hss];rfl
     ·cases C
    ·cases C
   ·cases h
  ·cases h
 ·cases h
end
section
variable {P:Program} (w:World)
def aiW(base:Nat)(t u ty e:TypeId)(i:TypeInfo)(E:P.underlying t=some (.slice e))(F:P.underlying u=some .string)(hi:P.info? e=some i)(O:i.zero=some (.int .u8 0))
  (T:i.size=1) (U:i.bytes=1)
  (v:Value) (n:Nat) (xs:aa Value) (I:w.ownsRow base e 1 v n xs) (s:ByteArray)
  (Z:n+s.size <= maxLen) (Eg:n+s.size <= 140737488355328) (OG:base <= w.heap.size):
  ∃ D w',(Builtin.append_ #[t,u] ty #[v,.string s]).run P w = .ok D w'/\w'.ownsRow base e 1 D (n+s.size) (xs++Lib.strCells s)/\w.grownBy w' v.ownBlock /\
   (D.ownBlock=v.ownBlock \/ D.ownBlock=some w.heap.size):=by
 obtain⟨D,w',L,h2,h3,h4⟩:=Lib.run_append_own_string w base t u ty e i E F hi O T U v n xs I s Z Eg OG;refine⟨D,w',L,h2,h3,?_⟩;have hxl:xs.length=n:=by simpa using I.1
 rcases I.2 with ⟨rfl,rfl⟩|⟨g,cap,Y,rfl,hbg,hg,wW,hcm,kH,awF⟩
 ·by_cases hm:s.size=0
  ·simp_all
  ·have C:=run_append_nil_string w t u ty e i _ E F hi O s (by omega) (by omega) (by rw[U];omega);rw[L]at C;injection C with C;subst C;exact .inr rfl
 ·by_cases aiX:n+s.size <= cap
  ·have awG:Y.size=cap:=by simpa using kH
   have C:=Lib.run_append_room_string (P:=P) w t u ty e i E F hi T g n cap Y hg s aiX (by omega);rw[L]at C;injection C with C;subst C;exact .inl rfl
  ·have holds:∀j u,xs[j]?=some u -> w.cell? ((⟨g,0,none⟩:Addr).add j)=some u:=I.cells (g:=g) rfl;have C:=Lib.run_append_grow_string (P:=P) w t u ty e i (.int .u8 0) E F hi O ⟨g,0,none⟩ n cap xs (by rw[T];simpa using hxl) holds s (by omega) (by omega) (by rw[U];exact growslice_fits (by omega) (by omega));rw[L]at C;injection C with C;subst C;exact .inr rfl
end
def xB(s:ByteArray):aa Int:=s.data.toList.map λb=>(b.toNat:Int)
def aiY(s:ByteArray):(xB s).length=s.size:=by
 rw[xB,eE,jr];rfl
def aiZ(s:ByteArray):rE .u8 (xB s) (Lib.strCells s):=by
 intro i hi o j x C;have D:i<(xB s).length:=hi;rcases j with _|j
 ·have C:x = .int .u8 (xB s)[i]:=by cases C;rfl
  subst C
  refine⟨.int .u8 _[i],?_,rfl,λw' B' ax F=>.int _ _ _⟩
  have E:i<s.data.toList.length:=by rw[xB,eE]at D;exact D
  show _[i*1+0]?=_;rw[Nat.mul_one,Nat.add_zero,Lib.strCells,dI,bQ E];simp[xB]
 ·cases C
def qF(s:ByteArray):aa (T .u8):=xB s
def QT(s:ByteArray):(qF s).length=s.size:=aiY s
def ai0(s:ByteArray):rE .u8 (qF s) (Lib.strCells s):=aiZ s
section
variable {P:Program} {w w':World} {w0:Wd} {B N:Nat} {lab ax:bg} {ρ ρ':Nat->Loc} {σ:S} {a:Act} {X:Type} {d:Nat} {r:X}
def Rl.Xk{t Z e ty:TypeId}{i:TypeInfo}{rr o:Nat}{q:Bool}{l:aa (T .u8)}{u:Value}{s:ByteArray}(h:Rl w0 N lab ρ σ a w)(hF:w0.F rr=none)(fK:P.underlying t=some (.slice e))(iL:P.underlying Z=some .string)(ht:tid .u8=e)(hi:P.info? e=some i)(hz:i.zero=some (.int .u8 0))
  (hsz:i.size=1) (ir:i.bytes=1) (hd:RV w w0.heap.size lab [rr] (.sl .u8 (o+2) q l) u) (hlen:l.length+s.size<1073741824):
  ∃C w' ax,(Builtin.append_ #[t,Z] ty #[u,.string s]).run P w = .ok C w'/\Rl w0 N ax (bE ρ rr (.cO C)) ((σ.drop rr).root rr (.sl (.sl .u8 (o+2) false (l++qF s)))) a w'/\jy C=true:=by
 subst ht;obtain⟨xs,rF,O,BZ,fT⟩:=hd.owns rfl (B':=0) (λb _=>gF b);have zy:=ai0 s;have jY:=QT s;obtain⟨C,w',dZ,I,E,iM⟩:=aiW (P:=P) w 0 t Z ty (tid .u8) i fK iL hi hz hsz ir u l.length xs rF s (by unfold maxLen;omega) (by omega) (gF _);have zz:(l++qF s).length=l.length+s.size:=by rw[iH,jY]
 rw[<- zz]at I;have s9:=fT.append zy rF.1;have fo:jy C=true:=by rcases I.2 with ⟨rfl,_⟩|⟨_,_,_,rfl,_⟩<;>rfl
 have U:Below 0 w w':=(Below.refl 0 w).grown E (gF _) (λ_ _=>gF _);have o8:gQ w0 w w':=⟨U.os,U.tape,U.output,U.size,λk D hL=>E.block k (Nat.lt_of_lt_of_le D h.below.size) (λL=>by
  rcases(h.cE k _ (O k L.symm)).1 with h1|h1
  ·exact absurd D (Nat.not_lt.2 h1)
  ·exact h1 hL)⟩
 by_cases Y:C.ownBlock=some w.heap.size
 ·have dV:w.heap.size<w'.heap.size:=by
   rcases I.2 with ⟨rfl,_⟩|⟨b,cap,cs,rfl,_,hh,_⟩
   ·cases Y
   ·have:b=w.heap.size:=by simpa [Value.ownBlock]using Y
    grind
  refine⟨C,w',bE lab w.heap.size (some [rr]),dZ,h.s6 hF o8 ⟨E.size,λb hb cS=>E.block b hb (λL=>cS (O b L.symm)),λb hb=>bZ _ _ _ (by omega),λb hb=>(h.cE b [] hb).2.2 rfl⟩ (λb k hb D=>?_) (λr hr=>bZ _ _ _ hr) (.sl C _ (bF _ _ _) (EE I s9 (λb hb=>?_))),fo⟩
  ·by_cases e:b=w.heap.size
   ·subst e;rw[bF]at D
    grind
   ·rw[bZ _ _ _ e]at D;have:=(h.cE b k D).2.1;omega
  ·rw[Y]at hb;injection hb with hb;subst hb;exact bF _ _ _
 ·have EF:C.ownBlock=u.ownBlock:=by
   rcases iM with iM|iM
   ·exact iM
   ·exact absurd iM Y
  refine⟨C,w',lab,dZ,h.s6 hF o8 ⟨E.size,λb hb cS=>E.block b hb (λL=>cS (O b L.symm)),λ_ _=>rfl,λb hb=>(h.cE b [] hb).2.2 rfl⟩ (λb k hb D=>?_) (λr hr=>bZ _ _ _ hr) (.sl C _ (bF _ _ _) (EE I s9 (λb hb=>O b (by rw[<- EF];exact hb)))),fo⟩
  have:=(h.cE b k D).2.1;omega
def Kw(P:Program)(t C:TypeId):Bool:=
 (match rC P t with
 | some (e,.u8)=>(match P.info? e with
  | some i=>Nat.beq i.size 1&&Nat.beq i.bytes 1&&(match i.zero with
   |some (.int .u8 0)=>true
   |_=>false)
  |none=>false)
 |_=>false)&&(match P.underlying C with
 |some .string=>true
 |_=>false)
def Fw{X:Type}(P:Program)(N:Nat)(σ:S)(d:Nat)(t C:TypeId)(x y:A)(k:S->ah X):ah X:=
 match y with
 | .lf (.v (.str s))=>bif Kw P t C then (match x with
  |.lf (.v .nil)=>bif aT (qF s).length then fO N σ d (.sl (.sl .u8 2 false (qF s))) (.lf (.own [d])) k else none
  | .lf (.own [r])=>(match σ.m r with
   |some (.sl (.sl .u8 (o+2) q l))=>bif Nat.blt d N&&(Nat.blt r N ||Nat.ble 60000 r)&&aT (l.length+(qF s).length)then k (((σ.drop r).root r (.sl (.sl .u8 (o+2) false (l++qF s)))).set d (.lf (.own [r])))else none
   |_=>none)
  |_=>none)else none
 |_=>none
def ai1{t D:TypeId}(h:Kw P t D=true):∃ e i,P.underlying t=some (.slice e)/\tid .u8=e/\P.info? e=some i/\i.size=1/\i.bytes=1/\i.zero=some (.int .u8 0)/\P.underlying D=some .string:=by
 unfold Kw at h;rw[aH]at h;obtain⟨C,U⟩:=h;have E:P.underlying D=some .string:=by
  grind
 split at C
 ·rename_i e F;obtain⟨I,L,i,hi,Y,Z⟩:=uQ F;rw[hi]at C;simp only[aH]at C;obtain⟨⟨O,T⟩,h5⟩:=C;refine⟨e,i,I,L,hi,cv O,cv T,?_,E⟩
  grind
 ·cases C
def ai2{t I ty:TypeId}{x y:A}{k:S -> ah X}(h:Fw P N σ d t I x y k=some r):∃ Z,k Z=some r /\ ∀ lab ρ a w,Rl w0 N lab ρ σ a w -> ∀ u v,RA w w0.heap.size lab ρ x u -> RA w w0.heap.size lab ρ y v ->
  ∃w' ax ρ' z,(Builtin.append_ #[t,I] ty #[u,v]).run P w = .ok z w'/\Rl w0 N ax ρ' Z (a.put (some d) z) w':=by
 unfold Fw at h;split at h
 ·rename_i s;cases hb:Kw P t I with
  |false=>grind
  | true=>
   rw[hb,aj]at h;obtain⟨e,i,fK,ht,hi,hsz,ir,hz,iL⟩:=ai1 hb;split at h
   ·cases C:aT (qF s).length with
    |false=>grind
    | true=>
     rw[C,aj]at h;have C:(qF s).length<1073741824:=by simpa [aT]using C
     obtain⟨F,h3⟩:=kJ h
     refine⟨_,h3,λlab ρ a w hR u v E L=>?_⟩
     have E:u = .slice none 0 0:=by cases E.2;rfl
     subst E;obtain rfl:=L.2.om;obtain⟨O,w',ax,T,U,Y⟩:=hR.Xk (ty:=ty) (rr:=d) (o:=0) (q:=false) (l:=[]) (s:=s) (hR.cY d (.inl F)) fK iL ht hi hz hsz ir (.dN _ _ _) (by rw[QT]at C;simpa using C);exact⟨w',ax,_,O,T,U.set ⟨Y,by simp[cC,bF]⟩ F⟩
   ·rename_i rr;split at h
    ·rename_i o q l hm;cases C:(Nat.blt d N&&(Nat.blt rr N || Nat.ble 60000 rr)&&aT (l.length+(qF s).length))with
     |false=>grind
     | true=>
      rw[C,aj]at h;rw[aH,aH,dA]at C;have wY:l.length+(qF s).length<1073741824:=by simpa [aT]using C.2
      have F:d<N:=by have:=cr C.1.1;omega
      have ov:rr<N \/ 60000 <= rr:=C.1.2.imp (λh=>by have:=cr h;omega) (λh=>cr h)
      refine⟨_,h,λlab ρ a w hR u v E L=>?_⟩
      obtain rfl:=L.2.om;have eM:=hR.root rr _ hm;generalize D:aM.sl (.sl .u8 (o+2) q l)=x at eM;cases eM with
      |blk=>cases D
      |mp=>cases D
      |gh=>cases D
      | sl uu y cD hr=>
       injection D with D;subst D;have zu:uu=u:=by
        have h4:=E.2;simp only[cC,cD]at h4;simp_all
       subst zu;obtain⟨O,w',ax,T,U,Y⟩:=hR.Xk (ty:=ty) (s:=s) (hR.cY rr ov) fK iL ht hi hz hsz ir hr (by rw[QT]at wY;exact wY);exact⟨w',ax,_,O,T,U.set ⟨Y,by simp[cC,bF]⟩ F⟩
    ·cases h
   ·cases h
 ·cases h
def ai3{t C:TypeId}{x y:A}:cu λX k=>Fw (X:=X) P N σ d t C x y k:=λX Y k g=>by
 unfold Fw
 repeat' first|rfl|exact Fi _ _ _ _|refine cK ?_ ?_|split
end
def vk(l:aa (Int×Bool))(k:Int):Bool:=match l with
 |[]=>false
 |p::ps=>bif k==p.1 then p.2 else vk ps k
def qG(l:aa (Int×Bool))(k:Int)(v:Bool):aa (Int×Bool):=match l with
 |[]=>[(k,v)]
 |p::ps=>bif k==p.1 then (k,v)::ps else p::qG ps k v
def Cr(P:Program)(t:TypeId):Bool:=match P.underlying t with
 | some (.map k e)=>(match P.underlying k with
  |some (.int .i64)=>true
  |_=>false)&&(match zeroOf P e with
  |some (.bool false)=>true
  |_=>false)
 |_=>false
def QU{X:Type}(N:Nat)(σ:S)(d:Nat)(k:S->ah X):ah X:=fO N σ d (.mp []) (.pk d oV) k
def zV{X:Type}(P:Program)(σ:S)(t:TypeId)(x i:A)(k:A->ah X):ah X:=
 match x,i with
 | .pk r n,.lf (.v (.int .i64 key))=>bif Nat.beq n oV&&Cr P t then (match σ.m r with
  |some (.mp l)=>k (.lf (.v (.bool (vk l key))))
  |_=>none)else none
 |_,_=>none
def zW{X:Type}(P:Program)(σ:S)(t:TypeId)(x i v:A)(k:S->ah X):ah X:=
 match x,i,v with
 | .pk r n,.lf (.v (.int .i64 key)),.lf (.v (.bool b))=>bif Nat.beq n oV&&Cr P t then (match σ.m r with
  |some (.mp l)=>k ⟨σ.t,bE σ.m r (some (.mp (qG l key b)))⟩
  |_=>none)else none
 |_,_,_=>none
section
variable {P:Program} {w w':World} {w0:Wd} {B N:Nat} {lab ax:bg} {ρ ρ':Nat->Loc} {σ:S} {a:Act} {X:Type} {d:Nat} {r:X} {o:Oper}
def Xl{t:TypeId}(h:Cr P t=true):∃ k e i,P.underlying t=some (.map k e)/\P.underlying k=some (.int .i64)/\P.info? e=some i/\i.zero=some (.bool false):=by
 unfold Cr at h;split at h
 ·rename_i k e D;rw[aH]at h;obtain⟨E,F⟩:=h;have I:P.underlying k=some (.int .i64):=by
   grind
  have C:zeroOf P e=some (.bool false):=by
   grind
  unfold zeroOf at C;cases hi:P.info? e with
  |none=>simp_all
  |some i =>grind
 ·cases h
def Rl.newObj{D:Obj}{x:aM}{ρ':Nat -> Loc}(h:Rl w0 N lab ρ σ a w)(E:w0.F d=none)(I:∀ r,r≠d -> ρ' r=ρ r)
  (L:dz (w.alloc D) w0.heap.size (bE lab w.heap.size (some [d])) ρ' d x):Rl w0 N (bE lab w.heap.size (some [d])) ρ' ((σ.drop d).root d x) a (w.alloc D):=by
 refine h.s6 E (gQ.V0 w0 w _ h.below.size) ⟨by simp,λb hb _=>Below.heap_alloc w _ b hb,λb hb=>bZ _ _ _ (by omega),λb hb=>(h.cE b [] hb).2.2 rfl⟩ (λb k hb C=>?_) I L
 by_cases e:b=w.heap.size
 ·subst e;rw[bF]at C;injection C with C;subst C;simp_all
 ·rw[bZ _ _ _ e]at C;have:=(h.cE b k C).2.1;omega
def ai4{t:TypeId}{k:S -> ah X}(h:QU N σ d k=some r):∃ C,k C=some r /\ ∀ lab ρ a w,Rl w0 N lab ρ σ a w -> ∃ w' ax ρ' v,(Instr.makeMap t none).run P w = .ok v w'/\Rl w0 N ax ρ' C (a.put (some d) v) w':=by
 obtain⟨D,h⟩:=kJ h
 refine⟨_,h,λlab ρ a w hR=>?_⟩
 have E:(Instr.makeMap t none).run P w = .ok _ _:=rfl
 refine⟨_,bE lab _ _,bE ρ d _,_,E,(hR.newObj (hR.cY d (.inl D)) (λr F=>bZ _ _ _ F) ?_).set ⟨w.heap.size,bF _ _ _,(OV _).symm⟩ D⟩
 exact .mp _ 0 #[] [] (bF _ _ _) (bF _ _ _) (heap_alloc_new w _) rfl
def ai5:cu λX k=>QU (X:=X) N σ d k:=Fi
def ai6{t:TypeId}{x i:A}:cu λX k=>zV (X:=X) P σ t x i k:=λX Y k g=>by
 unfold zV
 repeat' first|rfl|refine cK ?_ ?_|split
def ai7{t:TypeId}{x i v:A}:cu λX k=>zW (X:=X) P σ t x i v k:=λX Y k g=>by
 unfold zW
 repeat' first|rfl|refine cK ?_ ?_|split
def zX(l:aa (Int×Bool)):aa (Value×Value):=l.map λp=>(.int .i64 p.1,.bool p.2)
def QV:∀ (C:aa MapEntry) (l:aa (Int×Bool)) (k:Int) (n:Nat),C.map (λe=>(e.key,e.val))=zX l ->
  (Instr.findNow (.int .i64) (.int .i64 k) C n=some none/\vk l k=false /\ ∀v,qG l k v=l++[(k,v)]) \/
  (∃i b,Instr.findNow (.int .i64) (.int .i64 k) C n=some (some (n+i,.bool b))/\vk l k=b /\ ∃h:i<C.length,C[i].key = .int .i64 k /\ ∀v,zX (qG l k v)=(C.modify i λe=>{ e with key:=.int .i64 k,val:=.bool v }).map (λe=>(e.key,e.val)))
 |[],[],k,n,_=>.inl ⟨rfl,rfl,λv=>rfl⟩
 |[],_::_,k,n,h=>by cases h
 |_::_,[],k,n,h=>by cases h
 | e :: C,p :: l,k,n,h=>by
  have h:(e.key,e.val) :: C.map (λe=>(e.key,e.val))=(.int .i64 p.1,.bool p.2) :: zX l:=h;injection h with T I;injection T with L U;have D:Instr.sameNow (.int .i64) (.int .i64 k) e.key=some (k==p.1):=by
   rw[L];simp[Instr.sameNow]
  cases hb:(k==p.1)with
  | true=>
   have Y:k=p.1:=by simpa using hb
   refine .inr ⟨0,p.2,?_,by simp only[vk,hb,aj],by simp,by simp[L,Y],λv=>?_⟩
   ·simp only[Instr.findNow,D,hb,U];rfl
   ·simp only[qG,hb];simp;show _::zX l=_;rw[I]
  | false=>
   rcases QV C l k (n+1) I with ⟨O,E,F⟩|⟨i,b,O,E,hi,F,a4⟩
   ·refine .inl ⟨?_,by simp[vk,hb,au,E],λv=>by simp only[qG,hb,F];rfl⟩
    simp[Instr.findNow,D,hb];exact O
   ·refine .inr ⟨i+1,b,?_,by simp only[vk,hb,au,E],by simpa using hi,by simpa using F,λv=>?_⟩
    ·simp[Instr.findNow,D,hb]
     grind
    ·simp only[qG,hb];simp;show _ :: zX _=_
     grind
def Kx{kt:TypeId}{k:Int}{C:aa MapEntry}{z:ah (Nat×Value)}(D:P.underlying kt=some (.int .i64))(h:Instr.findNow (.int .i64) (.int .i64 k) C 0=some z):(Instr.findKey kt (.int .i64 k) C).run P w = .ok z w:=by
 unfold Instr.findKey;simp only[fA,fW D,jO,h];rfl
def ai8{t:TypeId}{x i:A}{k:A -> ah X}(h:zV P σ t x i k=some r):∃ v,k v=some r/\kG (λX k=>zV (X:=X) P σ t x i k) v /\ ∀ lab ρ a w,Rl w0 N lab ρ σ a w -> ∀ u z,RA w w0.heap.size lab ρ x u -> RA w w0.heap.size lab ρ i z ->
  ∃y,(Instr.lookup t u z false).run P w = .ok y w/\RA w w0.heap.size lab ρ v y:=by
 unfold zV at h;split at h
 ·rename_i rr n key;cases hb:(Nat.beq n oV&&Cr P t)with
  |false=>grind
  | true=>
   rw[hb,aj]at h;split at h
   ·rename_i l I
    refine⟨_,h,λX k=>by simp only[zV,hb,aj,I],λlab ρ a w hR u z U D=>?_⟩
    rw[aH]at hb;obtain⟨kt,Y,ti,Z,E,hi,Xm⟩:=Xl hb.2;have hn:=cv hb.1;subst hn;obtain⟨b,cD,rfl⟩:=U;have D:z = .int .i64 key:=by
     have h2:=D.2;cases h2;rfl
    subst D;have L:=hR.root rr _ I;generalize C:aM.mp l=y at L;cases L with
    |blk=>cases C
    |sl=>cases C
    |gh=>cases C
    | mp b' c es l' O hl hh Ky=>
     injection C with C;subst C;rw[cD]at O;injection O with e1 _;subst e1;refine⟨.bool (vk l key),?_,rfl,.bool _ _⟩;rw[OV];unfold Instr.lookup;simp only[fA,fW Z,jO,MapKept.run_getObj_map hh,Sem.run_pure];rw[MapKept.run_checkKey (k:=.int .i64 key) E rfl];simp only[jO];rcases QV es.toList l key 0 Ky with ⟨F,T,_⟩|⟨i,v,F,T,_⟩
     ·rw[Kx E F];have BX:(zeroValue Y).run P w = .ok (.bool false) w:=by simp[zeroValue,typeInfo,hi,Xm]
      simp_all
     ·rw[Kx E F];simp only[ T,fA];rfl
   ·cases h
 ·cases h
def ai9{t:TypeId}{x i v:A}{k:S -> ah X}(h:zW P σ t x i v k=some r):∃ L,k L=some r/\kG (λX k=>zW (X:=X) P σ t x i v k) L /\ ∀ lab ρ a w,Rl w0 N lab ρ σ a w -> ∀ u z y,RA w w0.heap.size lab ρ x u -> RA w w0.heap.size lab ρ i z -> RA w w0.heap.size lab ρ v y ->
  ∃w',(Instr.mapUpdate t u z y).run P w = .ok () w'/\Rl w0 N lab ρ L a w':=by
 unfold zW at h;split at h
 ·rename_i rr n key O;cases hb:(Nat.beq n oV&&Cr P t)with
  |false=>grind
  | true=>
   rw[hb,aj]at h;split at h
   ·rename_i l hm
    refine⟨_,h,λX k=>by simp only[zW,hb,aj,hm],λlab ρ a w hR u z y hu T C=>?_⟩
    rw[aH]at hb;obtain⟨kt,et,ti,ht,U,hi,Xm⟩:=Xl hb.2;have hn:=cv hb.1;subst hn;obtain⟨b,cD,rfl⟩:=hu;have T:z = .int .i64 key:=by
     have Y:=T.2;cases Y;rfl
    subst T;have C:y = .bool O:=by
     have Y:=C.2;cases Y;rfl
    subst C;have eM:=hR.root rr _ hm;generalize D:aM.mp l=y at eM;cases eM with
    |blk=>cases D
    |sl=>cases D
    |gh=>cases D
    | mp b' c es l' gS hl I Ky=>
     injection D with D;subst D;rw[cD]at gS;injection gS with e1 _;subst e1;have QG:b<w.heap.size:=(gD.1 I).1;have Kf:∀ (E:Array MapEntry) (F:Nat),E.toList.map (λe=>(e.key,e.val))=zX (qG l key O) -> Rl w0 N lab ρ ⟨σ.t,bE σ.m rr (some (.mp (qG l key O)))⟩ a { w with heap:=w.heap.setIfInBounds b (.map E F) }:=by
      intro E F aja;have Z:sY w { w with heap:=w.heap.setIfInBounds b (.map E F) } b:=by
       refine⟨by simp,rfl,rfl,rfl,λk hk=>?_⟩
       show _[k]?=_;rw[Array.getElem?_setIfInBounds_ne (Ne.symm hk)]
      have hC:oX w { w with heap:=w.heap.setIfInBounds b (.map E F) } lab ρ:=by
       intro k ad v ha hv fo;obtain⟨j',i',s',q,rfl,hq,_,_,hh'⟩:=zh k ad ha;have cS:ad.block≠b:=by
        grind
       exact(World.cell?_of_block (Z.block _ cS)).trans hv
      refine hR.wrote Z hl hC λr' y C=>?_
      by_cases ov:r'=rr
      ·subst ov;rw[bF]at C;injection C with C;subst C;refine .mp b F E _ cD hl ?_ aja;simp_all
      ·rw[bZ _ _ _ ov]at C;exact(hR.root r' y C).wrote Z hl hC (VJ ov)
     rw[OV];unfold Instr.mapUpdate;simp only[fA,fW ht,jO,MapKept.run_getObj_map I,Sem.run_pure];rw[MapKept.run_checkKey (k:=.int .i64 key) U rfl];simp only[jO];rcases QV es.toList l key 0 Ky with ⟨a1,a2,a3⟩|⟨i,v,a1,a2,Fh,a3,a4⟩
     ·rw[Kx U a1];simp;rw[MapKept.run_setObj_map _ I];refine⟨_,rfl,Kf _ _ ?_⟩;rw[a3];simp only[Array.toList_push,jP,Ky,zX];rfl
     ·rw[Kx U a1];simp only[jO,eS];have Qu:(es[i]?.map (·.key)).getD (.int .i64 key) = .int .i64 key:=by
       grind
      rw[Qu];have jB:(Instr.keyThatStays (.int .i64 key) (.int .i64 key)).run P w = .ok (.int .i64 key) w:=by
       unfold Instr.keyThatStays;simp[Instr.sameBits]
      simp only[fA];rw[jB];simp only[jO];rw[MapKept.run_setObj_map _ I];refine⟨_,rfl,Kf _ _ ?_⟩;rw[a4];simp
   ·cases h
 ·cases h
end
def Kz(t:TypeId)(d:Nat)(x:Operand):Bool:=[(59,26,22)].any λ(p:Nat×Nat×Nat)=>Nat.beq p.1 t&&Nat.beq p.2.1 d&&(match x with
 |.tmp n=>Nat.beq n p.2.2 ||Nat.beq p.2.2 1000000
 |_=>false)
def zY(C:ah Tmp)(t:TypeId)(x:Operand):Bool:=match C with
 |some d=>Kz t d x
 |none=>false
def Fx{X:Type}(P:Program)(N:Nat)(σ:S)(d:Nat)(t:TypeId)(x y:A)(k:S->ah X):ah X:=
 match rC P t with
 | some (e,C)=>bif Nat.beq (full C) 0&&(zeroOf P e).any (λz=>Nat.beq z.cells.size (aA C))then qt σ y λD=>(match D.JO C with
  |none=>none
  | some l2=>match x with
   | .lf (.own [r])=>(match σ.m r with
    |some (.sl (.sl E (o+2) true l))=>if h:E=C then (bif !jC l2&&aT (l.length+l2.length)then fO N σ d (.sl (.sl C (o+2) false ((h ▸ l)++l2))) (.lf (.own [d])) k else none)else none
    |_=>none)
   |_=>none)else none
 |none=>none
section
variable {P:Program} {w w':World} {w0:Wd} {B N:Nat} {lab ax:bg} {ρ ρ':Nat->Loc} {σ:S} {a:Act} {X:Type} {d:Nat} {r:X}
def Rl.ajb{t e ty:TypeId}{C:TC}{i:TypeInfo}{z:Value}{rr o g:Nat}{qn:Bool}{l l2:aa (T C)}{u v:Value}{q':aa Nat}{Bx:Nat}{Pg:bg}(h:Rl w0 N lab ρ σ a w)(hF:w0.F d=none)(fK:P.underlying t=some (.slice e))(ht:tid C=e)(hi:P.info? e=some i)(hz:i.zero=some z)
  (Y:i.size=aA C) (ir:i.bytes <= 65536) (lH:z.cells.size=aA C) (hf:full C=0) (hd:RV w w0.heap.size lab [rr] (.sl C (o+2) true l) u) (hs:RV w Bx Pg q' (.sl C g qn l2) v) (cS:l2≠[]) (hlen:l.length+l2.length<1073741824):
  ∃E w' ax,(Builtin.append_ #[t,t] ty #[u,v]).run P w = .ok E w'/\Rl w0 N ax (bE ρ d (.cO E)) ((σ.drop d).root d (.sl (.sl C (o+2) false (l++l2)))) a w'/\jy E=true:=by
 subst ht;obtain⟨xs,I,awH,BZ,fT⟩:=hd.owns hf (B':=0) (λb _=>gF b);obtain⟨A,c,news,rfl,Z,o7,zy⟩:=hs.reads hf;have gI:(l.length+l2.length)*i.bytes <= 140737488355328:=by
  have h1:(l.length+l2.length)*i.bytes <= 1073741824*65536:=Nat.mul_le_mul (by omega) ir;omega
 have rH:0<l2.length:=List.length_pos_iff.2 cS;obtain⟨E,w',dZ,Xn,Xo,iM⟩:=OF (P:=P) w 0 t ty (tid C) i z (aA C) i.bytes fK hi hz Y rfl lH (mh C) u l.length xs I _ A l2.length c news Z o7 (by unfold maxLen;omega) gI (gF _);have zz:(l++l2).length=l.length+l2.length:=iH;have hex:∃ b,u = .slice (some ⟨b,0,none⟩) l.length l.length:=by
  cases hd with
  |aF _ _ _ _ _ _ _ _ _ ho=>omega
  |fB _ _ _ _ _ ho=>omega
  |own _ _ _ _ _ b cap cs us hl hh hs hn hm hc hr=>exact⟨b,by rw[hm.2 rfl]⟩
 obtain⟨b,rfl⟩:=hex;obtain⟨L,O,rfl,_,kH⟩:=Z.2 rH;have ajc:∀ j x,news[j]?=some x -> w.cell? ((⟨L,O,none⟩:Addr).add j)=some x:=by
  intro j x hx;have Jv:(⟨L,O,none⟩:Addr).add j=⟨L,O+j,none⟩:=by unfold Addr.add;split<;>simp_all
  grind
 have Xp:=run_append_grow (P:=P) w t ty (tid C) i z fK hi hz ⟨b,0,none⟩ l.length l.length xs (by rw[Y];exact I.1) (I.cells (g:=b) rfl) ⟨L,O,none⟩ l2.length c news (by rw[Y];exact Z.1) ajc (by omega) (by omega) (growslice_fits (by omega) gI);rw[dZ]at Xp;injection Xp with e1 e2;have hold:∀ k,k<w.heap.size -> w'.heap[k]?=w.heap[k]?:=by
  intro k D;rw[e2];exact heap_alloc_old _ _ D
 have hvb:E.ownBlock=some w.heap.size:=by rw[e1];rfl
 have dV:w.heap.size<w'.heap.size:=by rw[e2];simp
 rw[<- zz]at Xn;have s9:=fT.append zy I.1;have fo:jy E=true:=by rw[e1];rfl
 have U:Below 0 w w':=(Below.refl 0 w).grown Xo (gF _) (λ_ _=>gF _);have o8:gQ w0 w w':=⟨U.os,U.tape,U.output,U.size,λk D hL=>hold k (Nat.lt_of_lt_of_le D h.below.size)⟩
 refine⟨E,w',bE lab w.heap.size (some [d]),dZ,h.s6 hF o8 ⟨Xo.size,λb hb _=>hold b hb,λb hb=>bZ _ _ _ (by omega),λb hb=>(h.cE b [] hb).2.2 rfl⟩ (λb k hb D=>?_) (λr hr=>bZ _ _ _ hr) (.sl E _ (bF _ _ _) (EE Xn s9 (λb hb=>?_))),fo⟩
 ·by_cases e:b=w.heap.size
  ·subst e;rw[bF]at D;injection D with D
   grind
  ·rw[bZ _ _ _ e]at D;have:=(h.cE b k D).2.1;omega
 ·rw[hvb]at hb;injection hb with hb;subst hb;exact bF _ _ _
def ajd{t ty:TypeId}{x y:A}{k:S -> ah X}(h:Fx P N σ d t x y k=some r):∃ O,k O=some r /\ ∀ lab ρ a w,Rl w0 N lab ρ σ a w -> ∀ u v,RA w w0.heap.size lab ρ x u -> RA w w0.heap.size lab ρ y v ->
  ∃w' ax ρ' z,(Builtin.append_ #[t,t] ty #[u,v]).run P w = .ok z w'/\Rl w0 N ax ρ' O (a.put (some d) z) w':=by
 unfold Fx at h;split at h
 ·rename_i e T nM;obtain⟨fK,ht,i,hi,hsz,ir⟩:=uQ nM;cases E:(Nat.beq (full T) 0&&(zeroOf P e).any (λz=>Nat.beq z.cells.size (aA T)))with
  |false=>grind
  | true=>
   rw[E,aj]at h;rw[aH]at E;have hf:=cv E.1;obtain⟨z,U,I⟩:=(Option.any_eq_true _ _).1 E.2;have I:=cv I;have nN:i.zero=some z:=by unfold zeroOf at U;simpa [hi]using U
   obtain⟨yv,JR,C⟩:=V3 (w0:=w0) (N:=N) h;clear h;split at C
   ·cases C
   ·rename_i l2 jY;split at C
    ·rename_i rr;split at C
     ·rename_i t' o l hm;split at C
      ·rename_i lQ;subst lQ;cases F:(!jC l2&&aT (l.length+l2.length))with
       |false=>grind
       | true=>
        rw[F,aj]at C;rw[aH]at F;have cS:l2≠[]:=by rintro rfl;cases F.1
        have wY:l.length+l2.length<1073741824:=by simpa [aT]using F.2
        obtain⟨Y,h3⟩:=kJ C
        refine⟨_,h3,λlab ρ a w hR u v hu hv=>?_⟩
        obtain⟨q',_,_,L⟩:=JR lab ρ a w hR v hv;obtain⟨g,qn,L⟩:=Ph jY L;have Z:=hR.root rr _ hm;generalize D:aM.sl (.sl t' (o+2) true l)=x at Z;cases Z with
        |blk=>cases D
        |mp=>cases D
        |gh=>cases D
        | sl uu y cD hr=>
         injection D with D;subst D;have zu:uu=u:=by
          have h4:=hu.2;simp only[cC,cD]at h4;simp_all
         subst zu;obtain⟨v',w',ax,dZ,eG,fo⟩:=hR.ajb (ty:=ty) (d:=d) (hR.cY d (.inl Y)) fK ht hi nN hsz ir I hf hr L cS wY;exact⟨w',ax,_,v',dZ,eG.set ⟨fo,by simp[cC,bF]⟩ Y⟩
      ·cases C
     ·cases C
    ·cases C
 ·cases h
def aje{t:TypeId}{x y:A}:cu λX k=>Fx (X:=X) P N σ d t x y k:=λX Y k g=>by
 unfold Fx;split
 ·refine cK ((Qv _ _ _ _).trans (bu _ (funext λC=>?_))) rfl
  repeat' first|rfl|exact Fi _ _ _ _|refine cK ?_ ?_|split
 ·rfl
def Fy{X:Type}(P:Program)(N:Nat)(σ:S)(d:Nat)(t:TypeId)(x y:A)(k:S->ah X):ah X:=
 match x with
 |.view q s i j=>EG P N σ d t (.view q s i j) y k
 |x=>Fx P N σ d t x y k
def ajf{t ty:TypeId}{x y:A}{k:S->ah X}(h:Fy P N σ d t x y k=some r):∃ C,k C=some r/\∀ lab ρ a w,Rl w0 N lab ρ σ a w->∀ u v,RA w w0.heap.size lab ρ x u->RA w w0.heap.size lab ρ y v->
  ∃w' ax ρ' z,(Builtin.append_ #[t,t] ty #[u,v]).run P w = .ok z w'/\Rl w0 N ax ρ' C (a.put (some d) z) w':=by
 unfold Fy at h;split at h
 ·exact ag2 h
 ·exact ajd h
def ajg{t:TypeId}{x y:A}:cu λX k=>Fy (X:=X) P N σ d t x y k:=λX Y k g=>by
 unfold Fy;split
 ·exact ag3 _ _ _ _
 ·exact aje _ _ _ _
end
abbrev dG:=Nat->ah pJ
def fj(P:Program)(Φ:dG):Prop:=∀f c,Φ f=some c->enters P f/\QK P f c
def fM{X:Type}(o:Oper)(k:Nat->ah X):ah X:=
 match o.dst with
 |some d=>k d
 |none=>none
def eY:Op->Bool
 |.move _|.assign _|.pick .. |.build .. |.load .. |.binOp .. |.unOp .. |.convert .. |.fieldAddr .. |.field .. |.indexAddr .. |.index .. |.extract .. |.nilCheck _=>true
 |.call ⟨.builtin .len,_,_⟩|.call ⟨.builtin .max,_,_⟩|.call ⟨.builtin .min,_,_⟩=>true
 |.slice _ _ _ _ none=>true
 |_=>false
def kM{X:Type}(P:Program)(σ:S)(C:Op)(k:A->ah X):ah X:=
 match C with
 |.move x=>k (aE σ x)
 |.assign x=>k (aE σ x)
 | .pick c x y=>(match aE σ c with
  |.lf (.v (.bool b))=>bif b then k (aE σ x)else k (aE σ y)
  |_=>none)
 |.build t parts=>B1 P σ t parts.toList k
 |.load t x=>mm P σ t (aE σ x) k
 |.binOp C t x y _=>w7 P σ C t (aE σ x) (aE σ y) k
 |.unOp C _ x=>vK (aE σ x) λa=>Ey C a λz=>k (.lf (.v z))
 |.convert s d x=>w5 P σ s d (aE σ x) k
 |.fieldAddr s x f=>BV P s (aE σ x) f k
 |.field s x f=>EL P s (aE σ x) f k
 |.indexAddr t x i=>wU P σ t (aE σ x) (aE σ i) k
 |.index t x i=>EM P t (aE σ x) (aE σ i) k
 |.extract x i=>zq (aE σ x) i k
 |.nilCheck x=>Km (aE σ x) k
 |.call ⟨.builtin .len,⟨[x]⟩,⟨[t]⟩⟩=>zo P σ t (aE σ x) k
 |.call ⟨.builtin .max,⟨[x,y]⟩,⟨[_,_]⟩⟩=>B2 true (aE σ x) (aE σ y) k
 |.call ⟨.builtin .min,⟨[x,y]⟩,⟨[_,_]⟩⟩=>B2 false (aE σ x) (aE σ y) k
 |.slice t x lo hi none=>w8 P σ t (aE σ x) (lo.map (aE σ)) (hi.map (aE σ)) k
 |_=>none
def gz{X:Type}(P:Program)(N:Nat)(Φ:dG)(σ:S)(o:Oper)(k:S->ah X):ah X:=
 match o.op with
 |.alloc e=>fM o λd=>o6 P N σ d e k
 |.box e x=>fM o λd=>xy N σ d (aE σ x) k
 |.buildSlice t len parts=>fM o λd=>bif oA t then tD P N σ d t len parts.toList k else w4 P N σ d t len parts.toList k
 | .store t x y=>(match o.dst with
  |none=>bif vi (aE σ x) (aE σ y)then rW P σ t (aE σ x) (aE σ y) k else ou P σ t (aE σ x) (aE σ y) k
  |some _=>none)
 |.makeSlice t l c=>fM o λd=>wX P N σ d t (aE σ l) (aE σ c) k
 | .call ⟨.value (.func f),args,_⟩=>(match Φ f with
  |some (.p c)=>fM o λd=>aho N σ d c args.toList k
  |some (.m c)=>mE N σ o.dst c args.toList k
  |some (.v c)=>fM o λd=>Fp N σ d c args.toList k
  | some (.n F)=>fM o λd=>(match args.toList with
   |[x]=>Fo N σ d F (aE σ x) k
   |_=>none)
  |some (.i c)=>Fq N σ o.dst c (args.toList.map (aE σ)++[]) k
  |some (.d c)=>Ff N σ o.dst c args.toList k
  |some (.q c)=>fM o λd=>ahn N σ d c args.toList k
  |some (.c c)=>Fu N σ o.dst c args.toList k
  |none=>none)
 |.call ⟨.builtin .append,⟨[x,y]⟩,⟨[t,C]⟩⟩=>bif Nat.beq t C then fM o λd=>bif oA t then Fk P N σ d t (aE σ x) (aE σ y) k else bif Kz t d x then Fy P N σ d t (aE σ x) (aE σ y) k else rD P N σ d t (aE σ x) (aE σ y) k else fM o λd=>Fw P N σ d t C (aE σ x) (aE σ y) k
 |.makeMap _ none=>fM o λd=>QU N σ d k
 |.lookup t x i false=>zV P σ t (aE σ x) (aE σ i) λv=>gk N σ o.dst v k
 | .mapUpdate t x i v=>(match o.dst with
  |none=>zW P σ t (aE σ x) (aE σ i) (aE σ v) k
  |some _=>none)
 | .call ⟨.value (.tmp t),args,_⟩=>(match Kt (aE σ (.tmp t))with
  | some (f,ex)=>(match Φ f with
   |some (.i c)=>Fq N σ o.dst c (args.toList.map (aE σ)++ex) k
   |_=>none)
  |none=>none)
 | .makeFunc (.func f) ⟨[]⟩ D=>(match Fs σ D.toList with
  |some ps=>gk N σ o.dst (.fn f ps) k
  |none=>none)
 |.call ⟨.builtin .clear,⟨[x]⟩,⟨[t]⟩⟩=>EH P σ t (aE σ x) λE=>gk N E o.dst .undef k
 |_=>none
def cU{X:Type}(P:Program)(N:Nat)(Φ:dG)(σ:S)(o:Oper)(k:S->ah X):ah X:=
 bif eY o.op then kM P σ o.op λv=>gk N σ o.dst v k else gz P N Φ σ o k
def Fz{X:Type}(P:Program)(N:Nat)(Φ:dG)(σ:S)(o:Oper)(k:S->ah X):ah X:=
 match o.op,o.dst with
 | .store t x y,none=>(match aE σ y with
  |.view [q] s i j=>Fv P σ q s i j t (aE σ x) k
  |_=>cU P N Φ σ o k)
 |.slice t x (some lo) (some hi) (some C),some d=>Cq P σ t (aE σ x) (aE σ lo) (aE σ hi) (aE σ C) (bif Nat.blt d N then k (σ.set d .undef)else none)
 |_,_=>cU P N Φ σ o k
def fk(σ:S)(ops:Array Oper)(o:Oper):ah Bool:=
 match o.guard with
 |none=>some true
 | some (j,want)=>match (ops[j]?).bind (·.dst)with
  | some t=>(match σ.t t with
   |.lf (.v (.bool b))=>some (b==want)
   |.skip=>some false
   |_=>none)
  |none=>none
def FA(ops:Array Oper)(j:Nat):Bool:=ops.toList.any λo=>match o.guard with
 |some (i,_)=>Nat.beq i j
 |none=>false
def qH{X:Type}(σ:S)(C:ah Tmp)(g:Bool)(k:S->ah X):ah X:=
 bif g then (match C with
  | some d=>(match σ.t d with
   |.lf (.v (.bool b))=>bif b then k (σ.set d (.lf (.v (.bool true))))else k (σ.set d (.lf (.v (.bool false))))
   |_=>k σ)
  |none=>k σ)else k σ
def zZ{X:Type}(P:Program)(N:Nat)(Φ:dG)(ops:Array Oper):Nat->aa Oper->S->(S->ah X)->ah X
 |_,[],σ,k=>k σ
 | j,o :: rest,σ,k=>match fk σ ops o with
  |some true=>Fz P N Φ σ o λC=>qH C o.dst (FA ops j) λD=>zZ P N Φ ops (j+1) rest D k
  |some false=>gk N σ o.dst .skip λC=>zZ P N Φ ops (j+1) rest C k
  |none=>none
/-! Regions whose order is open: what is listed is a set of bits. -/
def cQ{X:Type}(P:Program)(N:Nat)(Φ:dG)(ops:Array Oper)(σ:S)(o:Oper)(k:S->ah X):ah X:=
 match fk σ ops o with
 |some true=>cU P N Φ σ o k
 |some false=>gk N σ o.dst .skip k
 |none=>none
def ki(ops:Array Oper)(L j:Nat):Bool:=!L.testBit j&&(match ops[j]? with
 |some o=>o.after.toList.all λe=>!Region.binds .any e ||L.testBit e.on
 |none=>false)
def FB(ops:Array Oper)(i W j:Nat):Bool:=(match ops[j]? with
 |some o=>o.after.toList.any λe=>Region.binds .any e&&(Nat.beq e.on i ||W.testBit e.on)
 |none=>false)
def waits(ops:Array Oper)(i:Nat):Nat->Nat->Nat->Nat
 |0,_,W=>W
 |n+1,j,W=>waits ops i n (j+1) (bif FB ops i W j then W |||2 ^ j else W)
def dX(o:Oper)(n:Nat):Bool:=match o.dst with
 | some d=>(match o.op with
  |.alloc _|.box .. |.buildSlice .. |.makeSlice ..=>Nat.beq n d
  |.call ⟨.value (.func _),_,_⟩=>Nat.ble (1000000000100000+1000*d) n
  |.call ⟨.builtin .append,_,_⟩=>Nat.beq n d
  |_=>false)
 |none=>false
def KA(Φ:dG)(C:Op):Bool:=eY C || (match C with
 |.alloc _|.box .. |.buildSlice .. |.makeSlice ..=>true
 | .call ⟨.value (.func f),_,_⟩=>(match Φ f with
  |some (.p _)=>true
  |some (.q _)=>true
  |_=>false)
 |_=>false)
def gq(g:Oper->Bool)(ops:Array Oper)(i L W:Nat):Nat->Nat->Bool
 |0,_=>false
 | f+1,j=>(!(Nat.beq j i || L.testBit j || W.testBit j)&&(match ops[j]? with
  |some C=>g C
  |none=>false)) ||gq g ops i L W f (j+1)
def FC(g:Oper->Bool)(ops:Array Oper)(C:Oper)(i L W:Nat):Nat->Nat->Bool
 |0,_=>true
 | n+1,j=>(Nat.beq j i || L.testBit j || (bif W.testBit j then FB ops i W j else (match ops[j]? with
  |some D=>g D&&C.apart ops D
  |none=>true)))&&FC g ops C i L W n (j+1)
def KB(c:lV):Bool:=c.ps.all λp=>match p with
 |.v _ _=>true
 |.p _ g _=>Nat.beq g 0
 |.s _ _=>false
def qI(ok:Nat->Nat->Bool)(σ:S):aa PK->aa Operand->Bool
 | .p _ _ _ :: ps,.tmp t :: xs=>(match σ.t t with
  |.aI r _=>ok t r
  |_=>false)&&qI ok σ ps xs
 |.v _ _::ps,_::xs=>qI ok σ ps xs
 |[],[]=>true
 |_,_=>false
def gJ(σ:S):aa PK->aa Operand->aa Nat
 | .p _ _ _ :: ps,x :: xs=>(match aE σ x with
  |.aI r _=>r::gJ σ ps xs
  |_=>gJ σ ps xs)
 |_::ps,_::xs=>gJ σ ps xs
 |_,_=>[]
def nT(Φ:dG)(σ:S)(o:Oper):aa Nat:=match o.op with
 | .call ⟨.value (.func f),args,_⟩=>(match Φ f with
  |some (.m c)=>gJ σ c.ps args.toList
  |_=>[])
 |_=>[]
def jb(t:Nat)(o:Oper):Bool:=match o.dst with
 |some d=>Nat.beq d t
 |none=>false
def tE(o:Oper):Bool:=(match o.op with
 |.alloc _=>true
 |_=>false)&&o.guard.isNone&&(match o.dst with
 |some d=>Nat.blt d 20000
 |none=>false)
def mG(o:Oper):Bool:=(match o.op with
 |.alloc _=>true
 |.buildSlice t _ _=>!oA t
 |.makeSlice ..=>true
 |_=>false)&&(match o.dst with
 |some d=>Nat.blt d 20000
 |none=>false)
def isApp(o:Oper):Bool:=match o.op with
 |.call ⟨.builtin .append,⟨[x,_]⟩,⟨[t,C]⟩⟩=>!oA t&&Nat.beq t C && !zY o.dst t x
 |_=>false
def QW(Φ:dG)(ops:Array Oper)(i L W:Nat)(σ:S)(o:Oper):Bool:=match o.op with
 | .call ⟨.value (.func f),args,_⟩=>(match Φ f with
  |some (.m c)=>KB c&&qI (λt r=>!gq (jb t) ops i L W ops.size 0 && !gq (λok=>dX ok r) ops i L W ops.size 0 && !gq isApp ops i L W ops.size 0) σ c.ps args.toList
  |_=>false)
 |_=>false
def A.mH(p pb:Nat->Bool):A->Bool:=A.fr (rV p pb)
def xD(σ:S)(o:Oper):aa Nat:=match o.op with
 | .store _ (.tmp t) _=>(match σ.t t with
  |.aI r _=>[r]
  |_=>[])
 | .call ⟨.builtin .append,⟨[.tmp t,_]⟩,⟨[_,_]⟩⟩=>(match σ.t t with
  |.lf (.own [r])=>[r]
  |_=>[])
 |_=>[]
def KD(σ:S)(o:Oper):aa Nat:=match o.op with
 | .call ⟨.builtin .append,⟨[.tmp t,_]⟩,⟨[_,_]⟩⟩=>(match σ.t t with
  |.lf (.own [r])=>[r]
  |_=>[])
 |_=>[]
def ajh(t:Nat)(o:Oper):Bool:=match o.op with
 |.store _ (.tmp C) _=>Nat.beq C t
 |_=>false
def faR(ops:Array Oper)(i L W:Nat)(σ:S)(o:Oper):aa Nat:=match o.op,o.dst with
 | .fieldAddr _ (.tmp x) _,some t=>bif gq (ajh t) ops i L W ops.size 0 then (match σ.t x with
  |.aI r _=>[r]
  |_=>[])else []
 |_,_=>[]
def xE(Φ:dG)(ops:Array Oper)(i L W:Nat)(σ:S)(n:Nat):Bool:=
 gq (λo=>dX o n) ops i L W ops.size 0 ||gq (λo=>cI n (nT Φ σ o) ||cI n (xD σ o)) ops i L W ops.size 0
def xF(Φ:dG)(ops:Array Oper)(i L W:Nat)(σ:S)(n:Nat):Bool:=
 xE Φ ops i L W σ n ||gq (λo=>cI n (faR ops i L W σ o)) ops i L W ops.size 0
def Aa(σ:S)(ops:Array Oper)(i L W n:Nat):Bool:=gq (λo=>dX o n) ops i L W ops.size 0 ||gq (λo=>cI n (KD σ o)) ops i L W ops.size 0
def xH(Φ:dG)(o:Oper):Bool:=match o.op with
 | .call ⟨.value (.func f),_,_⟩=>(match Φ f with
  |some (.p _)=>true
  |_=>false)
 |_=>false
def kN(Φ:dG)(ops:Array Oper)(i L W t:Nat):Bool:=!gq (λok=>jb t ok && !(mG ok ||isApp ok ||xH Φ ok)) ops i L W ops.size 0
def QX(Φ:dG)(ops:Array Oper)(i L W:Nat)(o:Oper):Bool:=match o.op with
 |.call ⟨.builtin .append,⟨[.tmp t,_]⟩,⟨[ty,C]⟩⟩=>kN Φ ops i L W t&&(!oA ty&&Nat.beq ty C && !zY o.dst ty (.tmp t))
 |_=>false
def kO(Φ:dG)(ops:Array Oper)(i L W:Nat)(σ:S)(x:Nat):Bool:=!gq (jb x) ops i L W ops.size 0&&(match σ.t x with
 |.aI r _=>xF Φ ops i L W σ r
 |.ij _=>true
 |_=>false)
def KE(Φ:dG)(ops:Array Oper)(i L W:Nat)(σ:S)(o:Oper):Bool:=match o.op with
 |.fieldAddr _ (.tmp x) _=>kO Φ ops i L W σ x
 |_=>false
def KF(Φ:dG)(ops:Array Oper)(i L W:Nat)(σ:S)(t:Nat):Bool:=!gq (λok=>jb t ok && !(tE ok ||KE Φ ops i L W σ ok)) ops i L W ops.size 0
def Ev(Φ:dG)(ops:Array Oper)(i L W:Nat)(σ:S)(o:Oper):Bool:=match o.op with
 | .store _ (.tmp t) _=>o.dst.isNone&&KF Φ ops i L W σ t&&(match σ.t t with
  |.ptr _=>false
  |_=>true)
 |_=>false
def QY(σ:S)(p:Nat->Bool)(o:Oper):Bool:=o.op.operands.toList.all λx=>(aE σ x).nr p
def QZ(σ:S)(p pb:Nat->Bool)(o:Oper):Bool:=(o.op.operands.toList.all λx=>(aE σ x).mH p pb)&&(match o.op with
 | .load _ x=>(match aE σ x with
  |.aI r _=>!p r
  |_=>true)
 |_=>true)
def Xq(Φ:dG)(ops:Array Oper)(L:Nat)(σ:S)(i:Nat):Bool:=match ops[i]? with
 | some C=>(eY C.op || (match fk σ ops C with
  |some b=>!b
  |none=>false))&&Nat.beq ((L |||2 ^ i) &&& waits ops i ops.size 0 0) 0&&FC (λD=>KA Φ D.op ||QW Φ ops i L (waits ops i ops.size 0 0) σ D ||Ev Φ ops i L (waits ops i ops.size 0 0) σ D ||QX Φ ops i L (waits ops i ops.size 0 0) D) ops C i L (waits ops i ops.size 0 0) ops.size 0&&QZ σ (xF Φ ops i L (waits ops i ops.size 0 0) σ) (Aa σ ops i L (waits ops i ops.size 0 0)) C
 |none=>false
def FD{X:Type}(P:Program)(N:Nat)(Φ:dG)(ops:Array Oper)(L i:Nat)(σ:S)(o:Oper)(k:S->ah X):ah X:=
 match fk σ ops o with
 |some true=>kM P σ o.op λv=>bif v.mH (xF Φ ops i L (waits ops i ops.size 0 0) σ) (Aa σ ops i L (waits ops i ops.size 0 0))then gk N σ o.dst v k else none
 |some false=>gk N σ o.dst .skip k
 |none=>none
/-! A call may be taken first where all that is free beside it are new blocks. -/
def A.eY:A->Bool
 |.lf (.v _)=>true
 | .agg cs=>cs.all λl=>match l with
  |.v _=>true
  |_=>false
 |_=>false
def Q0(ops:Array Oper)(i L W:Nat)(σ:S)(o:Oper):Bool:=mG o&&(match fk σ ops o with
 |some b=>b
 | none=>false)&&(o.op.operands.toList.all λx=>(aE σ x).eY&&(match x with
  |.tmp t=>!gq (jb t) ops i L W ops.size 0
  |_=>true))&&(match o.guard with
 | some (g,_)=>(match (ops[g]?).bind (·.dst)with
  |some t=>!gq (jb t) ops i L W ops.size 0
  |none=>true)
 |none=>true)
def lY(Φ:dG)(o:Oper):Bool:=match o.op with
 | .call ⟨.value (.func f),_,_⟩=>(match Φ f with
  |some (.p _)=>true
  |some (.m _)=>true
  |_=>false)
 |_=>false
def FE(o:Oper):Bool:=(match o.op with
 |.store _ (.tmp _) _=>true
 |_=>false)&&o.dst.isNone
def vl(σ:S)(o:Oper):Bool:=match o.op with
 | .store _ (.tmp t) _=>(match σ.t t with
  |.aI _ _=>true
  |_=>false)
 |_=>true
def FF(Φ:dG)(o:Oper):Bool:=lY Φ o ||mG o ||isApp o ||FE o
def vm(σ:S)(p:Nat->Bool)(r:Nat):Bool:=match σ.m r with
 |some (.blk cs)=>cs.all (Lf.nr p)
 |_=>true
def Cs(o:Oper)(n:Nat):Bool:=jb n o
def Xr(Φ:dG)(ops:Array Oper)(L:Nat)(σ:S)(i:Nat):Bool:=match ops[i]? with
 | some C=>FF Φ C&&Nat.beq ((L ||| 2 ^ i) &&& waits ops i ops.size 0 0) 0&&FC (Q0 ops i L (waits ops i ops.size 0 0) σ) ops C i L (waits ops i ops.size 0 0) ops.size 0 &&
   QY σ (λn=>gq (λo=>Cs o n) ops i L (waits ops i ops.size 0 0) ops.size 0) C&&(nT Φ σ C).all (vm σ (λn=>gq (λo=>Cs o n) ops i L (waits ops i ops.size 0 0) ops.size 0))&&vl σ C
 |none=>false
def pL(x:A)(n:Nat):ah V:=match x with
 | .ez xs=>(match xs[n]? with
  |some (false,[.v z])=>some z
  |_=>none)
 |_=>none
def Q1(ops:Array Oper)(L:Nat)(σ:S)(i:Nat):Bool:=match ops[i]?,(List.range ops.size).filter (λj=>!(Nat.beq j i || L.testBit j))with
 | some C,[E]=>(match C.op,C.dst,C.guard,ops[E]? with
  | .extract (.tmp x) n,some _,none,some D=>(match D.op,D.dst,D.guard with
   |.store _ a b,none,none=>(pL (σ.t x) n).isSome&&vi (aE σ a) (aE σ b)&&C.apart ops D
   |_,_,_=>false)
  |_,_,_,_=>false)
 |_,_=>false
def pM{X:Type}(P:Program)(N:Nat)(Φ:dG)(ops:Array Oper):Nat->Nat->S->(S->ah X)->ah X
 | 0,L,σ,k=>(match (List.range ops.size).filter (ki ops L)with
  |[]=>k σ
  |_=>none)
 | f+1,L,σ,k=>(match (List.range ops.size).filter (ki ops L)with
  |[]=>k σ
  | [i]=>(match ops[i]? with
   |some o=>cQ P N Φ ops σ o λC=>qH C o.dst (FA ops i) λD=>pM P N Φ ops f (L |||2 ^ i) D k
   |none=>none)
  | rs=>(match rs.find? (Xq Φ ops L σ)with
   | some i=>(match ops[i]? with
    |some o=>FD P N Φ ops L i σ o λC=>qH C o.dst (FA ops i) λD=>pM P N Φ ops f (L |||2 ^ i) D k
    |none=>none)
   | none=>(match rs.find? (Xr Φ ops L σ)with
    | some i=>(match ops[i]? with
     |some o=>cQ P N Φ ops σ o λC=>qH C o.dst (FA ops i) λD=>pM P N Φ ops f (L |||2 ^ i) D k
     |none=>none)
    | none=>(match rs.find? (Q1 ops L σ)with
     | some i=>(match ops[i]? with
      |some o=>cQ P N Φ ops σ o λC=>qH C o.dst (FA ops i) λD=>pM P N Φ ops f (L |||2 ^ i) D k
      |none=>none)
     |none=>none))))
/-! A new slice of constants may come first,beside values and calls of contents. -/
structure rZ where
 run:(X:Type)->S->(Exit->S->Option X)->Option X
abbrev kP:=Nat->ah rZ
def jH{X:Type}(P:Program)(N:Nat)(Φ:dG)(Λ:kP):Code->S->(Exit->S->ah X)->ah X
 |.skip,σ,k=>k .normal σ
 |.label _,σ,k=>k .normal σ
 |.ret,σ,k=>k .ret σ
 |.exit id,σ,k=>k (.exit id) σ
 |.region _ ops false,σ,k=>zZ P N Φ ops 0 ops.toList σ λC=>k .normal C
 |.region _ ops true,σ,k=>bif P.follows .mixedOrders then pM P N Φ ops ops.size 0 σ λC=>k .normal C else none
 | .seq x y,σ,k=>jH P N Φ Λ x σ λe C=>match e with
  |.normal=>jH P N Φ Λ y C k
  |e=>k e C
 | .cond c x y,σ,k=>match aE σ c with
  |.lf (.v (.bool b))=>bif b then jH P N Φ Λ x σ k else jH P N Φ Λ y σ k
  |_=>none
 | .block id c,σ,k=>match Λ id with
  |some b=>b.run X σ k
  | none=>jH P N Φ Λ c σ λe C=>match e with
   |.exit D=>if D=id then k .normal C else k (.exit D) C
   |e=>k e C
 |_,_,_=>none
def AW(P:Program)(w0:Wd)(N:Nat)(c:Code)(σ:S)(K:Exit->S->Prop):Prop:=
 ∀a w,R w0 N σ a w->c.wp P (λe D w'=>∃C,K e C/\R w0 N C D w') a w
def occs:Code->aa (Nat×Code)
 |.seq x y=>occs x++occs y
 |.cond _ x y=>occs x++occs y
 |.block id c=>(id,c)::occs c
 |_=>[]
def Ab(P:Program)(N:Nat)(c:Code)(b:rZ):Prop:=∀(X:Type) σ k (r:X) w0,b.run X σ k=some r->AW P w0 N c σ λe C=>k e C=some r
def pN(P:Program)(N:Nat)(Λ:kP)(l:aa (Nat×Code)):Prop:=∀p∈l,∀b,Λ p.1=some b->Ab P N (.block p.1 p.2) b
section
variable {P:Program} {w w':World} {w0:Wd} {B N:Nat} {lab ax:bg} {ρ ρ':Nat->Loc} {σ:S} {a:Act} {X:Type} {d:Nat} {r:X} {o:Oper} {Φ:dG} {Λ:kP}
def jA.mem{C:S}(D:o.dst=some d)(h:∀ lab ρ a w,Rl w0 N lab ρ σ a w->∃ w' ax ρ' v,(execOp a.eval o).run P w = .ok (.value v) w'/\Rl w0 N ax ρ' C (a.put (some d) v) w'):jA P w0 N o σ C:=by
 intro a w K Q hR E;obtain⟨lab,ρ,hR⟩:=hR;obtain⟨w',ax,ρ',v,F,I⟩:=h lab ρ a w hR;unfold Oper.wp;rw[F,Oper.upon_value,D];exact E _ _ ⟨ax,ρ',I⟩
def iE{k:Nat -> ah X}(h:fM o k=some r):∃ d,o.dst=some d/\k d=some r:=by
 unfold fM at h
 grind
def iu{s:Sem Value}{v:Value}(h:s.run P w = .ok v w'):(do pure (.value (<-s)):Sem Next).run P w = .ok (.value v) w':=by
 rw[fA,h];rfl
def Xs{b:Go.Builtin}{x:Operand}{t:TypeId}{v:Value}(C:o.op = .call ⟨.builtin b,⟨[x]⟩,⟨[t]⟩⟩)(h:∀ cs,(builtin b #[t] o.type cs #[a.eval x]).run P w = .ok (.value v) w'):(execOp a.eval o).run P w = .ok (.value v) w':=by
 simp only[execOp,C,resolve,fA,Sem.run_pure,jO,invoke,List.map_toArray,List.map_cons,List.map_nil];exact h _
def KG{b:Go.Builtin}{x y:Operand}{t C:TypeId}{v:Value}(D:o.op = .call ⟨.builtin b,⟨[x,y]⟩,⟨[t,C]⟩⟩)(h:∀ cs,(builtin b #[t,C] o.type cs #[a.eval x,a.eval y]).run P w = .ok (.value v) w'):(execOp a.eval o).run P w = .ok (.value v) w':=by
 simp only[execOp,D,resolve,fA,Sem.run_pure,jO,invoke,List.map_toArray,List.map_cons,List.map_nil];exact h _
def Q2{C:Op}:cu λX k=>kM (X:=X) P σ C k:=λX Y k g=>by
 unfold kM;split
 ·rfl
 ·rfl
 ·repeat' first|rfl|refine cK ?_ ?_|split
 ·exact aih _ _ _ _
 ·exact WX _ _ _ _
 ·exact aia _ _ _ _
 ·exact(Qx.comp λa=>aib.comp (b:=λX k z=>k (.lf (.v z))) λz _ _ _ _=>rfl) X Y k g
 ·exact aik _ _ _ _
 ·exact aic _ _ _ _
 ·exact aii _ _ _ _
 ·exact aid _ _ _ _
 ·exact aij _ _ _ _
 ·exact aif _ _ _ _
 ·unfold Km;split<;>rfl
 ·exact aie _ _ _ _
 ·exact WY _ _ _ _
 ·exact WY _ _ _ _
 ·exact ail _ _ _ _
 ·rfl
def Q3{op:Op}{k:A->ah X}(h:kM P σ op k=some r):∃ v,k v=some r/\kG (λX k=>kM (X:=X) P σ op k) v/\∀ lab ρ a w (o:Oper),o.op=op->Rl w0 N lab ρ σ a w->∃ u,(execOp a.eval o).run P w = .ok (.value u) w/\RA w w0.heap.size lab ρ v u:=by
 obtain⟨z,I,T⟩:=Q2.jV h
 refine⟨z,I,T,λlab ρ a w o F hR=>?_⟩
 replace h:kM P σ op some=some z:=T A some;clear T I;unfold kM at h;split at h
 ·cases h;exact⟨_,by simp[execOp,F],hR.aE _⟩
 ·cases h;exact⟨_,by simp[execOp,F],hR.aE _⟩
 ·rename_i c x y;split at h
  ·rename_i b hb;have Y:=hR.aE c;rw[hb]at Y;have Z:=Y.2.wS;cases b with
   |true=>cases h;exact⟨a.eval x,by simp[execOp,F,Z,asBool],hR.aE x⟩
   |false=>cases h;exact⟨a.eval y,by simp[execOp,F,Z,asBool],hR.aE y⟩
  ·cases h
 next t parts=>obtain⟨_,⟨⟩,C⟩:=ag7 (w0:=w0) (N:=N) h;obtain⟨v,D,E⟩:=C lab ρ a w hR;exact⟨v,by simp only[execOp,F];exact iu D,E⟩
 next t x=>obtain⟨_,⟨⟩,C⟩:=VP (w0:=w0) (N:=N) h;obtain⟨v,D,E⟩:=C lab ρ a w hR _ (hR.aE x);exact⟨v,by simp only[execOp,F];exact iu D,E⟩
 next op t x y yt=>obtain⟨_,⟨⟩,C⟩:=ahh (w0:=w0) (N:=N) h;obtain⟨v,D,E⟩:=C lab ρ a w hR x y _ _ (hR.aE x) (hR.aE y);exact⟨v,by simp only[execOp,F];exact iu D,E⟩
 next op t x=>obtain⟨u,hx,h⟩:=O2 h;obtain⟨_,⟨⟩,hp,C⟩:=agN (P:=P) h;have I:=hR.aE x;rw[hx]at I;obtain⟨L,D,U⟩:=C w _ lab [] _ I.2;exact⟨L,by simp only[execOp,F];exact iu D,V.Ez hp,U⟩
 next s d' x=>obtain⟨_,⟨⟩,C⟩:=ahd (w0:=w0) (N:=N) h;obtain⟨v,D,E⟩:=C lab ρ a w hR _ (hR.aE x);exact⟨v,by simp only[execOp,F];exact iu D,E⟩
 next s x f=>obtain⟨_,⟨⟩,C⟩:=agQ h;obtain⟨v,D,E⟩:=C w _ lab ρ _ (hR.aE x);exact⟨v,by simp only[execOp,F];exact iu D,E⟩
 next s x f=>obtain⟨_,⟨⟩,C⟩:=ahe h;obtain⟨v,D,E⟩:=C w _ lab ρ _ (hR.aE x);exact⟨v,by simp only[execOp,F];exact iu D,E⟩
 next t x i=>obtain⟨_,⟨⟩,C⟩:=agR (w0:=w0) (N:=N) h;obtain⟨v,D,E⟩:=C lab ρ a w hR _ _ (hR.aE x) (hR.aE i);exact⟨v,by simp only[execOp,F];exact iu D,E⟩
 next t x i=>obtain⟨_,⟨⟩,C⟩:=ahc h;obtain⟨v,D,E⟩:=C w _ lab ρ _ _ (hR.aE x) (hR.aE i);exact⟨v,by simp only[execOp,F];exact iu D,E⟩
 next x i=>obtain⟨_,⟨⟩,C⟩:=agT (P:=P) h;obtain⟨v,D,E⟩:=C w _ lab ρ _ (hR.aE x);exact⟨v,by simp only[execOp,F];exact iu D,E⟩
 next x=>obtain⟨h,C⟩:=ais (w:=w) (B:=w0.heap.size) (lab:=lab) (ρ:=ρ) h;cases h;obtain⟨ad,hu⟩:=C _ (hR.aE x);refine⟨a.eval x,?_,hR.aE x⟩;simp only[execOp,F,hu];rfl
 next x t=>obtain⟨_,⟨⟩,C⟩:=agS (w0:=w0) (N:=N) (ty:=o.type) h;obtain⟨v,D,E⟩:=C lab ρ a w hR _ (hR.aE x);exact⟨v,Xs F λ_=>iu D,E⟩
 next x y t L=>obtain⟨_,⟨⟩,C⟩:=Wb (P:=P) h;obtain⟨v,D,E⟩:=C w _ lab ρ t o.type _ _ (hR.aE x) (hR.aE y);exact⟨v,KG F λ_=>iu (s:=Builtin.max_ #[t,L] o.type #[a.eval x,a.eval y]) D,E⟩
 next x y t L=>obtain⟨_,⟨⟩,C⟩:=Wb (P:=P) h;obtain⟨v,D,E⟩:=C w _ lab ρ t o.type _ _ (hR.aE x) (hR.aE y);exact⟨v,KG F λ_=>iu (s:=Builtin.min_ #[t,L] o.type #[a.eval x,a.eval y]) D,E⟩
 ·rename_i t x lo hi;obtain⟨_,⟨⟩,C⟩:=ahm (w0:=w0) (N:=N) h;have O:∀ z:ah Operand,(∀ b,z.map (aE σ)=some b->∃ v,z.map a.eval=some v/\RA w w0.heap.size lab ρ b v)/\(z.map (aE σ)=none->z.map a.eval=none):=by
   intro z;cases z with
   |none=>exact⟨λb hb=>(by cases hb),λ_=>rfl⟩
   |some z=>exact⟨λb hb=>(by cases hb;exact⟨_,rfl,hR.aE z⟩),λhb=>(by cases hb)⟩
  obtain⟨v,D,U⟩:=C lab ρ a w hR _ _ _ (hR.aE x) (O lo).1 (O lo).2 (O hi).1 (O hi).2;exact⟨v,by simp only[execOp,F];exact iu D,U⟩
 ·cases h
def jA.skip{C:S}(D:o.dst=none)(h:∀ lab ρ a w,Rl w0 N lab ρ σ a w->∃ w' ax,(execOp a.eval o).run P w = .ok .skip w'/\Rl w0 N ax ρ C a w'):jA P w0 N o σ C:=by
 intro a w K Q hR E;obtain⟨lab,ρ,hR⟩:=hR;obtain⟨w',ax,F,I⟩:=h lab ρ a w hR;unfold Oper.wp;rw[F,Oper.upon_skip,D];exact E _ _ ⟨ax,ρ,I⟩
def KH{s:Sem af}(h:s.run P w = .ok () w'):(do s;pure .skip:Sem Next).run P w = .ok .skip w':=by
 rw[fA,h];rfl
def aji{k:S->ah X}(dH:fj P Φ)(h:gz P N Φ σ o k=some r):∃ L,k L=some r/\jA P w0 N o σ L:=by
 unfold gz at h;split at h
 ·rename_i e C;obtain⟨d,D,h⟩:=iE h;obtain⟨L,h,O⟩:=agZ (w0:=w0) h
  refine⟨L,h,.mem D λlab ρ a w hR=>?_⟩
  obtain⟨w',ax,ρ',v,E,I⟩:=O lab ρ a w hR;exact⟨w',ax,ρ',v,by simp only[execOp,C];exact iu E,I⟩
 ·rename_i e x C;obtain⟨d,D,h⟩:=iE h;obtain⟨L,h,O⟩:=aiq (w0:=w0) (e:=e) h
  refine⟨L,h,.mem D λlab ρ a w hR=>?_⟩
  obtain⟨w',ax,ρ',v,E,I⟩:=O lab ρ a w hR _ (hR.aE x);exact⟨w',ax,ρ',v,by simp only[execOp,C];exact iu E,I⟩
 ·rename_i t len parts C;obtain⟨d,D,h⟩:=iE h;cases hn:oA t with
  | true=>
   rw[hn,aj]at h;obtain⟨L,h,O⟩:=aiv (w0:=w0) h
   refine⟨L,h,.mem D λlab ρ a w hR=>?_⟩
   obtain⟨w',ax,ρ',v,E,I⟩:=O lab ρ a w hR;exact⟨w',ax,ρ',v,by simp only[execOp,C];exact iu E,I⟩
  | false=>
   rw[hn,au]at h;obtain⟨L,h,O⟩:=ahb (w0:=w0) h
   refine⟨L,h,.mem D λlab ρ a w hR=>?_⟩
   obtain⟨w',ax,ρ',v,E,I⟩:=O lab ρ a w hR;exact⟨w',ax,ρ',v,by simp only[execOp,C];exact iu E,I⟩
 ·rename_i t x y C;split at h
  ·rename_i D;cases hn:vi (aE σ x) (aE σ y)with
   | true=>
    rw[hn,aj]at h;obtain⟨L,h,O⟩:=aiE (w0:=w0) (N:=N) h
    refine⟨L,h,.skip D λlab ρ a w hR=>?_⟩
    obtain⟨w',ax,E,I⟩:=O lab ρ a w hR _ _ (hR.aE x) (hR.aE y);exact⟨w',ax,by simp only[execOp,C];exact KH E,I⟩
   | false=>
    rw[hn,au]at h;obtain⟨L,h,O⟩:=VR (w0:=w0) (N:=N) h
    refine⟨L,h,.skip D λlab ρ a w hR=>?_⟩
    obtain⟨w',E,I⟩:=O lab ρ a w hR _ _ (hR.aE x) (hR.aE y);exact⟨w',lab,by simp only[execOp,C];exact KH E,I⟩
  ·cases h
 ·rename_i t l c C;obtain⟨d,D,h⟩:=iE h;obtain⟨L,h,O⟩:=ag0 (w0:=w0) h
  refine⟨L,h,.mem D λlab ρ a w hR=>?_⟩
  obtain⟨w',ax,ρ',v,E,I⟩:=O lab ρ a w hR _ _ (hR.aE l) (hR.aE c);exact⟨w',ax,ρ',v,by simp only[execOp,C];exact iu E,I⟩
 ·rename_i f args iO C;split at h
  next c T=>obtain⟨d,D,h⟩:=iE h;obtain⟨U,Y⟩:=dH f _ T;exact Wo C D U Y (Wm (w0:=w0) (N:=N) _) h
  next c T=>obtain⟨U,Y⟩:=dH f _ T;exact ahO C U Y h
  next c T=>obtain⟨d,D,h⟩:=iE h;obtain⟨U,Y⟩:=dH f _ T;exact aiJ C D U Y h
  ·rename_i F T;obtain⟨d,D,h⟩:=iE h;obtain⟨U,Y⟩:=dH f _ T;split at h
   next x hx=>exact aiI C hx D U Y h
   ·cases h
  next c T=>obtain⟨U,Y⟩:=dH f _ T;exact Xg (ex:=[]) C rfl U Y h
  next c T=>obtain⟨U,Y⟩:=dH f _ T;exact ahU C U Y h
  next c T=>obtain⟨d,D,h⟩:=iE h;obtain⟨U,Y⟩:=dH f _ T;exact Wo C D U Y (ahr (w0:=w0) (N:=N) _) h
  next c T=>obtain⟨U,Y⟩:=dH f _ T;exact aiQ C U Y h
  ·cases h
 ·rename_i x y t t' C;cases lQ:Nat.beq t t' with
  | false=>
   rw[lQ,au]at h;obtain⟨d,D,h⟩:=iE h;obtain⟨L,h,O⟩:=ai2 (w0:=w0) (ty:=o.type) h
   refine⟨L,h,.mem D λlab ρ a w hR=>?_⟩
   obtain⟨w',ax,ρ',v,E,I⟩:=O lab ρ a w hR _ _ (hR.aE x) (hR.aE y);exact⟨w',ax,ρ',v,KG C λ_=>iu E,I⟩
  | true=>
   rw[lQ,aj]at h;obtain rfl:=cv lQ;obtain⟨d,D,h⟩:=iE h;have hh:∃ L,k L=some r/\∀ lab ρ a w,Rl w0 N lab ρ σ a w->∀ u v,RA w w0.heap.size lab ρ (aE σ x) u->RA w w0.heap.size lab ρ (aE σ y) v->
     ∃w' ax ρ' z,(Builtin.append_ #[t,t] o.type #[u,v]).run P w = .ok z w'/\Rl w0 N ax ρ' L (a.put (some d) z) w':=by
    cases hn:oA t with
    |true=>rw[hn,aj]at h;exact aiC h
    | false=>
     rw[hn,au]at h;cases hk:Kz t d x with
     |true=>rw[hk,aj]at h;exact ajf h
     |false=>rw[hk,au]at h;exact ag1 h
   obtain⟨L,h,O⟩:=hh
   refine⟨L,h,.mem D λlab ρ a w hR=>?_⟩
   obtain⟨w',ax,ρ',v,E,I⟩:=O lab ρ a w hR _ _ (hR.aE x) (hR.aE y);exact⟨w',ax,ρ',v,KG C λ_=>iu E,I⟩
 ·rename_i t C;obtain⟨d,D,h⟩:=iE h;obtain⟨L,h,O⟩:=ai4 (w0:=w0) (t:=t) (P:=P) h
  refine⟨L,h,.mem D λlab ρ a w hR=>?_⟩
  obtain⟨w',ax,ρ',v,E,I⟩:=O lab ρ a w hR;exact⟨w',ax,ρ',v,by simp only[execOp,C];exact iu E,I⟩
 ·rename_i t x i C;obtain⟨v,Z,_,O⟩:=ai8 (w0:=w0) (N:=N) h
  refine jA.val Z λlab ρ a w hR=>?_
  obtain⟨y,E,I⟩:=O lab ρ a w hR _ _ (hR.aE x) (hR.aE i);exact⟨y,by simp only[execOp,C];exact iu E,I⟩
 ·rename_i t x i v C;split at h
  ·rename_i D;obtain⟨L,h,_,O⟩:=ai9 (w0:=w0) (N:=N) h
   refine⟨L,h,.skip D λlab ρ a w hR=>?_⟩
   obtain⟨w',E,I⟩:=O lab ρ a w hR _ _ _ (hR.aE x) (hR.aE i) (hR.aE v);exact⟨w',lab,by simp only[execOp,C];exact KH E,I⟩
  ·cases h
 ·rename_i t args iO C;split at h
  ·rename_i f cap uU;split at h
   next c T=>obtain⟨U,Y⟩:=dH f _ T;exact Xg C uU U Y h
   ·cases h
  ·cases h
 ·rename_i f Xt C;split at h
  ·rename_i ps pz;obtain⟨Z,h2⟩:=Xh (w0:=w0) (N:=N) _ _ pz
   refine jA.val h λlab ρ a w hR=>⟨.func (.func f) #[] (Xt.map a.eval),by simp[execOp,C,Instr.makeFunc],_,rfl,by simp[Z],λj p hp=>?_⟩
   obtain⟨b,off,e1,e2⟩:=h2 lab ρ a w hR j p hp;exact⟨b,off,e1,by simpa using e2⟩
  ·cases h
 ·rename_i x t C;obtain⟨oz,Z,O⟩:=ag4 (w0:=w0) (N:=N) (ty:=o.type) h;have run:∀ lab ρ a w,Rl w0 N lab ρ σ a w->∃ w',(execOp a.eval o).run P w = .ok (.value (.tuple #[])) w'/\Rl w0 N lab ρ oz a w':=by
   intro lab ρ a w hR;obtain⟨w',E,I⟩:=O lab ρ a w hR _ (hR.aE x);exact⟨w',Xs C λ_=>iu E,I⟩
  unfold gk at Z;split at Z
  ·rename_i D
   refine⟨_,Z,λa w K Q hR hK=>?_⟩
   obtain⟨lab,ρ,hR⟩:=hR;obtain⟨w',E,I⟩:=run lab ρ a w hR;unfold Oper.wp;rw[E,Oper.upon_value,D];exact hK _ _ ⟨lab,ρ,I⟩
  ·rename_i d D;cases hN:Nat.blt d N with
   |false=>rw[hN]at Z;cases Z
   | true=>
    rw[hN,aj]at Z
    refine⟨_,Z,.mem D λlab ρ a w hR=>?_⟩
    obtain⟨w',E,I⟩:=run lab ρ a w hR;exact⟨w',lab,ρ,_,E,I.set trivial (by have:=cr hN;omega)⟩
 ·cases h
def Q4{k:S -> ah X}(E:fj P Φ)(h:cU P N Φ σ o k=some r):∃ C,k C=some r/\jA P w0 N o σ C:=by
 unfold cU at h;cases D:eY o.op with
 | true=>
  rw[D,aj]at h;obtain⟨v,F,_,I⟩:=Q3 h;exact jA.val F λlab ρ a w hR=>I lab ρ a w o rfl hR
 | false=>
  rw[D]at h;exact aji E h
def ajj{k:S->ah X}(T:fj P Φ)(h:Fz P N Φ σ o k=some r):∃ D,k D=some r/\jA P w0 N o σ D:=by
 unfold Fz at h;split at h
 ·rename_i t x y E F;split at h
  ·rename_i q s i j Y;obtain⟨D,C,I⟩:=aiT (w0:=w0) (N:=N) h
   refine⟨D,C,.skip F λlab ρ a w hR=>?_⟩
   have U:=hR.aE y;rw[Y]at U;obtain⟨w',ax,L,Z⟩:=I lab ρ a w hR _ _ (hR.aE x) U;exact⟨w',ax,by simp only[execOp,E];exact KH L,Z⟩
  ·exact Q4 T h
 ·rename_i t x lo hi mx d E F;obtain⟨C,I⟩:=aiV (w0:=w0) (N:=N) h;cases O:Nat.blt d N with
  |false=>rw[O]at C;cases C
  | true=>
   rw[O,aj]at C
   refine⟨_,C,.mem F λlab ρ a w hR=>?_⟩
   obtain⟨v,L⟩:=I lab ρ a w hR _ _ _ _ (hR.aE x) (hR.aE lo) (hR.aE hi) (hR.aE mx);refine⟨w,lab,ρ,v,?_,hR.set trivial (by have:=cr O;omega)⟩;simp only[execOp,E,Option.map_some];exact iu L
 ·exact Q4 T h
/-! What an operation gives hangs on its operands and on the roots that they name. -/
def A.key:A->ah (aa Nat)
 |.lf (.own q)=>some q
 |.view q _ _ _=>some q
 |.ptr (_::_::_::q)=>some q
 |_=>none
def Sm(σ2 σ:S)(x:A):Prop:=∀q,x.key=some q->∀(X:Type) (k:V->ah X),iq σ2.m q k=iq σ.m q k
def Sm.eq{σ2:S}(C:σ2.m=σ.m)(x:A):Sm σ2 σ x:=λq _ X k=>by rw[C]
def Sm.lf{σ2:S}{l:Lf}(h:Sm σ2 σ (.lf l))(k:V->ah X):nK σ2 l k=nK σ l k:=by
 cases l with
 |own q=>exact h q rfl X k
 |_=>rfl
def Sm.bin{σ2:S}{C:BinOp}{t:TypeId}{x y:A}(h:Sm σ2 σ x)(k:A->ah X):w7 P σ2 C t x y k=w7 P σ C t x y k:=by
 unfold w7;split
 ·rfl
 ·split
  ·exact h.lf _
  ·rfl
 ·rfl
def Sm.conv{σ2:S}{t C:TypeId}{x:A}(h:Sm σ2 σ x)(k:A->ah X):w5 P σ2 t C x k=w5 P σ t C x k:=by
 unfold w5;split
 ·rfl
 ·exact h.lf _
 ·rfl
def Sm.idx{σ2:S}{t:TypeId}{x i:A}(h:Sm σ2 σ x)(k:A->ah X):wU P σ2 t x i k=wU P σ t x i k:=by
 unfold wU;split
 ·rfl
 ·split
  ·split
   ·rfl
   ·exact h _ rfl _ _
   ·rfl
  ·rfl
def Sm.len{σ2:S}{t:TypeId}{x:A}(h:Sm σ2 σ x)(k:A->ah X):zo P σ2 t x k=zo P σ t x k:=by
 cases x with
 |lf l=>exact h.lf _
 |_=>rfl
def Sm.slc{σ2:S}{t:TypeId}{x:A}{lo hi:ah A}(h:Sm σ2 σ x)(k:A->ah X):w8 P σ2 t x lo hi k=w8 P σ t x lo hi k:=by
 unfold w8 zF;split
 ·simp only[h _ rfl]
 ·simp only[h _ rfl]
 ·rfl
def Sm.load{σ2:S}{t:TypeId}{x:A}(h:Sm σ2 σ x)(hb:∀ r j,x = .aI r j->σ2.m r=σ.m r)(k:A->ah X):mm P σ2 t x k=mm P σ t x k:=by
 unfold mm;split
 ·rfl
 ·split
  ·rw[hb _ _ rfl]
  ·rfl
  ·exact h _ rfl _ _
  ·rfl
def Xu{σ2:S}(C:Op)(h:∀ x∈C.operands,aE σ2 x=aE σ x/\Sm σ2 σ (aE σ x))(hl:∀ t x,C = .load t x->∀ k:A->ah X,mm P σ2 t (aE σ x) k=mm P σ t (aE σ x) k)(k:A->ah X):kM P σ2 C k=kM P σ C k:=by
 unfold kM;split
 case h_4 t parts=>
  have e:(parts.toList.map λp=>(p.1,aE σ2 p.2))=parts.toList.map λp=>(p.1,aE σ p.2):=nc λp F=>by rw[(h p.2 (by simp only[Op.operands];exact List.mem_toArray.2 (List.mem_map_of_mem (f:=(·.2)) F))).1]
  simp only[B1,e]
 case h_18 t x lo hi=>
  have e:∀ z:ah Operand,(∀ y,z=some y->aE σ2 y=aE σ y)->z.map (aE σ2)=z.map (aE σ):=by
   intro z I;cases z with
   |none=>rfl
   |some z=>exact bu some (I z rfl)
  have E:=h x (by simp[Op.operands]);rw[E.1,e lo (λy D=>(h y (by subst D;simp[Op.operands])).1),e hi (λy D=>(h y (by subst D;simp[Op.operands])).1)];exact E.2.slc k
 all_goals simp[Op.operands,Call.operands]at h
 case h_5=>rw[h.1];exact hl _ _ rfl k
 case h_6=>rw[h.1.1,h.2.1];exact h.1.2.bin k
 case h_8=>rw[h.1];exact h.2.conv k
 case h_11=>rw[h.1.1,h.2.1];exact h.1.2.idx k
 case h_15=>rw[h.1];exact h.2.len k
 all_goals first|rfl|simp only[h]
def Xv{σ2:S}(C:Op)(D:σ2.m=σ.m)(h:∀ x∈C.operands,aE σ2 x=aE σ x)(k:A->ah X):kM P σ2 C k=kM P σ C k:=
 Xu C (λx E=>⟨h x E,.eq D _⟩) (λt x _ k=>(Sm.eq D _).load (λr _ _=>by rw[D]) k) k
def Xw{σ2:S}(C:σ2.m=σ.m)(q:aa Nat)(s i j:Nat)(k:V->ah X):sZ σ2 q s i j k=sZ σ q s i j k:=by
 simp only[sZ,C]
def Q5{σ2:S}(C:σ2.m=σ.m)(x:Lf)(k:V->ah X):nK σ2 x k=nK σ x k:=(Sm.eq C _).lf k
def ajk{σ2:S}(C:σ2.m=σ.m)(x:A)(k:V->ah X):qt σ2 x k=qt σ x k:=by
 cases x<;>simp only[qt,Q5 C,Xw C]
def Q6{σ2:S}(C:σ2.m=σ.m):∀ (xs:aa Lf) (k:aa V->ah X),pq σ2 xs k=pq σ xs k
 |[],k=>rfl
 | x :: xs,k=>by
  simp only[pq,Q5 C,Q6 C xs]
def Xx{σ2:S}(C:σ2.m=σ.m)(x:A)(k:Pt->ah X):mA σ2 x k=mA σ x k:=by
 unfold mA;simp only[Q6 C,Xw C]
def Q7{σ2:S}{f:A->(Pt->ah X)->ah X}:∀ (xs:aa Operand) (k:aa Pt->ah X),(∀ x∈xs,aE σ2 x=aE σ x)->tf f σ2 xs k=tf f σ xs k
 |[],k,_=>rfl
 | x :: xs,k,h=>by
  simp only[tf,h x (.head _),Q7 xs _ λy C=>h y (.tail _ C)]
def ajl{σ2:S}(C:σ2.m=σ.m)(xs:aa Operand)(k:aa Pt->ah X)(h:∀ x∈xs,aE σ2 x=aE σ x):qx σ2 xs k=qx σ xs k:=by
 unfold qx;rw[show mA σ2=mA σ from funext λx=>funext λk=>Xx C x k,Q7 xs k h]
def ajm{σ2:S}(C:σ2.m=σ.m)(x:A)(k:Pt->ah X):td σ2 x k=td σ x k:=by
 unfold td;simp only[Xx C,Q6 C,C]
def ajn{σ2:S}(C:σ2.m=σ.m)(xs:aa Operand)(k:aa Pt->ah X)(h:∀ x∈xs,aE σ2 x=aE σ x):zG σ2 xs k=zG σ xs k:=by
 unfold zG;rw[show td σ2=td σ from funext λx=>funext λk=>ajm C x k,Q7 xs k h]
/-! .. and a root that it does not name is of no account. -/
def FG(n:Nat)(x:aM)(m:Nat->ah aM):Nat->ah aM:=bE (λr=>bif Nat.beq r n then none else (m r).map (aM.drop n)) n (some x)
def Xy{n:Nat}{x:aM}{m:Nat->ah aM}{q:Nat}(h:q≠n):FG n x m q=(m q).map (aM.drop n):=by
 unfold FG;rw[bZ _ _ _ h,nH h];rfl
def KI{m m':Nat->ah aM}{p:Nat->Bool}(D:∀ r,p r=false->∀ y,m' r=some (.sl y) ↔ m r=some (.sl y)):∀ (q:aa Nat) (k:V->ah X),mF p q=true->iq m' q k=iq m q k
 |[],_,_=>rfl
 | [r],k,h=>by
  have E:=D r (by simpa [mF,gR]using h);simp only[iq];split
  next y C=>rw[(E y).1 C]
  ·rename_i F;split
   next y C=>exact absurd ((E y).2 C) (F y)
   ·rfl
 |[_,_],_,_=>rfl
 |[j,i,s],k,h=>rfl
 | j :: i :: s :: I :: q,k,h=>by
  simp only[iq];exact KI D (I::q) _ (by simpa [mF,JB]using h)
def ajo{n:Nat}{q:aa Nat}(h:cF n q=false):mF (λr=>Nat.beq r n) q=true:=by
 unfold mF gR;unfold cF at h;split
 next r C=>rw[C]at h;show (!Nat.beq r n)=true;rw[nH (show r≠n by simpa using h)];rfl
 ·rfl
def aM.FH(n:Nat)(cs:aa Lf):(aM.blk cs).drop n = .blk (cs.map (Lf.drop n)):=rfl
def ajp{n:Nat}(z:ah aM)(y:V):z.map (aM.drop n)=some (.sl y) ↔ z=some (.sl y):=by
 cases z with
 |none=>simp
 |some z=>cases z<;>simp[aM.drop,aM.cm]
def Xz{n:Nat}{x:aM}{m:Nat->ah aM}{r:Nat}(h:r≠n)(y:V):FG n x m r=some (.sl y) ↔ m r=some (.sl y):=by
 rw[Xy h];exact ajp _ y
def FI{p:Nat->Bool}{r n:Nat}(h:p r=false)(C:p n=true):r≠n:=by
 rintro rfl;rw[C]at h;cases h
def ajq{n:Nat}{x:aM}{m:Nat->ah aM}(q:aa Nat)(k:V->ah X)(h:cF n q=false):iq (FG n x m) q k=iq m q k:=
 KI (p:=λr=>Nat.beq r n) (λr C y=>Xz (FI (p:=λr=>Nat.beq r n) C (Nat.beq_refl n)) y) q k (ajo h)
def ajr{p:Nat->Bool}{r j n:Nat}(h:(A.aI r j).nr p=true)(C:p n=true):r≠n:=
 FI (by simpa [A.nr,A.fr,rV]using h) C
def XA{p pb:Nat->Bool}{x:A}{q:aa Nat}(h:x.mH p pb=true)(e:x.key=some q):mF p q=true:=by
 unfold A.key at e;split at e
 ·injection e with e;subst e;exact h
 ·injection e with e;subst e;exact h
 ·rename_i j i s C;injection e with e;subst e;have h:mF p (j :: i :: s :: C)=true:=h;cases C with
  |nil=>rfl
  |cons D q=>simpa [mF,JB]using h
 ·cases e
def ajs{p pb:Nat->Bool}{t:TypeId}{cs:aa Lf}{y:A}(h:uM P t cs some=some y)(C:y.mH p pb=true):∀ c∈cs,c.nr p=true:=by
 unfold uM at h;split at h
 ·split at h
  ·split at h
   ·injection h with h;subst h;exact bW.1 C
   ·split at h
    ·injection h with h;subst h;intro c D;rw[ng.1 D];exact C
    ·cases h
   ·cases h
  ·cases h
 ·cases h
def A.vn:A->Bool
 |.aI .. |.ptr _|.lf (.own _)=>true
 |_=>false
def A.XB(x:A)(K:lO):x.cm K=x\/(x.cm K).vn=false:=by
 cases x with
 | lf l=>cases l with
  |own k=>cases h:K.l k<;>simp[A.cm,Lf.cm,h,A.vn]
  |_=>exact .inl rfl
 |ptr k=>cases h:K.p k<;>simp[A.cm,h,A.vn]
 |aI r j=>cases h:K.r r<;>simp[A.cm,h,A.vn]
 |pk r j=>cases h:K.r r<;>simp[A.cm,h,A.vn]
 |view k s i j=>cases h:K.p k<;>simp[A.cm,h,A.vn]
 |fn f cap=>cases h:(cap.any λp=>K.r p.1)<;>simp[A.cm,h,A.vn]
 |_=>exact .inr rfl
structure Grow (p pb:Nat->Bool) (σ cN:S):Prop where
 t:∀{g},(σ.t g).mH p pb=true->cN.t g=σ.t g
 sl:∀r,p r=false->∀y,cN.m r=some (.sl y) ↔ σ.m r=some (.sl y)
 blk:∀r,p r=false->∀cs,σ.m r=some (.blk cs)->∃f:Lf->Lf,cN.m r=some (.blk (cs.map f))/\∀l,l.nr p=true->f l=l
 nw:∀g,cN.t g=σ.t g\/(cN.t g).vn=false
def Grow.refl{p pb:Nat->Bool}(σ:S):Grow p pb σ σ:=
 ⟨λ_=>rfl,λ_ _ _=>.rfl,λ_ _ cs h=>⟨id,by rw[List.map_id];exact h,λ_ _=>rfl⟩,λ_=>.inl rfl⟩
def Grow.trans{p pb:Nat->Bool}{σ E F:S}(h:Grow p pb σ E)(D:Grow p pb E F):Grow p pb σ F:=by
 refine⟨λ{g} I=>?_,λr C y=>(D.sl r C y).trans (h.sl r C y),λr C cs O=>?_,λg=>?_⟩
 ·have e:=h.t I;rw[D.t (by rw[e];exact I),e]
 ·obtain⟨f,T,U⟩:=h.blk r C cs O;obtain⟨L,Y,Z⟩:=D.blk r C _ T;exact⟨L ∘ f,by rw[<-List.map_map];exact Y,λl hl=>by show L (f l)=l;rw[U l hl,Z l hl]⟩
 ·rcases D.nw g with e | e
  ·rw[e];exact h.nw g
  ·exact .inr e
def Grow.root{p pb:Nat->Bool}{σ D:S}(n:Nat)(x:aM)(C:p n=true)(hb:pb n=true)(h:Grow p pb σ D):Grow p pb σ ((D.drop n).root n x):=by
 refine h.trans ⟨λF=>A.zP F C hb,λr E y=>Xz (FI E C) y,λr E cs I=>⟨Lf.drop n,?_,λl hl=>Lf.xx hl C⟩,λg=>A.XB _ _⟩
 show FG n x D.m r=_;rw[Xy (FI E C),I];rfl
def Grow.rt{p pb:Nat->Bool}{σ D:S}(n:Nat)(x:aM)(E:p n=true)(h:Grow p pb σ D):Grow p pb σ (D.root n x):=by
 have e:∀r,p r=false->(D.root n x).m r=D.m r:=λr C=>bZ _ _ _ (FI C E)
 exact h.trans ⟨λ_=>rfl,λr C y=>by rw[e r C],λr C cs F=>⟨id,by rw[e r C,List.map_id];exact F,λ_ _=>rfl⟩,λ_=>.inl rfl⟩
/-! Roots that a call writes. -/
def XC(ns:aa Nat)(nr:aa (Nat×aM))(m:Nat->ah aM):Nat->ah aM:=λr=>match nr.lookup r with
 |some x=>some x
 |none=>bif cI r ns ||cI r []then none else (m r).map (aM.cL ns [])
structure Q8 (p:Nat->Bool) (ns:List Nat) (nr:List (Nat×aM)):Prop where
 ns:∀n,cI n ns=true->p n=true
 nr:∀n x,nr.lookup n=some x->p n=true
def ajt{p:Nat->Bool}{ns:aa Nat}{nr:aa (Nat×aM)}{m:Nat->ah aM}(hb:Q8 p ns nr){q:Nat}(h:p q=false):XC ns nr m q=(m q).map (aM.cL ns []):=by
 unfold XC;cases C:nr.lookup q with
 |some x=>rw[hb.nr q x C]at h;cases h
 | none=>
  cases D:cI q ns with
  |true=>rw[hb.ns q D]at h;cases h
  |false=>rfl
def Q9(k:aa Nat):fh k []=false:=by
 unfold fh;split<;>rfl
def Ra{p:Nat->Bool}{ns:aa Nat}(hb:∀ n,cI n ns=true->p n=true)(k:aa Nat)(h:fh k ns=true):gR p k=true:=by
 unfold fh at h;unfold gR;split at h
 next r C=>rw[C];exact hb _ h
 ·cases h
def Lf.aju{p:Nat->Bool}{x:Lf}{ns:aa Nat}(h:x.nr p=true)(hb:∀ n,cI n ns=true->p n=true):x.cL ns []=x:=
 Lf.nE (Lf.qi (λk C=>Ra hb k (by simp[tj,Q9]at C;exact C.1)) h)
def A.Rb{p pb:Nat->Bool}{x:A}{ns:aa Nat}(h:x.mH p pb=true)(hb:∀ n,cI n ns=true->p n=true):x.cL ns []=x:=
 A.nE (A.qi (K:=tj ns []) (J:=rV p pb) (λk C=>Ra hb k (by simp[tj,Q9]at C;exact C.1)) (λk C=>Ra hb k (by simpa [tj,Q9]using C)) (λr D=>by cases D) h)
def Grow.cL{p pb:Nat->Bool}{σ C:S}(ns:aa Nat)(nr:aa (Nat×aM))(hb:Q8 p ns nr)(h:Grow p pb σ C):Grow p pb σ (C.cL ns [] nr):=by
 have e:∀r,p r=false->(C.cL ns [] nr).m r=(C.m r).map (aM.cL ns []):=λr D=>ajt hb D
 refine h.trans ⟨λE=>A.Rb E hb.ns,λr D y=>?_,λr D cs F=>⟨Lf.cL ns [],?_,λl hl=>Lf.aju hl hb.ns⟩,λg=>A.XB _ _⟩
 ·rw[e r D];cases C.m r with
  |none=>simp
  |some z=>cases z<;>simp[aM.cL,aM.cm]
 ·rw[e r D,F];rfl
end
end Go.Proofs.YthmgjjfedieljaaGreatDoor
