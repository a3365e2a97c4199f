/-
  Running the program over pure contents, and that it follows (part 3). Nothing here is a claim.
-/
import Derived.Lib.AppendStr
import Derived.MapKept
import Derived.Test.YtgjfmljpdnnihaaGreatV2
set_option linter.unusedSimpArgs false
namespace Go.Proofs.YtgjfmljpdnnihaaGreat
set_option linter.defProp false
open Go.RowKit
set_option linter.unusedVariables false
def dT:Nat:=89999
def pZ(af:bh)(k:aa Nat):bh:=λb=>match af b with
 |some q=>bif k.isSuffixOf q then some (q.take (q.length-k.length)++[dT])else bif cD dT q then none else some q
 |none=>none
def QB(σ:S)(c:m9)(args:aa Operand)(q:Nat):Bool:=match jg σ c.ps args with
 |some C=>!cP q ((kS 0 C).map (·.1))&&C.any λD=>Nat.beq D.root dT
 |none=>false
def Gt{X:Type}(N:Nat)(σ:S)(D:ah Tmp)(c:m9)(args:aa Operand)(k:S->ah X):ah X:=
 match args with
 | .tmp t :: _=>(match σ.t t with
  | .lf (.own [j,i,s,q])=>(match σ.m q with
   | some (.sl (.sl tc (o+2) E l))=>if s=aC tc then (if hi:i<l.length then (match (enc tc o l[i])[j]? with
    | some y=>bif Nat.ble N 20000&&Nat.ble 20000 q&&Nat.blt q 60000&&QB ((σ.c8 [q,dT] [dT] [(dT,.sl y)]).set t (.lf (.own [dT]))) c args q then nO N ((σ.c8 [q,dT] [dT] [(dT,.sl y)]).set t (.lf (.own [dT]))) D c args λC=>(match C.m dT with
      | some (.sl I)=>(match dec tc o (splice (enc tc o l[i]) j [I])with
       |some e=>k ((C.drop dT).root q (.sl (.sl tc (o+2) E (l.set i e))))
       |none=>none)
      |_=>none)else none
    |none=>none)else none)else none
   |_=>none)
  |_=>none)
 |_=>none
section
variable {P:Program} {w w':World} {w0:Wd} {B N:Nat} {af dx az:bh} {ρ eW ρ':Nat->Loc} {σ:S} {a:Act} {X:Type} {d:Nat} {r:X} {o:Oper} {K:aa Nat} {m:Nat->ah aQ}
def KD{b:Nat}(h:af b=none):pZ af K b=none:=by simp[pZ,h]
def ahJ{b:Nat}{p:aa Nat}(h:af b=some (p++K)):pZ af K b=some (p++[dT]):=by
 have C:K.isSuffixOf _=true:=List.isSuffixOf_iff_suffix.2 ⟨p,rfl⟩;simp[pZ,h,C]
def QC{b:Nat}{k:aa Nat}(h:af b=some k)(C:¬ K <:+ k)(D:cD dT k=false):pZ af K b=some k:=by
 have C:K.isSuffixOf k=false:=by
  grind
 simp[pZ,h,C,D]
def RV.cut{k:aa Nat}{x:V}{v:Value}(h:RV w B af k x v)(p:aa Nat)(D:k=p++K\/x.aF=true):RV w B (pZ af K) (p++[dT]) x v:=
 h.map (Q:=λk C=>∃ p,k=p++K/\C=p++[dT]) (dH _) (λb _ h=>⟨rfl,KD h⟩) (λb k C _ E e=>by
  obtain⟨p,rfl,rfl⟩:=e;exact⟨rfl,ahJ E,λj i s=>⟨j::i::s::p,rfl,rfl⟩⟩) (D.symm.imp_right λh=>⟨p,h,rfl⟩)
def RV.ahK{k:aa Nat}{x:V}{v:Value}(h:RV w B af k x v)(O:∀ b,af b≠some [])(T:((∀ p,¬ K <:+ p++k)/\cD dT k=false)\/x.aF=true):RV w B (pZ af K) k x v:=
 h.map (Q:=λk C=>k=C/\(∀ p,¬ K <:+ p++k)/\cD dT k=false) (dH _) (λb _ h=>⟨rfl,KD h⟩) (λb k C _ D e=>by
  obtain⟨rfl,E,I⟩:=e
  refine⟨rfl,QC D (E []) I,λj i s=>⟨rfl,λp=>?_,?_⟩⟩
  ·have:=E (p++[j,i,s])
   rwa [List.append_assoc]at this
  ·rw[J5 (by rintro rfl;exact O b D)];exact I) (T.symm.imp_right λh=>⟨rfl,h⟩)
def Rl.ahL{t:Nat}{x:A}(h:Rl w0 N af ρ σ a w)(D:RA w w0.heap.size af ρ x (a.tmps.getD t undef)):Rl w0 N af ρ (σ.set t x) a w:=by
 refine⟨h.below,h.cN,h.root,λk=>?_,h.size,h.defers,h.fix,h.cF⟩
 show RA w _ af ρ (bD σ.t t x k) _;by_cases C:k=t
 ·subst C;rw[bI];exact D
 ·rw[ck _ _ _ C];exact h.tmp k
def Rl.ahM{q:Nat}{x:aQ}(h:Rl w0 N af ρ σ a w)(E:dS w w0.heap.size af ρ q x):Rl w0 N af ρ (σ.root q x) a w:=by
 refine⟨h.below,h.cN,λr y C=>?_,h.tmp,h.size,h.defers,h.fix,h.cF⟩
 have C:bD σ.m q _ r=some y:=C;by_cases D:r=q
 ·subst D;rw[bI]at C;simp_all
 ·rw[ck _ _ _ D]at C;exact h.root r y C
def iS.ahN(h:Rl w0 N af ρ σ a w):iS w0 w w:=⟨rfl,rfl,rfl,dH _,λ_ _ _=>rfl⟩
def ahO{f:Nat}{args:Array Operand}{iM:Array TypeId}{c:m9}{k:S -> ah X}(ho:o.op = .call { callee:=.value (.func f),args,argTypes:=iM })(he:enters P f)(hc:vD P f c)(h:Gt N σ o.dst c args.toList k=some r):∃ cB,k cB=some r/\kP P w0 N o σ cB:=by
 unfold Gt at h;split at h
 ·rename_i t rest lG;split at h
  ·rename_i j i s q ht;split at h
   ·rename_i tc oo qn l hm;split at h
    ·rename_i hs;subst hs;split at h
     ·rename_i hi;split at h
      ·rename_i y hy;generalize ahP:((σ.c8 [q,dT] [dT] [(dT,.sl y)]).set t (.lf (.own [dT])))=p7 at h;cases hb:(Nat.ble N 20000&&Nat.ble 20000 q&&Nat.blt q 60000&&QB p7 c args.toList q)with
       |false=>rw[hb]at h;cases h
       | true=>
        rw[hb,aq]at h;simp only[aK]at hb;obtain⟨⟨⟨hN,xk⟩,xl⟩,KE⟩:=hb;have hN:=cu hN;have xk:=cu xk;have xl:q<60000:=cu xl;obtain⟨τ,QA,cn,Y,um,oH,zG,Gb⟩:=Qx (w0:=w0) ho he hc h;clear h;unfold QB at KE;rw[um]at KE;simp only[aK,gk]at KE;obtain⟨FN,hdT⟩:=KE;obtain⟨mu,jx,QD⟩:=List.any_eq_true.1 hdT;have QD:=cH QD;have ahQ:cP dT cn=false:=by rw[<- QD];exact zG mu jx
        have ahR:cP q cn=false:=by
         cases D:cP q cn with
         |false=>rfl
         |true=>have:=oH q D;omega
        have QE:q≠dT:=by unfold dT;omega
        split at Y
        ·rename_i y' F3;split at Y
         ·rename_i e QF
          refine⟨_,Y,λa w KK Q O hK=>?_⟩
          obtain⟨af,ρ,O⟩:=O;have cm:=O.w8;have KF:w0.F dT=none:=O.cF dT (.inr (by decide));have dY:=O.root q _ hm;generalize D:aQ.sl (.sl tc (oo+2) qn l)=x at dY;cases dY with
          |aA=>cases D
          |mp=>cases D
          |gh=>cases D
          | sl v yq bX hr=>
           injection D with D;subst D;cases hr with
           |eo=>simp at hi
           |fy=>simp at hi
           |fH=>simp at hi
           |aF _ _ _ _ _ _ _ _ _ ho=>omega
           | own _ _ _ _ _ b cap cs u hl hh hs hn r7 XM lY=>
            have hKv:wU σ.m [j,i,aC tc,q] y:=.elem j i [q] tc oo qn l y (.root q _ hm) hi hy;obtain⟨Z,kj,ahS⟩:=hKv.ok O.root;have xx:=O.tmp t;rw[ht]at xx;have jt:a.tmps.getD t undef=Z:=by
             have h2:=xx.2;rw[kj]at h2;injection h2 with h2;exact h2.symm
            have ahT:Z=u i j:=by
             have h3:cK w af ρ [j,i,aC tc,q]=some (u i j):=by
              rw[JW,Bc j i _ (show cK w af ρ [q]=some (.slice (some ⟨b,0,none⟩) l.length cap) by simp[cK,bX]) hl];show w.cell? _=_;rw[cell_of_row w b _ cs _ _ hh];simp[*]
             rw[kj]at h3;injection h3
            have fU:lW Z=true:=by rw[<- jt];exact xx.1
            -- the state that the callee's caller sees
            have Qa:∀ k:aa Nat,fI k [q,dT]=false -> cD q k=false/\cD dT k=false:=by
             intro k Y;unfold fI at Y;unfold cD;split at Y
             next z T=>rw[T];have:=Xp Y;simp only[gp,List.not_mem_nil,not_or]at this;exact⟨by simpa using this.1,by simpa using this.2⟩
             next T=>rw[T];exact⟨rfl,rfl⟩
            have hKq:∀ k:aa Nat,[j,i,aC tc,q] <:+ k -> cD q k=true:=by
             rintro k ⟨p,rfl⟩;simp[cD]
            have F5:ug w w af (pZ af [j,i,aC tc,q]) ρ (bD ρ dT (.dA Z)) [q,dT] [dT]:=by
             refine⟨dH _,λE xh C=>⟨rfl,?_⟩,λn hn=>?_,λE k C=>(O.cN E k C).2⟩
             ·cases I:af E with
              |none=>exact KD I
              | some k=>
               obtain⟨g1,g2⟩:=Qa k (C k I);exact QC I (λoy=>by rw[hKq k oy]at g1;cases g1) g2
             ·refine ck _ _ _ ?_;rintro rfl;simp[cP]at hn
            have xm:∀ E k,pZ af [j,i,aC tc,q] E=some k -> (∃ U,af E=some U)/\k≠[]:=by
             intro E k C;cases I:af E with
             |none=>rw[KD I]at C;cases C
             | some U=>
              refine⟨⟨U,rfl⟩,?_⟩;unfold pZ at C;rw[I]at C;simp only at C;cases h1:List.isSuffixOf [j,i,aC tc,q] U with
              | true=>
               rw[h1,aq]at C;injection C with C;rw[<- C];simp
              | false=>
               rw[h1,av]at C;cases h2:cD dT U with
               |true=>rw[h2,aq]at C;cases C
               | false=>
                rw[h2,av]at C;injection C with C;rw[<- C];exact(O.cN E U I).2.2
            have sH:Rl w0 N (pZ af [j,i,aC tc,q]) (bD ρ dT (.dA Z)) (σ.c8 [q,dT] [dT] [(dT,.sl y)]) a w:=by
             refine O.uh F5 (iS.ahN O) (λE k C=>?_) (λn hn=>?_) (λn z T=>?_)
             ·obtain⟨⟨U,I⟩,KG⟩:=xm E k C;have:=O.cN E U I;exact⟨this.1,this.2.1,KG⟩
             ·have:n=dT:=by simpa [cP]using hn
              rw[this];exact KF
             ·have hn:n=dT/\z = .sl y:=by
               rw[List.lookup_cons]at T;cases zH:(n==dT)with
               |false=>rw[zH]at T;cases T
               | true=>
                rw[zH]at T;injection T with T;exact⟨by simpa using zH,T.symm⟩
              obtain⟨rfl,rfl⟩:=hn;exact .sl Z y (bI _ _ _) (ahS.cut [] (.inl rfl))
            have m7:Rl w0 N (pZ af [j,i,aC tc,q]) (bD ρ dT (.dA Z)) p7 a w:=by
             rw[<- ahP];refine sH.ahL ?_;rw[jt];exact⟨fU,by simp only[cK,bI]⟩
            refine Gb a w KK Q _ _ m7 λvv w' dx eW sF Gs xw ku xJ=>?_
            -- behind the call
            have q6:90000 <= gW o.dst:=by unfold gW;split<;>omega
            have ahU:sF dT = .dA Z:=by
             rw[xJ dT (by unfold dT;omega),xw.eV dT ahQ,bI]
            have ahV:sF q = .dA (.slice (some ⟨b,0,none⟩) l.length cap):=by
             rw[xJ q (by omega),xw.eV q ahR,ck _ _ _ QE,bX]
            have dY:=Gs.root dT _ F3;generalize D:aQ.sl y'=x at dY;cases dY with
            |aA=>cases D
            |mp=>cases D
            |gh=>cases D
            | sl v' y'' iK fo=>
             injection D with D;subst D;rw[ahU]at iK;injection iK with iK;subst iK;have QG:=Gs.w8;have hrel:Rel dT dx (dx.gG dT [j,i,aC tc,q]):=FK QG;have XN:cD dT [q]=false:=by simpa [cD]using λe=>QE e
             have DK:pZ af [j,i,aC tc,q] b=some [q]:=QC hl (λoy=>by have:=oy.length_le;simp at this) XN;have ahW:fI [q] ((kS 0 QA).map (·.1))=false:=FN;obtain⟨g1,g2⟩:=xw.same b (xw.af b _ DK).1 (λk C=>by rw[DK]at C;injection C with C;subst C;exact ahW);have ahX:dx b=some [q]:=g2.trans DK;have ahY:dx.gG dT [j,i,aC tc,q] b=some [q]:=hrel.iQ b _ ahX XN;have hR4:=Gs.rel hrel (λE k C=>by
              unfold bh.gG at C;cases I:dx E with
              |none=>rw[I]at C;cases C
              | some U=>
               rw[I]at C;injection C with C;subst C;exact⟨⟨U,rfl⟩,WM (by simp) (λe=>QG E (by rw[I,e]))⟩)
             refine hK _ _ ⟨_,sF,hR4.ahM (.sl _ _ ahV ?_)⟩;have hj:j<aC tc:=by
              have:=(dI.1 hy).1
              rwa [kf]at this
             refine RV.J0 (w':=w') (cs:=cs) (xs:=[y']) (u:=u) (us:=u) ahY (g1.trans hh) hs hn r7 hi (show j+1 <= aC tc from hj) QF (λi' vJ j' x D hij=>⟨XM i' vJ j' x D,?_⟩) (λn x D=>?_)
             ·have xd:=lY i' vJ j' x D;have ahZ:¬ (i'=i/\j'=j):=λe=>hij ⟨e.1,by simp;omega⟩
              have XO:cD dT [j',i',aC tc,q]=false:=by simpa [cD]using λe=>QE e
              have a1:=xd.ahK (K:=[j,i,aC tc,q]) cm (.inl ⟨λp oy=>?_,XO⟩)
              ·have a2:=a1.uh xw (.inl (by simpa [fI]using FN));exact a2.rel hrel (.inl XO)
              ·have e1:[j,i,aC tc,q]=[j',i',aC tc,q]:=O9 oy ⟨p,rfl⟩ rfl;injection e1 with e1 e2;injection e2 with e2 e3;exact ahZ ⟨e2.symm,e1.symm⟩
             ·cases n with
              | zero=>
               simp only[List.getElem?_cons_zero,ig]at D;subst D;refine⟨XM i hi j y hy,?_⟩;have:=fo.gG (q:=dT) (nk:=[j,i,aC tc,q]) QG;rw[WL,ahT]at this;exact this
              |succ n=>simp at D
         ·cases Y
        ·cases Y
      ·cases h
     ·cases h
    ·cases h
   ·cases h
  ·cases h
 ·cases h
def ah0{C:ah Tmp}{c:m9}{args:aa Operand}(D:∀ σ,cq λX k=>nO (X:=X) N σ C c args k):cq λX k=>Gt (X:=X) N σ C c args k:=λX Y k g=>by
 unfold Gt
 repeat' first|rfl|refine cW ((D _ _ _ _ _).trans (bz _ (funext λE=>?_))) rfl|split
def xK:∀ (q:aa Nat),cq λX k=>iU (X:=X) m q k
 |[]=>λ_ _ _ _=>rfl
 | [x]=>λX Y k g=>by
  simp only[iU]
  repeat' first|rfl|refine cW ?_ ?_|split
 |[_,_]=>λ_ _ _ _=>rfl
 | j :: i :: s :: q=>λX Y k g=>by
  simp only[iU]
  refine(xK q _ _ _ _).trans (bz _ (funext λy=>?_))
  repeat' first|rfl|split
  all_goals simp_all
def DL{x:Lf}:cq λX k=>oA (X:=X) σ x k:=by
 cases x with
 |own q=>exact xK q
 |_=>exact λ_ _ _ _=>rfl
def XP{q:aa Nat}{s i j:Nat}:cq λX k=>vo (X:=X) σ q s i j k:=λX Y k g=>by
 refine(xK q _ _ _ _).trans (bz _ (funext λy=>?_))
 repeat' first|rfl|refine cW ?_ ?_|split
def QH{x:A}:cq λX k=>r9 (X:=X) σ x k:=by
 cases x with
 |lf l=>exact DL
 |view=>exact XP
 |_=>exact λ_ _ _ _=>rfl
def QI{x:A}:cq λX k=>vK (X:=X) x k:=λX Y k g=>by
 unfold vK
 repeat' first|rfl|refine cW ?_ ?_|split
def ah1{ty:TypeId}{C:BinOp}{x y:V}:cq λX k=>FE (X:=X) P ty C x y k:=λX Y k g=>by
 unfold FE
 repeat' first|rfl|refine cW ?_ ?_|split
def ah2{C:BinOp}{t:TypeId}{x y:A}:cq λX k=>zm (X:=X) P σ C t x y k:=λX Y k g=>by
 unfold zm;split
 ·repeat' first|rfl|refine cW ?_ ?_|split
 ·split
  ·refine(DL _ _ _ _).trans (bz _ (funext λz=>?_))
   repeat' first|rfl|refine cW ?_ ?_|split
  ·rfl
 ·exact(QI.comp λa=>QI.comp λb=>ah1.comp (b:=λX k z=>k (.lf (.v z))) λz _ _ _ _=>rfl) X Y k g
def ah3{C:UnOp}{x:V}:cq λX k=>FF (X:=X) C x k:=λX Y k g=>by
 unfold FF
 repeat' first|rfl|refine cW ?_ ?_|split
def KH{t:TypeId}{cs:aa Lf}:cq λX k=>wZ (X:=X) P t cs k:=λX Y k g=>by
 unfold wZ
 repeat' first|rfl|refine cW ?_ ?_|split
def XQ{t:TypeId}{x:A}:cq λX k=>nI (X:=X) P σ t x k:=λX Y k g=>by
 unfold nI;split
 ·rfl
 ·split
  ·split
   ·exact KH _ _ _ _
   ·rfl
  ·exact KH _ _ _ _
  ·refine(xK _ _ _ _ _).trans (bz _ (funext λz=>?_))
   repeat' first|rfl|exact KH _ _ _ _|split
  ·rfl
def ah4{s:TypeId}{x:A}{f:Nat}:cq λX k=>Dn (X:=X) P s x f k:=λX Y k g=>by
 unfold Dn
 repeat' first|rfl|refine cW ?_ ?_|split
def ah5{t:TypeId}{x i:A}:cq λX k=>yX (X:=X) P σ t x i k:=λX Y k g=>by
 unfold yX;split
 ·rfl
 ·split
  ·split
   ·repeat' first|rfl|refine cW ?_ ?_|split
   ·refine(xK _ _ _ _ _).trans (bz _ (funext λz=>?_))
    repeat' first|rfl|refine cW ?_ ?_|split
   ·rfl
  ·rfl
def ah6{t:TypeId}{x:A}:cq λX k=>Bi (X:=X) P σ t x k:=λX Y k g=>by
 unfold Bi;split
 ·refine(DL _ _ _ _).trans (bz _ (funext λz=>?_))
  repeat' first|rfl|refine cW ?_ ?_|split
 ·repeat' first|rfl|refine cW ?_ ?_|split
 ·rfl
def ah7{x:A}{i:Nat}:cq λX k=>Bj (X:=X) x i k:=λX Y k g=>by
 unfold Bj
 repeat' first|rfl|refine cW ?_ ?_|split
def ah8{t:TypeId}{parts:aa (Nat×Operand)}:cq λX k=>Dw (X:=X) P σ t parts k:=λX Y k g=>by
 unfold Dw
 repeat' first|rfl|refine cW ?_ ?_|split
def ah9{s:TypeId}{x:A}{f:Nat}:cq λX k=>F1 (X:=X) P s x f k:=λX Y k g=>by
 unfold F1
 repeat' first|rfl|refine cW ?_ ?_|split
def XR{C:Bool}{x y:A}:cq λX k=>Dy (X:=X) C x y k:=λX Y k g=>by
 unfold Dy
 repeat' first|rfl|refine cW ?_ ?_|split
def aia{t:TypeId}{x i:A}:cq λX k=>F2 (X:=X) P t x i k:=λX Y k g=>by
 unfold F2
 repeat' first|rfl|refine cW ?_ ?_|split
def aib{C D:TypeId}{x:A}:cq λX k=>zh (X:=X) P σ C D x k:=λX Y k g=>by
 unfold zh;split
 ·repeat' first|rfl|refine cW ?_ ?_|split
 ·refine(DL _ _ _ _).trans (bz _ (funext λz=>?_))
  unfold Kk
  repeat' first|rfl|refine cW ?_ ?_|split
 ·rfl
def DM{x:ah A}{d:Int}:cq λX k=>ua (X:=X) x d k:=λX Y k g=>by
 unfold ua
 repeat' first|rfl|refine cW ?_ ?_|split
def XS{t:TypeId}{q:aa Nat}{C:ah Nat}{lo hi:ah A}:cq λX k=>Bq (X:=X) P σ t q C lo hi k:=λX Y k g=>by
 unfold Bq;split
 ·split
  ·refine(xK _ _ _ _ _).trans (bz _ (funext λz=>?_))
   unfold DC;split
   ·split
    ·refine(DM _ _ _ _).trans (bz _ (funext λ_=>(DM _ _ _ _).trans (bz _ (funext λ_=>?_))))
     repeat' first|rfl|refine cW ?_ ?_|split
    ·rfl
   ·rfl
  ·rfl
 ·rfl
def aic{t:TypeId}{x:A}{lo hi:ah A}:cq λX k=>zn (X:=X) P σ t x lo hi k:=λX Y k g=>by
 unfold zn;split
 ·exact XS _ _ _ _
 ·exact XS _ _ _ _
 ·unfold xo;split
  ·split
   ·refine(DM _ _ _ _).trans (bz _ (funext λ_=>(DM _ _ _ _).trans (bz _ (funext λ_=>?_))))
    repeat' first|rfl|refine cW ?_ ?_|split
   ·rfl
  ·split
   ·split
    ·split
     ·refine cW ((DM _ _ _ _).trans (bz _ (funext λ_=>(DM _ _ _ _).trans (bz _ (funext λ_=>?_))))) rfl
      repeat' first|rfl|refine cW ?_ ?_|split
     ·rfl
    ·rfl
   ·rfl
  ·rfl
def xN{C:ah Tmp}{x:A}:cq λX k=>gM (X:=X) N σ C x k:=λX Y k g=>by
 unfold gM
 repeat' first|rfl|refine cW ?_ ?_|split
def KI{x:aQ}{y:A}:cq λX k=>gO (X:=X) N σ d x y k:=λX Y k g=>cW rfl rfl
def DN{x:aQ}{y:A}{k:S -> ah X}(h:gO N σ d x y k=some r):k (((σ.drop d).root d x).set d y)=some r/\lZ (λX k=>gO (X:=X) N σ d x y k) (((σ.drop d).root d x).set d y):=by
 unfold gO at h;cases C:Nat.blt d N with
 |false=>simp_all
 |true=>rw[C]at h;exact⟨h,λX k=>by simp[gO,C,aq]⟩
def aid{e:TypeId}{k:S -> ah X}(h:qV P N σ d e k=some r):∃ x y,k (((σ.drop d).root d x).set d y)=some r/\y = .aJ d 0/\(∀ (C:S),lZ (λX k=>qV (X:=X) P N C d e k) (((C.drop d).root d x).set d y)):=by
 unfold qV at h;split at h
 ·rename_i z D;obtain⟨E,_⟩:=DN h
  refine⟨_,_,E,rfl,λC X k=>?_⟩
  obtain⟨I,_⟩:=oC h;have O:Nat.blt d N=true:=jc I;simp[qV,D,gO,O,aq]
 ·cases h
def XT{t:TypeId}{l c:A}{k:S -> ah X}(h:zb P N σ d t l c k=some r):∃ y,k (((σ.drop d).root d (.sl y)).set d (.lf (.own [d])))=some r/\(∀ (C:S),lZ (λX k=>zb (X:=X) P N C d t l c k) (((C.drop d).root d (.sl y)).set d (.lf (.own [d])))):=by
 unfold zb at h;split at h
 ·rename_i e tc Y n Z c D;split at h
  ·cases h
  ·rename_i z E;split at h
   ·rename_i I;obtain⟨O,_⟩:=DN h
    refine⟨_,O,λC X k=>?_⟩
    obtain⟨T,_⟩:=oC h;have U:Nat.blt d N=true:=jc T;simp[zb,D,E,aW I,gO,U,aq]
   ·cases h
 ·cases h
def XU{t:TypeId}{len:Nat}{parts:aa (Nat×Operand)}{k:S -> ah X}(h:zg P N σ d t len parts k=some r):∃ y,k (((σ.drop d).root d (.sl y)).set d (.lf (.own [d])))=some r /\
  (∀(C:S),(∀p∈parts,aG C p.2=aG σ p.2) -> lZ (λX k=>zg (X:=X) P N C d t len parts k) (((C.drop d).root d (.sl y)).set d (.lf (.own [d])))):=by
 unfold zg at h;split at h
 ·rename_i e tc E;split at h
  ·rename_i z I;cases D:(Nat.beq (full tc) 0&&Nat.beq z.cells.size (aC tc)&&Nat.blt (len*aC tc) 16777217)with
   |false=>simp_all
   | true=>
    rw[D,aq]at h;split at h
    ·rename_i cs O;split at h
     ·rename_i vs T;split at h
      ·rename_i l U;obtain⟨Y,_⟩:=DN h
       refine⟨_,Y,λC Z X k=>?_⟩
       obtain⟨hN,_⟩:=oC h;have gB:Nat.blt d N=true:=jc hN;have e:(parts.map λp=>(p.1,aG C p.2))=parts.map λp=>(p.1,aG σ p.2):=List.map_congr_left λp hp=>by rw[Z p hp]
       simp[zg,E,I,D,aq,e,O,T,U,gO,gB]
      ·cases h
     ·cases h
    ·cases h
  ·cases h
 ·cases h
def aie{t:TypeId}{x y:A}:cq λX k=>tX (X:=X) P N σ d t x y k:=λX Y k g=>by
 unfold tX;split
 ·refine cW ((QH _ _ _ _).trans (bz _ (funext λC=>?_))) rfl
  repeat' first|rfl|exact KI _ _ _ _|refine cW ?_ ?_|split
 ·rfl
def XV:∀ (q:aa Nat) (y:V),cq λX k=>w7 (X:=X) m q y k
 |[],_=>λ_ _ _ _=>rfl
 | [x],y=>λX Y k g=>by
  simp only[w7]
  repeat' first|rfl|refine cW ?_ ?_|split
 |[_,_],_=>λ_ _ _ _=>rfl
 | j :: i :: s :: q,y=>λX Y k g=>by
  simp only[w7]
  refine(xK q _ _ _ _).trans (bz _ (funext λz=>?_))
  repeat' first|rfl|exact XV q _ _ _ _ _|split
def XW{t:TypeId}{x y:A}:cq λX k=>pL (X:=X) P σ t x y k:=λX Y k g=>by
 unfold pL;split
 ·split
  ·split
   ·repeat' first|rfl|refine cW ?_ ?_|split
   ·split
    ·rfl
    ·refine(xK _ _ _ _ _).trans (bz _ (funext λz=>?_))
     repeat' first|rfl|exact XV _ _ _ _ _ _|refine cW ?_ ?_|split
   ·rfl
  ·rfl
 ·rfl
def QJ:∀ (xs:aa Lf),cq λX k=>qW (X:=X) σ xs k
 |[]=>λ_ _ _ _=>rfl
 |x::xs=>DL.comp λy=>(QJ xs).comp (b:=λX k ys=>k (y.fZ::ys)) λ_ _ _ _ _=>rfl
def XX{x:A}:cq λX k=>nL (X:=X) σ x k:=λX Y k g=>by
 unfold nL
 repeat' first|rfl|exact QJ _ _ _ _ _|exact XP _ _ _ _|split
def aif{x:A}:cq λX k=>vz (X:=X) σ x k:=λX Y k g=>by
 unfold vz
 repeat' first|rfl|exact XX _ _ _ _|refine(QJ _ _ _ _ _).trans (bz _ (funext λz=>?_))|split
def QK{f:(X:Type)->A->(Pt->ah X)->ah X}(C:∀ x,cq λX k=>f X x k):∀ (xs:aa Operand),cq λX k=>vA (f X) σ xs k
 |[]=>λ_ _ _ _=>rfl
 |x::xs=>(C _).comp λp=>(QK C xs).comp (b:=λX k ps=>k (p::ps)) λ_ _ _ _ _=>rfl
def DO{xs:aa Operand}:cq λX k=>su (X:=X) σ xs k:=QK (λ_=>XX) xs
def XY{xs:aa Operand}:cq λX k=>Br (X:=X) σ xs k:=QK (λ_=>aif) xs
def KJ{C:fL}:cq λX k=>m6 (X:=X) σ d C k:=λX Y k g=>by
 unfold m6
 repeat' first|rfl|refine cW ?_ ?_|split
def XZ{f:Nat}{c:jf}(C:iL P f c){ev:(X:Type)->(aa Pt->ah X)->ah X}(D:cq ev):cq λX k=>sx (X:=X) N σ d c (ev X) k:=λX Y k g=>
 cW ((D.comp λps=>(C.1 ps).comp λE=>KJ) X Y k g) rfl
def KM{f:Nat}{c:jf}(Y:iL P f c){ev:(X:Type)->(aa Pt->ah X)->ah X}(Z:cq ev){k:S->ah X}(h:sx N σ d c (ev X) k=some r):∃ C D,m6 σ d C some=some D/\k D=some r/\
  ∀E O (I:(X:Type)->(aa Pt->ah X)->ah X),(∀(X:Type) (k:aa Pt->ah X),I X k=ev X k)->m6 E d C some=some O->lZ (λX k=>sx (X:=X) N E d c (I X) k) O:=by
 unfold sx at h;cases T:Nat.blt d N with
 |false=>rw[T]at h;cases h
 | true=>
  rw[T,aq]at h;obtain⟨ps,h2,hd⟩:=Z.lD h;obtain⟨C,h3,PX⟩:=(Y.1 ps).lD h2;obtain⟨D,h4,hd3⟩:=KJ.lD h3
  refine⟨C,D,hd3 _ _,h4,λE O I ha gX X k=>?_⟩
  obtain⟨τ2,U,X0⟩:=KJ.lD gX;injection U with U;subst U;show sx N E d c (I X) k=_;unfold sx;rw[T,aq,ha,hd X];exact(PX X _).trans (X0 X k)
/-! Keys that do not end in certain names. -/
def nP(p:Nat->Bool)(k:aa Nat):Bool:=!iJ p k
def uo(p pb:Nat->Bool):mX:=⟨iJ p,iJ p,pb⟩
def Lf.nr(p:Nat->Bool):Lf->Bool:=Lf.fr (iJ p)
def A.nr(p:Nat->Bool):A->Bool:=A.fr (uo p p)
def Gu{p:Nat->Bool}{n:Nat}(C:p n=true)(k:aa Nat)(h:cD n k=true):iJ p k=true:=by
 unfold iJ;rw[show k.getLast?=some n by simpa [cD]using h];exact C
def X3{p:Nat->Bool}{k:aa Nat}{n:Nat}(h:nP p k=true)(C:p n=true):cD n k=false:=by
 cases D:cD n k with
 |false=>rfl
 |true=>unfold nP at h;rw[Gu C k D]at h;cases h
def aih{p:Nat->Bool}{n:Nat}(C:p n=true)(r:Nat)(h:Nat.beq r n=true):p r=true:=by rw[cH h];exact C
def Lf.zI{p:Nat->Bool}{x:Lf}{n:Nat}(h:x.nr p=true)(C:p n=true):x.drop n=x:=Lf.ou (Lf.r4 (Gu C) h)
def qS.zI{p:Nat->Bool}{xs:aa Lf}{n:Nat}(h:xs.all (Lf.nr p)=true)(C:p n=true):xs.map (Lf.drop n)=xs:=qS.ou (bS.2 λc D=>Lf.r4 (Gu C) (bS.1 h c D))
def A.BG{p pb:Nat->Bool}{x:A}{n:Nat}(h:x.fr (uo p pb)=true)(C:p n=true)(D:pb n=true):x.drop n=x:=A.ou (A.r4 (K:=wV n) (J:=uo p pb) (Gu C) (Gu C) (aih D) h)
def A.zI{p:Nat->Bool}{x:A}{n:Nat}(h:x.nr p=true)(C:p n=true):x.drop n=x:=A.BG h C C
def S.ext'{σ C:S}(D:∀ k,σ.t k=C.t k)(E:∀ r,σ.m r=C.m r):σ=C:=by
 cases σ;cases C;simp
 grind
def S.set_set{e d:Nat}(h:e≠d)(v u:A):(σ.set d v).set e u=(σ.set e u).set d v:=by
 refine S.ext' (λk=>?_) λ_=>rfl
 show bD (bD σ.t d v) e u k=bD (bD σ.t e u) d v k;by_cases C:k=e
 ·subst C;rw[bI,ck _ _ _ h,bI]
 ·by_cases D:k=d
  ·subst D;rw[ck _ _ _ C,bI,bI]
  ·rw[ck _ _ _ C,ck _ _ _ D,ck _ _ _ D,ck _ _ _ C]
def S.drop_set(n:Nat){v:A}(C:v.drop n=v):(σ.set d v).drop n=(σ.drop n).set d v:=by
 refine S.ext' (λk=>?_) λ_=>rfl
 show (bD σ.t d v k).drop n=bD (λk=>(σ.t k).drop n) d v k;by_cases h:k=d
 ·subst h;rw[bI,bI,C]
 ·rw[ck _ _ _ h,ck _ _ _ h]
def QL(v:A):∀ (xs:aa V) (c:Nat) (σ:S),(∀ n,c <= n -> v.drop n=v) -> l8 c (σ.set d v) xs=(l8 c σ xs).set d v
 |[],c,σ,h=>rfl
 | x :: xs,c,σ,h=>by
  simp[l8];cases D:x.aF with
  | true=>
   exact QL v xs _ σ (λn C=>h n (by omega))
  | false=>
   rw[S.drop_set c (h c (dH _))];exact QL v xs _ ((σ.drop c).root c _) (λn C=>h n (by omega))
def QM(v:A):∀ (ps:aa Pt) (c:Nat) (σ:S),(∀ n,c <= n -> v.drop n=v) -> nN c (σ.set d v) ps=(nN c σ ps).set d v
 |[],c,σ,h=>rfl
 | p :: ps,c,σ,h=>by
  simp[nN];rw[QL v p.2 c σ h];exact QM v ps _ _ (λn C=>h n (by omega))
end
def zJ{X:Type}(N:Nat)(σ:S)(d:Nat)(x:A)(k:S->ah X):ah X:=
 match x.yW with
 |some xs=>bif xs.all Lf.live then gO N σ d (.aA (xs.map (Lf.drop d))) (.aJ d 0) k else none
 |none=>none
def KN{X:Type}(x:A)(k:A->ah X):ah X:=
 match x with
 |.aJ r j=>k (.aJ r j)
 |.ptr q=>k (.ptr q)
 |.iR cs=>k (.iR cs)
 |_=>none
section
variable {P:Program} {w w':World} {w0:Wd} {B N:Nat} {af az:bh} {ρ ρ':Nat->Loc} {σ:S} {a:Act} {X:Type} {d:Nat} {r:X} {o:Oper}
def aii{e:TypeId}{x:A}{k:S -> ah X}(h:zJ N σ d x k=some r):∃ I,k I=some r /\ ∀ af ρ a w,Rl w0 N af ρ σ a w -> ∀ u,RA w w0.heap.size af ρ x u ->
  ∃w' az ρ' v,(Instr.box e u).run P w = .ok v w'/\Rl w0 N az ρ' I (a.put (some d) v) w':=by
 unfold zJ at h;split at h
 ·rename_i xs Z;cases O:xs.all Lf.live with
  |false=>grind
  | true=>
   rw[O,aq]at h;obtain⟨T,h⟩:=oC h
   refine⟨_,h,λaf ρ a w D u hu=>?_⟩
   obtain⟨hl,_⟩:=FI Z O hu;have cY:(Instr.box e u).run P w = .ok (.pointer (some ⟨w.heap.size,0,none⟩)) (w.alloc (.cells u.cells e)):=by
    simp[Instr.box,newVar,newRow]
   refine⟨_,bD af w.heap.size (some [d]),bD ρ d (.aA w.heap.size 0),_,cY,(D.Ds (D.cF d (.inl T)) (λr C=>ck _ _ _ C) ?_).set ⟨w.heap.size,0,bI _ _ _,rfl⟩ T⟩
   have h1:eC (w.alloc (.cells u.cells e)) w0.heap.size (bD af w.heap.size (some [d])) ρ xs u.cells:=
    hl.iQ (by simp) (λb E=>⟨Below.heap_alloc w _ b E,ck _ _ _ (by omega)⟩) (λb k E=>(D.cN b k E).2.1)
   have U:=h1.eV (ρ':=bD ρ d (.aA w.heap.size 0)) (d:=d) (λr C=>ck _ _ _ C)
   refine .aA w.heap.size 0 u.cells e _ (λj=>u.cells.getD j undef) (bI _ _ _) (bI _ _ _) (heap_alloc_new w _) (by rw[U.1];omega) λj y hy=>?_
   obtain⟨v,Y,C⟩:=U.2 j y hy;have hg:u.cells.getD j undef=v:=by rw[gT,Y];rfl
   rw[hg,fe];exact⟨Y,C⟩
 ·cases h
def aij{x:A}{k:S -> ah X}(h:zJ N σ d x k=some r):∃ y u,k (((σ.drop d).root d y).set d u)=some r/\(∀ (C:S),lZ (λX k=>zJ (X:=X) N C d x k) (((C.drop d).root d y).set d u)):=by
 unfold zJ at h;split at h
 ·rename_i xs E;cases D:xs.all Lf.live with
  |false=>simp_all
  | true=>
   rw[D]at h;obtain⟨I,_⟩:=DN h
   refine⟨_,_,I,λC X k=>?_⟩
   obtain⟨O,_⟩:=oC h;have T:Nat.blt d N=true:=jc O;simp[zJ,E,D,gO,T,aq]
 ·cases h
def aik{x:A}{k:A->ah X}(h:KN x k=some r):k x=some r/\∀ u,RA w B af ρ x u->∃ ad,u = .pointer (some ad):=by
 unfold KN at h;split at h
 ·exact⟨h,λu C=>by obtain⟨b,off,_,rfl⟩:=C;exact⟨_,rfl⟩⟩
 ·exact⟨h,λu C=>by obtain⟨ad,rfl,_⟩:=C;exact⟨_,rfl⟩⟩
 ·exact⟨h,λu C=>by obtain⟨b,off,rfl,_⟩:=C;exact⟨_,rfl⟩⟩
 ·cases h
end
def p9(t:TypeId):Bool:=[999999,999999,50,999999,57,999999,999999,999999,999999,999999,39,999999,999999,999999,999999,999999].any (Nat.beq t)
def xO{X:Type}(P:Program)(N:Nat)(σ:S)(d:Nat)(t:TypeId)(len:Nat)(parts:aa (Nat×Operand))(k:S->ah X):ah X:=
 match vr P t with
 | some (e,tc)=>match zeroOf P e with
  | some z=>bif Nat.beq z.cells.size (aC tc)&&Nat.blt (len*aC tc) 16777217 then (match ze (λi=>some (i*aC tc,aC tc)) (List.replicate len (z.cells.toList.map nK)).flatten (parts.map λp=>(p.1,aG σ p.2))with
   |some cs=>bif Nat.beq len 0 then gO N σ d (.sl (.sl tc (full tc+2) true [])) (.lf (.own [d])) k else gO N σ d (.aA (cs.map (Lf.drop d))) (.pk d len) k
   |none=>none)else none
  |none=>none
 |none=>none
def BH{X:Type}(N:Nat)(σ:S)(d r C:Nat)(tc:TC)(n:Nat)(k:S->ah X):ah X:=
 match σ.m C,σ.m r with
 | some (.aA cs),some (.sl (.sl D (o+2) q l))=>if h:D=tc then (match gN r (λj=>(j % aC tc) :: (l.length+j / aC tc) :: aC tc :: [r]) cs.length 0 cs σ with
  | some (E,I)=>(match FW tc o n E with
   |some l2=>bif Nat.blt d N&&bV (l.length+l2.length)then k (((I.drop r).root r (.sl (.sl tc (o+2) false ((h ▸ l)++l2)))).set d (.lf (.own [r])))else none
   |none=>none)
  |none=>none)else none
 |_,_=>none
def Gv{X:Type}(P:Program)(N:Nat)(σ:S)(d:Nat)(t:TypeId)(x y:A)(k:S->ah X):ah X:=
 match vr P t,y with
 | some (e,tc),.pk C n=>bif (zeroOf P e).any (λz=>Nat.beq z.cells.size (aC tc))&&(Nat.blt d N&&Nat.blt n qR)then (match x with
  |.lf (.v .nil)=>BH N ((σ.drop d).root d (.sl (.sl tc (full tc+2) false []))) d d C tc n k
  |.lf (.own [r])=>bif Nat.blt r N ||Nat.ble 60000 r then BH N σ d r C tc n k else none
  |_=>none)else none
 |_,_=>none
def uq{X:Type}(P:Program)(σ:S)(t:TypeId)(x y:A)(k:S->ah X):ah X:=
 match je P t,y.yW,x with
 | some n,some xs,.ptr [j,i,s,r]=>if xs.length=n then (bif xs.all Lf.live then (match gN r (λm=>(j+m) :: i :: s :: [r]) xs.length 0 xs σ with
  | some (E,D)=>(match D.m r with
   | some (.sl (.sl C (o+2) I l))=>if s=aC C then (if h:i<l.length then (if j+n<=aC C then (match dec C o (splice (enc C o l[i]) j E)with
    |some e=>k (D.c8 [r] [] [(r,.sl (.sl C (o+2) I (l.set i e)))])
    |none=>none)else none)else none)else none
   |_=>none)
  |none=>none)else none)else none
 |_,_,_=>none
def xP(x y:A):Bool:=match x,y.yW with
 |.ptr _,some xs=>(qU xs).isNone
 |_,_=>false
section
variable {P:Program} {w w':World} {w0:Wd} {B N:Nat} {af az:bh} {ρ ρ':Nat->Loc} {σ:S} {a:Act} {X:Type} {d:Nat} {r:X} {o:Oper}
def X4{place:Nat -> ah (Nat×Nat)}:∀ (parts:aa (Nat×A)) (cells out:aa Lf),ze place cells parts=some out -> out.length=cells.length
 |[],cells,out,h=>by injection h with h;rw[h]
 | (i,x) :: rest,cells,out,h=>by
  unfold ze at h;split at h
  ·rename_i off n xs D E;split at h
   ·rename_i I;cases C:xs.all _ with
    | true=>
     rw[C]at h;rw[X4 rest _ _ h,tP _ _ _ (by omega)]
    |false=>simp_all
   ·cases h
  ·cases h
def ail{t:TypeId}{len:Nat}{parts:Array (Nat×Operand)}{k:S -> ah X}(h:xO P N σ d t len parts.toList k=some r):∃ cB,k cB=some r /\ ∀ af ρ a w,Rl w0 N af ρ σ a w ->
  ∃w' az ρ' v,(Instr.buildSlice t len (parts.map λ(i,x)=>(i,a.eval x))).run P w = .ok v w'/\Rl w0 N az ρ' cB (a.put (some d) v) w':=by
 unfold xO at h;split at h
 ·rename_i e tc oD;obtain⟨fW,ht,i,hi,U,jE⟩:=zc oD;split at h
  ·rename_i z hz;cases Y:(Nat.beq z.cells.size (aC tc)&&Nat.blt (len*aC tc) 16777217)with
   |false=>rw[Y]at h;cases h
   | true=>
    rw[Y,aq]at h;rw[aK]at Y;have mM:=cH Y.1;have hsm:len*aC tc<16777217:=by have:=cu Y.2;omega
    have oE:i.zero=some z:=by unfold zeroOf at hz;simpa [hi]using hz
    split at h
    ·rename_i cs fV;have key:∀ af ρ (a:Act) w,Rl w0 N af ρ σ a w -> ∃ C,(Instr.buildSlice t len (parts.map λ(i,x)=>(i,a.eval x))).run P w = .ok (.slice (some ⟨w.heap.size,0,none⟩) len len) (w.alloc (.cells C e))/\eC w w0.heap.size af ρ cs C/\C.size=cs.length:=λaf ρ a w D=>by
      have PE:eC w w0.heap.size af ρ (List.replicate len (z.cells.toList.map nK)).flatten (madeCells z.cells (len*aC tc)):=by
       have e1:(List.replicate len (z.cells.toList.map nK)).flatten=((List.replicate len z.cells.toList).flatten).map nK:=by
        rw[List.map_flatten,List.map_replicate]
       rw[e1,<- W5 z.cells (aC tc) len mM (ot tc)]
       refine⟨by simp,λj x E=>?_⟩
       rw[ef]at E;cases T:(madeCells z.cells (len*aC tc)).toList[j]? with
       |none=>rw[T]at E;cases E
       | some v=>
        rw[T]at E;injection E with E;subst E;exact⟨v,by simpa using T,Ka v⟩
      obtain⟨C,xq,Z⟩:=Kh (w:=w) (B:=w0.heap.size) (af:=af) (ρ:=ρ) _ _ _ (parts.toList.map λp=>(p.1,a.eval p.2)) cs fV PE (by simp) (λj p q I hq=>by
       rw[ef]at I hq;cases E:parts.toList[j]? with
       |none=>rw[E]at I;cases I
       | some x=>
        rw[E]at I hq;injection I with I;injection hq with hq;subst I hq;exact⟨rfl,D.aG x.2⟩)
      have cY:(Instr.buildSlice t len (parts.map λ(i,x)=>(i,a.eval x))).run P w = .ok (.slice (some ⟨w.heap.size,0,none⟩) len len) (w.alloc (.cells C e)):=by
       have FZ:(parts.map λ(i,x)=>(i,a.eval x)).toList=parts.toList.map λp=>(p.1,a.eval p.2):=by simp
       by_cases h0:len*aC tc=0
       ·have hm:madeCells z.cells (len*aC tc) = #[]:=by rw[h0];simp[madeCells]
        rw[hm]at xq;have PF:len*i.size=0:=by rw[U];exact h0
        rw[<- U]at xq;have e0:∀f:Nat -> Value,Array.map f (Array.range 0) = #[]:=λf=>by simp
        simp only[Instr.buildSlice,fR,gF fW,sizeOf,typeInfo];simp[hi,PF];rw[e0,xq];simp[newRow]
       ·exact run_buildSlice (P:=P) w t e len _ C i z fW hi oE (by rw[U];omega) (by rw[U];exact h0) (by rw[U,FZ];exact xq)
      exact⟨C,cY,Z,Z.1⟩
     cases nJ:Nat.beq len 0 with
     | true=>
      rw[nJ,aq]at h;have hln:=cH nJ;subst hln;obtain⟨hd,h⟩:=oC h
      refine⟨_,h,λaf ρ a w D=>?_⟩
      obtain⟨C,cY,Z,QN⟩:=key af ρ a w D;have q6:cs.length=0:=by
       have h1:=X4 _ _ _ fV;rw[h1];simp
      refine⟨_,bD af w.heap.size (some [d]),bD ρ d (.dA (.slice (some ⟨w.heap.size,0,none⟩) 0 0)),_,cY,(D.Ds (D.cF d (.inl hd)) (λr O=>ck _ _ _ O) (.sl _ _ (bI _ _ _) ?_)).set ⟨rfl,by simp[cK,bI]⟩ hd⟩
      exact RV.own (w:=w.alloc (.cells C e)) (B:=w0.heap.size) (af:=bD af w.heap.size (some [d])) [d] tc (full tc) true [] w.heap.size 0 C (λ_ _=>undef)
       (bI _ _ _) (by rw[ht];exact heap_alloc_new w _) (by omega) (dH _) ⟨by unfold maxLen;omega,λ_=>rfl⟩ (λi' h'=>absurd h' (by simp)) (λi' h'=>absurd h' (by simp))
     |false=>
     rw[nJ,av]at h;obtain⟨hd,h⟩:=oC h
     refine⟨_,h,λaf ρ a w D=>?_⟩
     obtain⟨C,cY,Z,_⟩:=key af ρ a w D
     refine⟨_,bD af w.heap.size (some [d]),bD ρ d (.aA w.heap.size 0),_,cY,(D.Ds (D.cF d (.inl hd)) (λr O=>ck _ _ _ O) ?_).set ⟨w.heap.size,bI _ _ _,(O3 (by have:=Nat.le_mul_of_pos_right len (ot tc);unfold qR;omega)).symm⟩ hd⟩
     have h1:eC (w.alloc (.cells C e)) w0.heap.size (bD af w.heap.size (some [d])) ρ cs C:=
      Z.iQ (by simp) (λb hb=>⟨Below.heap_alloc w _ b hb,ck _ _ _ (by omega)⟩) (λb k hb=>(D.cN b k hb).2.1)
     have h2:=h1.eV (ρ':=bD ρ d (.aA w.heap.size 0)) (d:=d) (λr O=>ck _ _ _ O)
     refine .aA w.heap.size 0 C e _ (λj=>C.getD j undef) (bI _ _ _) (bI _ _ _) (heap_alloc_new w _) (by rw[h2.1];omega) λj y hy=>?_
     obtain⟨v,T,O⟩:=h2.2 j y hy;have hg:C.getD j undef=v:=by rw[gT,T];rfl
     rw[hg,fe];exact⟨T,O⟩
    ·cases h
  ·cases h
 ·cases h
def aim{t:TypeId}{len:Nat}{parts:aa (Nat×Operand)}{k:S -> ah X}(h:xO P N σ d t len parts k=some r):∃ y u,k (((σ.drop d).root d y).set d u)=some r /\
  (∀(C:S),(∀p∈parts,aG C p.2=aG σ p.2) -> lZ (λX k=>xO (X:=X) P N C d t len parts k) (((C.drop d).root d y).set d u)):=by
 unfold xO at h;split at h
 ·rename_i e tc Z;split at h
  ·rename_i z hz;cases D:(Nat.beq _ _&&Nat.blt _ 16777217)with
   |false=>rw[D]at h;cases h
   | true=>
    rw[D]at h;split at h
    ·rename_i cs fV;cases E:Nat.beq len 0 with
     | true=>
      rw[E,aq]at h;obtain⟨I,_⟩:=DN h
      refine⟨_,_,I,λC O X k=>?_⟩
      obtain⟨T,_⟩:=oC h;have U:Nat.blt d N=true:=jc T;have e:(parts.map λp=>(p.1,aG C p.2))=parts.map λp=>(p.1,aG σ p.2):=List.map_congr_left λp Y=>by rw[O p Y]
      simp only[xO,Z,hz,D,aq,e,fV,gO,U,E]
     | false=>
      rw[E,av]at h;obtain⟨I,_⟩:=DN h
      refine⟨_,_,I,λC O X k=>?_⟩
      obtain⟨T,_⟩:=oC h;have U:Nat.blt d N=true:=jc T;have e:(parts.map λp=>(p.1,aG C p.2))=parts.map λp=>(p.1,aG σ p.2):=List.map_congr_left λp Y=>by rw[O p Y]
      simp only[xO,Z,hz,D,aq,e,fV,gO,U,E,av]
    ·cases h
  ·cases h
 ·cases h
def X5{t e ty:TypeId}{tc:TC}{i:TypeInfo}{z:Value}{rr ry n:Nat}{k:S -> ah X}(fW:P.underlying t=some (.slice e))(ht:tid tc=e)(hi:P.info? e=some i)(hz:i.zero=some z)
  (ia:i.size=aC tc) (jE:i.bytes <= 65536) (mM:z.cells.size=aC tc) (h:BH N σ d rr ry tc n k=some r):∃cB,k cB=some r /\ ∀af ρ a w,Rl w0 N af ρ σ a w -> w0.F rr=none -> ∀u v b,ρ rr = .dA u -> ρ ry = .aA b 0 -> v = .slice (some ⟨b,0,none⟩) n n ->
  ∃w' az ρ' z,(Builtin.append_ #[t,t] ty #[u,v]).run P w = .ok z w'/\Rl w0 N az ρ' cB (a.put (some d) z) w':=by
 unfold BH at h;split at h
 ·rename_i cs E o q l QO hr;split at h
  ·rename_i mZ;subst mZ;split at h
   ·rename_i vs τ QS;split at h
    ·rename_i l2 ko;cases U:(Nat.blt d N&&bV (l.length+l2.length))with
     |false=>rw[U]at h;cases h
     | true=>
      rw[U,aq]at h;rw[aK]at U;have FR:l.length+l2.length<1073741824:=by simpa [bV]using U.2
      have hd:d<N:=by have:=cu U.1;omega
      refine⟨_,h,λaf ρ a w hR hF u v b ain aio O=>?_⟩
      subst O;have Y:=hR.root ry _ QO;generalize C:aQ.aA cs=x at Y;cases Y with
      |sl=>cases C
      |mp=>cases C
      |gh=>cases C
      | aA b' off cells e' eS us bX pJ hh hs hc=>
       injection C with C;subst C;rw[aio]at bX;injection bX with e1 e2;subst e1 e2;have ki:eC w w0.heap.size af ρ cs ((List.range cs.length).map us).toArray:=by
        refine⟨by simp,λj x I=>?_⟩
        have D:j<cs.length:=(dI.1 I).1;exact⟨us j,by simp[D],(hc j x I).2⟩
       obtain⟨az,dm,Bh,KO,_,lY,jt,_,_⟩:=J6 (w0:=w0) (N:=N) (λj=>by simp[cD]) _ _ _ _ _ _ QS af ρ a w hR _ ki;obtain⟨Kl,aip,iq⟩:=PD E o n vs l2 ko;have xm:cs.length=n*aC E:=by rw[<- Bh,aip]
       have lF:∀ j,j<cs.length -> (us j).oneCell'=true:=by
        intro j D;have I:=bK (by rw[Bh];exact D);obtain⟨u',vp,T⟩:=KO j _ I;have:u'=us j:=by simpa [D]using vp.symm
        rw[<- this];exact T.one
       have QT:b<w.heap.size:=(ic.1 hh).1;have oF:Reads w w.heap.size (aC E) (some ⟨b,0,none⟩) n ((List.range cs.length).map us):=by
        refine⟨by simp[xm],λhn=>⟨b,0,rfl,QT,λj v O=>?_⟩⟩
        have D:j<cs.length:=by have:=(dI.1 O).1;simpa using this
        have:v=us j:=by simpa [D]using O.symm
        subst this;rw[cell_of_row w b _ cells _ _ hh];simp_all
       have gB:tZ w w0.heap.size az rr l.length E o l2 ((List.range cs.length).map us):=by
        intro Z vJ j x I;have D:j<aC E:=by have:=(dI.1 I).1;rwa [kf]at this
        obtain⟨y,Y,hw⟩:=iq Z vJ j x I;obtain⟨u',vp,T⟩:=KO _ _ Y;refine⟨u',vp,?_⟩;have e1:(0+(Z*aC E+j)) % aC E=j:=by rw[fe,Nat.add_comm,Nat.add_mul_mod_self_right,Nat.mod_eq_of_lt D]
        have e2:(0+(Z*aC E+j)) / aC E=Z:=by rw[fe,Nat.add_comm,Nat.add_mul_div_right _ _ (ot E),Nat.div_eq_of_lt D,fe]
        simp only[e1,e2]at T;exact T.wk hw
       have BI:=dm.root rr _ (lY _ hr);generalize C:aQ.sl (.sl E (o+2) q l)=x at BI;cases BI with
       |aA=>cases C
       |mp=>cases C
       |gh=>cases C
       | sl uu y iK T=>
        injection C with C;subst C;rw[ain]at iK;injection iK with iK;subst iK;obtain⟨v',w',dx,cY,m7,fU⟩:=dm.ag2 (ty:=ty) (c:=n) hF fW ht hi hz ia jE mM T oF (λv O=>by
         obtain⟨j,D⟩:=List.mem_iff_getElem?.1 O;have FV:j<cs.length:=by have:=(dI.1 D).1;simpa using this
         have:v=us j:=by simpa [FV]using D.symm
         rw[this];exact lF j FV) Kl.symm gB FR
        exact⟨w',dx,_,v',cY,m7.set ⟨fU,by simp[cK,bI]⟩ hd⟩
    ·cases h
   ·cases h
  ·cases h
 ·cases h
def aiq{rr C n:Nat}{tc:TC}:cq λX k=>BH (X:=X) N σ d rr C tc n k:=λX Y k g=>by
 unfold BH
 repeat' first|rfl|refine cW ?_ ?_|split
def air{t ty:TypeId}{x y:A}{k:S -> ah X}(h:Gv P N σ d t x y k=some r):∃ C,k C=some r /\ ∀ af ρ a w,Rl w0 N af ρ σ a w -> ∀ u v,RA w w0.heap.size af ρ x u -> RA w w0.heap.size af ρ y v ->
  ∃w' az ρ' z,(Builtin.append_ #[t,t] ty #[u,v]).run P w = .ok z w'/\Rl w0 N az ρ' C (a.put (some d) z) w':=by
 unfold Gv at h;split at h
 ·rename_i e tc ry n oD;obtain⟨fW,ht,i,hi,ia,jE⟩:=zc oD;cases I:((zeroOf P e).any (λz=>Nat.beq z.cells.size (aC tc))&&(Nat.blt d N&&Nat.blt n qR))with
  |false=>simp_all
  | true=>
   rw[I,aq]at h;rw[aK]at I;obtain⟨z,hz,O⟩:=(Option.any_eq_true _ _).1 I.1;have O:=cH O;have oE:i.zero=some z:=by unfold zeroOf at hz;simpa [hi]using hz
   have T:=I.2;rw[aK]at T;have hd:d<N:=by have:=cu T.1;omega
   have lI:n<qR:=by have:=cu T.2;omega
   split at h
   ·obtain⟨C,U,Y⟩:=X5 (w0:=w0) (ty:=ty) fW ht hi oE ia jE O h
    refine⟨C,U,λaf ρ a w D u v E Z=>?_⟩
    have E:u = .slice none 0 0:=by cases E.2;rfl
    subst E;obtain⟨b,hb,rfl⟩:=Z;have QO:ry≠d:=by
     rintro rfl;unfold BH at h;split at h
     ·simp_all
     ·cases h
    have QU:=D.new (d:=d) (x:=.sl (.sl tc (full tc+2) false [])) (.dA (.slice none 0 0)) (.sl _ _ (bI _ _ _) (.eo _ _ _)) (D.cF d (.inl hd));exact Y _ _ a w QU (D.cF d (.inl hd)) _ _ b (bI _ _ _) ((ck _ _ _ QO).trans hb) (O3 lI)
   ·rename_i rr;cases hL:(Nat.blt rr N || Nat.ble 60000 rr)with
    |false=>simp_all
    | true=>
     rw[hL,aq]at h;rw[dZ]at hL;have lY:rr<N \/ 60000 <= rr:=hL.imp (λh=>by have:=cu h;omega) (λh=>cu h);obtain⟨C,U,Y⟩:=X5 (w0:=w0) (ty:=ty) fW ht hi oE ia jE O h
     refine⟨C,U,λaf ρ a w D u v E Z=>?_⟩
     obtain⟨b,hb,rfl⟩:=Z;have bX:ρ rr = .dA u:=by
      have h4:=E.2;simp only[cK]at h4;cases hl:ρ rr with
      |aA b o=>simp_all
      |bA us=>simp_all
      |dA v=>simp_all
     exact Y af ρ a w D (D.cF rr lY) _ _ b bX hb (O3 lI)
   ·cases h
 ·cases h
def ais{t:TypeId}{x y:A}:cq λX k=>Gv (X:=X) P N σ d t x y k:=λX Y k g=>by
 unfold Gv
 repeat' first|rfl|exact aiq _ _ _ _|refine cW ?_ ?_|split
def ait{t:TypeId}{x y:A}{k:S -> ah X}(h:uq P σ t x y k=some r):∃ cB,k cB=some r /\ ∀ af ρ a w,Rl w0 N af ρ σ a w -> ∀ u v,RA w w0.heap.size af ρ x u -> RA w w0.heap.size af ρ y v ->
  ∃w' az,(Instr.storeAt t u v).run P w = .ok () w'/\Rl w0 N az ρ cB a w':=by
 unfold uq at h;split at h
 ·rename_i n xs j i s rr hn mY;split at h
  ·rename_i hlen;cases QV:xs.all Lf.live with
   |false=>rw[QV]at h;cases h
   | true=>
    rw[QV,aq]at h;split at h
    ·rename_i vs τ QS;split at h
     ·rename_i C o' qn l gX;split at h
      ·rename_i oy;split at h
       ·rename_i hi;split at h
        ·rename_i hj;split at h
         ·rename_i e he
          refine⟨_,h,λaf ρ a w hR u v hu hv=>?_⟩
          obtain⟨ad,rfl,I⟩:=hu;obtain⟨hl,lF⟩:=FI mY QV hv;have ki:eC w w0.heap.size af ρ xs v.cells.toList.toArray:=by simpa using hl
          obtain⟨az,dm,Bh,KO,_,lY,jt,auy,_⟩:=J6 (w0:=w0) (N:=N) (λm=>by simp[cD]) _ _ _ _ _ _ QS af ρ a w hR _ ki;simp only[addrAt]at I;split at I
          ·rename_i b n0 c0 bX;split at I
           ·rename_i pJ;injection I with I;subst I;have BI:=dm.root rr _ gX;generalize D:aQ.sl (.sl C (o'+2) qn l)=x at BI;cases BI with
            |aA=>cases D
            |mp=>cases D
            |gh=>cases D
            | sl uu y iK fo=>
             injection D with D;subst D;rw[bX]at iK;injection iK with iK;subst iK;cases fo with
             |aF _ _ _ _ _ _ _ _ _ ho=>omega
             |fy=>simp at hi
             |fH=>simp at hi
             | own _ _ _ _ _ _ cap cs us KP hh hs tV hm hc hr=>
              subst oy;have QW:v.cells.size=n:=by rw[hl.1,hlen]
              have tT:i*aC C+aC C <= c0*aC C:=by
               have:(i+1)*aC C <= c0*aC C:=jF _ (by omega);rw[Nat.succ_mul]at this;exact this
              have lX:i*aC C+j+v.cells.toList.length <= cs.size:=by rw[lu,QW,hs];omega
              have T:=JZ w b (i*aC C+j) v.cells.toList;obtain⟨Z,gB,nH⟩:=Ft b (tid C) v.cells.toList (i*aC C+j) w cs hh lX;have tU:∀ m,Z[m]?=if m<i*aC C+j then cs[m]? else if m<i*aC C+j+n then v.cells[m-(i*aC C+j)]? else cs[m]?:=by
               intro m;have e2:Z[m]?=(splice cs.toList (i*aC C+j) v.cells.toList)[m]?:=by
                rw[show Z[m]?=Z.toList[m]? by simp,nH];rfl
               rw[e2,wW _ _ _ (by simpa using lX),lu,QW];simp
              have FD:Z.size=cs.size:=by
               rw[<- lu,nH];have:=tP cs.toList (i*aC C+j) v.cells.toList (by simpa using lX);simp only[splice]at this;simp_all
              have QT:b<w.heap.size:=(ic.1 hh).1;have hz:w.heap.size <= (w.setCells b (i*aC C+j) v.cells.toList).heap.size:=Nat.le_of_eq T.size.symm;have QX:∀E,E<w.heap.size -> az E≠some [rr] -> (w.setCells b (i*aC C+j) v.cells.toList).heap[E]?=w.heap[E]?:=λE _ cm=>T.block E (by rintro rfl;exact cm KP)
              have FJ:w.there b (i*aC C+j) v.cells.size:=by
               intro m sj;refine⟨?_,frozen_of_row w b _ cs _ hh⟩;rw[cell_of_row w b _ cs _ _ hh];simp;omega
              have jK:vs.length=n:=by rw[Bh,hlen]
              refine⟨_,az,Pd w b _ t v FJ (by rw[QW];exact hn) lF,dm.uh (ns:=[rr]) (cn:=[]) (eW:=ρ) (dx:=az) ⟨hz,λE xh U=>⟨T.block E ?_,rfl⟩,λ_ _=>rfl,λE k U=>(dm.cN E k U).2⟩
               ⟨T.os,T.tape,T.output,hz,λk U hL=>T.block k ?_⟩ (λE k U=>?_) (λr hr=>by cases hr) (λr0 x D=>?_)⟩
              ·rintro rfl;have:=U _ KP;simp[fI,cP]at this
              ·rintro rfl;rcases(dm.cN k _ KP).1 with h1 | h1
               ·exact absurd U (Nat.not_lt.2 h1)
               ·exact h1 hL
              ·have:=dm.cN E k U;exact⟨this.1,Nat.lt_of_lt_of_le this.2.1 hz,this.2.2⟩
              ·have iu:r0=rr/\x = .sl (.sl C (o'+2) qn (l.set i e)):=by
                simp only[List.lookup]at D;split at D
                next xh=>injection D with D;exact⟨by simpa using xh,D.symm⟩
                ·cases D
               obtain⟨rfl,rfl⟩:=iu;refine .sl _ _ bX ?_
               refine RV.J0 (u:=us) (us:=λ_ m=>v.cells.getD (m-j) undef) (cs:=cs) (xs:=vs) KP gB (FD.trans hs) tV hm hi (by rw[jK];exact hj) he (λO h' j' x Y J1=>?_) (λm x Y=>?_)
               ·have r6:j'<aC C:=by have:=(dI.1 Y).1;rwa [kf]at this
                refine⟨?_,(hr O h' j' x Y).under (n:=r0) (.inl (by simp)) hz QX (λ_ _=>rfl)⟩
                rw[tU];have yT:¬ (¬ O*aC C+j'<i*aC C+j/\O*aC C+j'<i*aC C+j+n):=by
                 rintro⟨h1,h2⟩;rcases Nat.lt_trichotomy O i with de|heq|Dj
                 ·have:(O+1)*aC C <= i*aC C:=jF _ de;rw[Nat.succ_mul]at this;omega
                 ·subst heq;exact J1 ⟨rfl,by omega,by omega⟩
                 ·have:(i+1)*aC C <= O*aC C:=jF _ Dj;rw[Nat.succ_mul]at this;omega
                split
                ·exact hc O h' j' x Y
                ·rw[aX];exact hc O h' j' x Y
               ·obtain⟨v0,xj,tW⟩:=KO m x Y;have sj:m<n:=by rw[<- jK];exact(dI.1 Y).1
                have Kd:v.cells[m]?=some v0:=by simpa using xj
                have yU:v.cells.getD (j+m-j) undef=v0:=by rw[show j+m-j=m by omega,gT,Kd];rfl
                show Z[_]?=some (v.cells.getD (j+m-j) undef)/\RV _ _ _ _ _ (v.cells.getD (j+m-j) undef);rw[yU,tU,aX,aW];rw[fe]at tW
                refine⟨?_,tW.under (n:=r0) (.inl (by simp)) hz QX (λ_ _=>rfl)⟩
                rw[show i*aC C+(j+m)-(i*aC C+j)=m by omega];exact Kd
           ·cases I
          ·cases I
         ·cases h
        ·cases h
       ·cases h
      ·cases h
     ·cases h
    ·cases h
  ·cases h
 ·cases h
def aiu{t:TypeId}{x y:A}:cq λX k=>uq (X:=X) P σ t x y k:=λX Y k g=>by
 unfold uq
 repeat' first|rfl|refine cW ?_ ?_|split
end
def KQ(P:Program)(f:Nat)(F:aa Int->ah Int):Prop:=
 ∀ (w:World) (l:aa (T .u8)) (h:Int) (v:Value),F l=some h->RV w w.heap.size (λ_=>none) [] (.sl .u8 0 false l) v->Hd w (λ_=>none)->Calls P f #[v] w λe w'=>
  ∃b off cells t,e = .returned (.pointer (some ⟨b,off,none⟩))/\Below w.heap.size w w'/\w.heap.size<=b/\w'.heap[b]?=some (.cells cells t (0,0))/\cells[off]?=some v/\cells[off+1]?=some (.int .i64 0)/\cells[off+2]?=some (.int .i64 h)
def Gw{X:Type}(N:Nat)(σ:S)(d:Nat)(F:aa Int->ah Int)(x:A)(k:S->ah X):ah X:=
 match x with
 | .lf (.v (.sl .u8 0 q l))=>bif Nat.blt d N then (match F l with
  |some h=>k (((σ.drop (1000000000100000+1000*d)).root (1000000000100000+1000*d) (.aA [.v (.sl .u8 0 q l),.v (.int .i64 0),.v (.int .i64 h)])).set d (.aJ (1000000000100000+1000*d) 0))
  |none=>none)else none
 |_=>none
structure BJ where
 a:Nat
 j:Nat
 t:TC
 run:List Pt->Option (Nat×Nat)
def ur(bA:Array Value)(a j:Nat):ah Value:=match bA[a]? with
 |some (.agg us)=>us[j]?
 |some u=>bif Nat.beq j 0 then some u else none
 |none=>none
def KR(P:Program)(f:Nat)(c:BJ):Prop:=
 ∀ (args:aa Pt) (p:Nat×Nat),c.run args=some p->∀ (w:World) (bA:Array Value),oJ w args bA->Hd w (λ_=>none)->Calls P f bA w λe w'=>
  ∃A n cap,ur bA c.a c.j=some (.slice A n cap)/\p.1<=p.2/\p.2<=n/\e = .returned (sliced A p.1 p.2 cap (aC c.t))/\Below w.heap.size w w'
def X6(σ:S)(args:aa Operand)(a j:Nat):ah Lf:=match args[a]? with
 | some x=>(match aG σ x with
  |.agg cs=>cs[j]?
  |.lf l=>bif Nat.beq j 0 then some l else none
  |_=>none)
 |none=>none
def Gx{X:Type}(N:Nat)(σ:S)(d:Nat)(c:BJ)(args:aa Operand)(k:S->ah X):ah X:=
 bif Nat.blt d N then su σ args λps=>(match c.run ps with
  | some p=>(match X6 σ args c.a c.j with
   |some (.v (.sl t g _ l))=>if t=c.t then (bif Nat.blt g 2&&Nat.ble p.1 p.2&&Nat.ble p.2 l.length then k (σ.set d (.lf (.v (.sl t g false ((l.take p.2).drop p.1)))))else none)else none
   |_=>none)
  |none=>none)else none
structure uv where
 run:(X:Type)->Nat->S->List A->(S->A->Option X)->Option X
def DP{α β:Type}(f:(X:Type)->(α->β->ah X)->ah X):Prop:=∀(X Y:Type) (k:α->β->ah X) (g:X->ah Y),(f X k).bind g=f Y λa b=>(k a b).bind g
def DP.lD{α β:Type}{f:(X:Type)->(α->β->ah X)->ah X}(n:DP f){X:Type}{k:α->β->ah X}{r:X}(h:f X k=some r):∃ a b,k a b=some r/\∀ (X:Type) (k:α->β->ah X),f X k=k a b:=by
 obtain⟨⟨a,b⟩,C,D⟩:=cq.lD (f:=λX (k:α×β->ah X)=>f X λa b=>k (a,b)) (λX Y k g=>n X Y _ g) (k:=λp=>k p.1 p.2) h;exact⟨a,b,C,λX k=>D X λp=>k p.1 p.2⟩
def qa(P:Program)(f:Nat)(c:uv):Prop:=(∀ N σ xs,DP λX k=>c.run X N σ xs k)/\
 ∀ [Inhabited Wd] (N:Nat) (σ:S) (xs:aa A) (C:S) (y:A),c.run (S×A) N σ xs (λσ y=>some (σ,y))=some (C,y)->
  ∀ (w0:Wd) (af:bh) (ρ:Nat->Loc) (a:Act) (w:World) (bA:Array Value),Rl w0 N af ρ σ a w->bA.size=xs.length->(∀ i,RA w w0.heap.size af ρ ((xs[i]?).getD .undef) (bA.getD i undef))->
   Calls P f bA w λe w'=>∃v az ρ',e = .returned v/\Rl w0 N az ρ' C a w'/\RA w' w0.heap.size az ρ' y v
inductive qb where
 |p (c:jf)
 |m (c:m9)
 |n (F:List Int->Option Int)
 |v (c:BJ)
 |i (c:uv)
 |d (c:m9)
 |q (c:jf)
 |c (c:m9)
def QY(P:Program)(f:Nat):qb->Prop
 |.p c=>iL P f c
 |.m c=>vD P f c
 |.n F=>KQ P f F
 |.v c=>KR P f c
 |.i c=>qa P f c
 |.d c=>vD P f c
 |.q c=>iL P f c
 |.c c=>vD P f c
section
variable {P:Program} {w w':World} {w0:Wd} {B N:Nat} {af dx az:bh} {ρ eW ρ':Nat->Loc} {σ:S} {a:Act} {X:Type} {d:Nat} {r:X} {ns cn:aa Nat} {o:Oper}
def X7:∀ (xs:aa Lf),cq λX k=>sB (X:=X) σ ns xs k
 |[]=>λ_ _ _ _=>rfl
 |x::xs=>λX Y k g=>cW ((DL.comp λy=>(X7 xs).comp (b:=λX k ys=>k (y.fZ::ys)) λ_ _ _ _ _=>rfl) X Y k g) rfl
def X8{x:A}:cq λX k=>q8 (X:=X) σ ns x k:=λX Y k g=>by
 unfold q8
 repeat' first|rfl|exact X7 _ _ _ _ _|refine cW ?_ ?_|split
def KS:∀ (ps:aa PK) (xs:aa Operand) (C:aa Mu),cq λX k=>jh (X:=X) σ ns ps xs C k:=λps=>by
 induction ps with
 |nil=>intro xs C X Y k g;cases xs<;>cases C<;>rfl
 | cons p ps D=>
  intro xs C X Y k g;cases xs with
  |nil=>cases p<;>cases C<;>rfl
  | cons x xs=>
   cases p with
   | v b t=>
    refine(X8 _ _ _ _).trans (bz _ (funext λp=>cW ?_ rfl))
    split
    ·exact D _ _ _ _ _ _
    ·rfl
   | p t E o=>
    cases C with
    |nil=>rfl
    | cons m C=>cases m with
     |sl=>rfl
     | aA=>
      simp only[jh];split
      ·exact D _ _ _ _ _ _
      ·rfl
   | s t E=>
    cases C with
    |nil=>rfl
    | cons m C=>cases m with
     |aA=>rfl
     | sl=>
      simp only[jh];split
      ·exact D _ _ _ _ _ _
      ·rfl
def aiv{C:ah Tmp}{D:fL}:cq λX k=>pX (X:=X) N σ C D k:=λX Y k g=>by
 unfold pX
 repeat' first|rfl|exact KJ _ _ _ _|refine cW ?_ ?_|split
def QZ{C:ah Tmp}{c:m9}{args:aa Operand}:cq λX k=>nO (X:=X) N σ C c args k:=λX Y k g=>by
 unfold nO;split
 ·refine cW ((KS _ _ _ _ _ _ _).trans (bz _ (funext λx=>?_))) rfl
  split
  ·exact cW (aiv _ _ _ _) rfl
  ·rfl
 ·rfl
def aiw{F:aa Int->ah Int}{x:A}:cq λX k=>Gw (X:=X) N σ d F x k:=λX Y k g=>by
 unfold Gw
 repeat' first|rfl|refine cW ?_ ?_|split
def aix{f:Nat}{x:Operand}{args:Array Operand}{Y:Array TypeId}{F:aa Int -> ah Int}{k:S -> ah X}(ho:o.op = .call { callee:=.value (.func f),args,argTypes:=Y })(hx:args.toList=[x])(hd:o.dst=some d)(he:enters P f)(hc:KQ P f F)(h:Gw N σ d F (aG σ x) k=some r):
  ∃Z,k Z=some r/\kP P w0 N o σ Z:=by
 unfold Gw at h;split at h
 ·rename_i q l hq;cases I:Nat.blt d N with
  |false=>rw[I]at h;cases h
  | true=>
   rw[I,aq]at h;have xy:d<N:=cu I;split at h
   ·rename_i hz hhz
    refine⟨_,h,λa w K Q D hK=>?_⟩
    obtain⟨af,ρ,D⟩:=D;have O:=D.aG x;rw[hq]at O;have xj:RV w w.heap.size (λ_=>none) [] (.sl .u8 0 false l) (a.eval x):=by
     have h0:RV w w.heap.size (λ_=>none) [] (.sl .u8 0 q l) (a.eval x):=O.2.fZ;cases q with
     |false=>exact h0
     |true=>exact h0.wk (.q _ _ _)
    unfold Oper.wp;rw[Kr w o a f args Y ho he,Oper.upon_enter];have xz:(args.map a.eval) = #[a.eval x]:=by apply Array.ext';rw[Array.toList_map,hx];rfl
    rw[xz]
    refine(hc w l _ _ hhz xj (w0.on D.below (λ_ _ h=>by cases h))).mono λe w' qX=>?_
    obtain⟨b,off,cells,t,rfl,T,hb,hh,q6,Q0,nH⟩:=qX;have hB:=D.below.size;have ir:b<w'.heap.size:=(ic.1 hh).1;have sH:Rl w0 N (bD af b (some [1000000000100000+1000*d])) ρ σ a w':=by
     refine D.grow T (λc U=>ck _ _ _ (by omega)) (λc k U E=>?_)
     by_cases e:c=b
     ·subst e;rw[bI]at E;injection E with E
      grind
     ·rw[ck _ _ _ e]at E;have:=(D.cN c k E).2.1;omega
    have m7:=sH.new (d:=1000000000100000+1000*d) (x:=.aA [.v (.sl .u8 0 q l),.v (.int .i64 0),.v (.int .i64 hz)]) (.aA b off) (by
     refine .aA b off cells t _ (λj=>(#[a.eval x,.int .i64 0,.int .i64 hz]:Array Value).getD j undef) (bI _ _ _) (bI _ _ _) hh (by
      have:=(ic.1 nH).1;simp;omega) (λj y C=>?_)
     have F5:dK w' w0.heap.size (bD af b (some [1000000000100000+1000*d])) (bD ρ (1000000000100000+1000*d) (.aA b off)) (.v (.sl .u8 0 q l)) (a.eval x):=by
      refine⟨rfl,O.2.iQ T.size (λc U=>⟨T.block c U,ck _ _ _ (by omega)⟩)⟩
     match j,C with
     |0,C=>simp at C;subst C;exact⟨q6,F5⟩
     |1,C=>simp at C;subst C;exact⟨Q0,rfl,.int _ _ _⟩
     |2,C=>simp at C;subst C;exact⟨nH,rfl,.int _ _ _⟩
     |j+3,C=>simp at C) (D.cF _ (.inr (by omega)))
    rw[hd];exact hK _ _ ⟨_,_,m7.set ⟨b,off,bI _ _ _,rfl⟩ xy⟩
   ·cases h
 ·cases h
def aiy{f:Nat}{args:Array Operand}{Z:Array TypeId}{c:BJ}{k:S -> ah X}(ho:o.op = .call { callee:=.value (.func f),args,argTypes:=Z })(hd:o.dst=some d)(he:enters P f)(hc:KR P f c)(h:Gx N σ d c args.toList k=some r):∃ cB,k cB=some r/\kP P w0 N o σ cB:=by
 unfold Gx at h;cases hN:Nat.blt d N with
 |false=>grind
 | true=>
  rw[hN,aq]at h;have xy:d<N:=by have:=cu hN;omega
  obtain⟨ps,O,lG⟩:=Xi (w0:=w0) (N:=N) _ _ h;split at O
  ·rename_i p hp;split at O
   ·rename_i t g q l D;split at O
    ·rename_i mZ;cases E:(Nat.blt g 2&&Nat.ble p.1 p.2&&Nat.ble p.2 l.length)with
     |false=>grind
     | true=>
      rw[E,aq]at O;rw[aK,aK]at E;have hg:g<2:=by have:=cu E.1.1;omega
      have qc:=cu E.1.2;have h2l:=cu E.2
      refine⟨_,O,λa w K Q T hK=>?_⟩
      obtain⟨af,ρ,T⟩:=T;unfold Oper.wp;rw[Kr w o a f args Z ho he,Oper.upon_enter];have xz:(args.map a.eval)=(args.toList.map a.eval).toArray:=by apply Array.ext';rw[Array.toList_map]
      rw[xz]
      refine(hc ps p hp w _ (lG af ρ a w T) (w0.on T.below (λ_ _ h=>by cases h))).mono λe w' qX=>?_
      obtain⟨A,n,cap,C,hle,hn,rfl,Y⟩:=qX;have jJ:RV w w0.heap.size af [] (.sl t g q l) (.slice A n cap):=by
       unfold X6 at D;split at D
       ·rename_i x hx;have Q1:((args.toList.map a.eval).toArray)[c.a]?=some (a.eval x):=by
         rw[List.getElem?_toArray,ef,hx];rfl
        unfold ur at C;rw[Q1]at C;have I:=T.aG x;split at D
        next cs fV=>rw[fV]at I;obtain⟨us,ki,Q2⟩:=I;rw[ki]at C;obtain⟨u,U,hr⟩:=Q2.2 _ _ D;simp only at C;rw[C]at U;injection U with U;subst U;exact hr.2
        ·rename_i lf xx;rw[xx]at I;cases hj:Nat.beq c.j 0 with
         |false=>grind
         | true=>
          rw[hj]at D C;injection D with D;subst D;have I:dK w w0.heap.size af ρ (.v (.sl t g q l)) (a.eval x):=I;have vL:∀ us,a.eval x ≠ .agg us:=by
           intro us e;rw[e]at I;cases I.2
          generalize a.eval x=z at C I vL;cases z<;>first|exact absurd rfl (vL _)|(simp only[aq,ig]at C;cases C;exact I.2)|(simp only[aq,ig]at C;cases C)
        ·cases D
       ·cases D
      obtain⟨Q3,xu,PL⟩:=jJ.part (a:=p.1) (h:=p.2) hg qc h2l;subst mZ;rw[hd];have dm:=T.grow Y (az:=af) (λ_ _=>rfl) (λb k E hk=>absurd (T.cN b k hk).2.1 (Nat.not_lt.2 E));refine hK _ _ ⟨af,ρ,dm.set ⟨by simp[V.aF,hg],?_⟩ xy⟩;exact Q3.iQ Y.size λb E=>⟨Y.block b E,rfl⟩
    ·cases O
   ·cases O
  ·cases O
def aiz{c:BJ}{args:aa Operand}:cq λX k=>Gx (X:=X) N σ d c args k:=λX Y k g=>by
 unfold Gx
 refine cW ((DO _ _ _ _).trans (bz _ (funext λps=>?_))) rfl
 repeat' first|rfl|refine cW ?_ ?_|split
/-! Calls of functions that are run in the state of their caller. -/
def Gy{X:Type}(N:Nat)(σ:S)(C:ah Tmp)(c:uv)(xs:aa A)(k:S->ah X):ah X:=c.run X N σ xs λD y=>gM N D C y k
def aiA(p:Nat×Nat):A:=.aJ p.1 p.2
def Gz(σ:S):aa Operand->ah (aa (Nat×Nat))
 |[]=>some []
 | x :: xs=>match aG σ x,Gz σ xs with
  |.aJ r j,some ps=>some ((r,j)::ps)
  |_,_=>none
def aiB(w:World)(o:Oper)(a:Act)(f:Nat)(cl:Operand)(C:Array Value)(args:Array Operand)(E:Array TypeId)(I:o.op = .call { callee:=.value cl,args,argTypes:=E })(O:a.eval cl = .func (.func f) #[] C)(T:enters P f):
  (execOp a.eval o).run P w = .ok (.enter f (args.map a.eval++C)) w:=by
 obtain⟨fn,U,Y,D⟩:=T;have Z:¬ fn.name = "runtime.NumGoroutine":=by simpa using Y
 have h3':¬ fn.body=none:=by intro e;rw[e]at D;cases D
 simp[execOp,I,resolve,O,Deferred.ofValue,invoke,callFunc,Sem.run,U,Z,h3']
def KT:A->ah (Nat×aa A)
 |.fn f cap=>some (f,cap.map aiA)
 |.mW f cs=>some (f,[.iR cs])
 |_=>none
def aiC{x:A}{f:Nat}{ex:aa A}{u:Value}(h:KT x=some (f,ex))(T:RA w B af ρ x u):∃ D:Array Value,u = .func (.func f) #[] D/\D.size=ex.length /\ ∀ (j:Nat) y,ex[j]?=some y -> RA w B af ρ y (D.getD j undef):=by
 unfold KT at h;split at h
 ·rename_i f' cap;injection h with h;injection h with E I;subst E I;obtain⟨D,U,Y,Z⟩:=T
  refine⟨D,U,by simp[Y],λj y C=>?_⟩
  rw[ef]at C;cases O:cap[j]? with
  |none=>simp_all
  | some p=>
   rw[O]at C;injection C with C;subst C;obtain⟨b,off,E,I⟩:=Z _ p O;rw[gT,I];exact⟨b,off,E,rfl⟩
 ·injection h with h;injection h with E I;subst E I;obtain⟨pv,e,O⟩:=T
  refine⟨#[pv],e,rfl,λj y C=>?_⟩
  rcases j with _|j
  ·injection C with C;subst C;exact O
  ·cases C
 ·cases h
def X9{f:Nat}{cl:Operand}{ex:aa A}{args:Array Operand}{iM:Array TypeId}{c:uv}{k:S->ah X}(ho:o.op = .call { callee:=.value cl,args,argTypes:=iM })(xm:KT (aG σ cl)=some (f,ex))(he:enters P f)(hc:qa P f c)
  (h:Gy N σ o.dst c (args.toList.map (aG σ)++ex) k=some r):∃cB,k cB=some r/\kP P w0 N o σ cB:=by
 unfold Gy at h
 haveI:Inhabited Wd:=⟨w0⟩
 obtain⟨p7,y,D,E⟩:=(hc.1 _ _ _).lD h;have Gb:=hc.2 _ _ _ _ _ (E _ _);have step:∀ a w K Q,R w0 N σ a w->(∀ v w' az ρ',Rl w0 N az ρ' p7 a w'->RA w' w0.heap.size az ρ' y v->K (a.put o.dst v) w')->o.wp P a w K Q:=by
  intro a w K Q C I;obtain⟨af,ρ,C⟩:=C;obtain⟨T,hv,hs,jK⟩:=aiC xm (C.aG cl);unfold Oper.wp;rw[aiB w o a f cl T args iM ho hv he,Oper.upon_enter]
  refine(Gb w0 af ρ a w _ C (by simp[hs]) λi=>?_).mono λe w' qX=>?_
  ·by_cases hi:i<args.size
   ·have e1:(args.toList.map (aG σ)++ex)[i]?=some (aG σ args[i]):=by
     rw[List.getElem?_append_left (by simpa using hi),ef,Array.getElem?_toList,Array.getElem?_eq_getElem hi];rfl
    have U:(args.map a.eval++T).getD i undef=a.eval args[i]:=by
     rw[gT,Array.getElem?_append_left (by simpa using hi)];simp[hi]
    rw[e1,U];exact C.aG _
   ·have e0:(args.toList.map (aG σ)++ex)[i]?=ex[i-args.size]?:=by
     rw[List.getElem?_append_right (by simp;omega)];simp
    rw[e0];cases hp:ex[i-args.size]? with
    |none=>trivial
    | some p=>
     have U:(args.map a.eval++T).getD i undef=T.getD (i-args.size) undef:=by
      rw[gT,Array.getElem?_append_right (by simp;omega),gT];simp
     rw[U];exact jK _ p hp
  ·obtain⟨v,az,ρ',rfl,O,Y⟩:=qX;exact I v w' az ρ' O Y
 unfold gM at D;split at D
 ·rename_i E
  refine⟨p7,D,λa w K Q C I=>step a w K Q C λv w' az ρ' O _=>?_⟩
  rw[E];exact I _ _ ⟨az,ρ',O⟩
 ·rename_i d E;cases Z:Nat.blt d N with
  |false=>rw[Z]at D;cases D
  | true=>
   rw[Z,aq]at D
   refine⟨_,D,λa w K Q C I=>step a w K Q C λv w' az ρ' O Y=>?_⟩
   rw[E];exact I _ _ ⟨az,ρ',O.set Y (by have:=cu Z;omega)⟩
def Ya:∀ (xs:aa Operand) (ps:aa (Nat×Nat)),Gz σ xs=some ps -> ps.length=xs.length /\ ∀ af ρ a w,Rl w0 N af ρ σ a w -> ∀ (j:Nat) p,ps[j]?=some p -> ∃ b off,ρ p.1 = .aA b off/\(xs.map a.eval)[j]?=some (.pointer (some ⟨b,off+p.2,none⟩))
 | [],ps,h=>by
  simp only[Gz,ig]at h;simp_all
 | x :: xs,ps,h=>by
  unfold Gz at h;split at h
  ·rename_i rr j I O T;injection h with h;subst h;obtain⟨U,Z⟩:=Ya xs I T
   refine⟨by simp[U],λaf ρ a w Y C p D=>?_⟩
   cases C with
   | zero=>
    simp at D;subst D;have E:=Y.aG x;rw[O]at E;obtain⟨b,off,e1,e2⟩:=E;simp_all
   |succ C =>grind
  ·cases h
end
def A.zK(q s n:Nat):A->A
 |.lf (.own [C])=>bif Nat.beq C q then .view [q] s 0 n else .lf (.own [C])
 |x=>x
def S.zK(σ:S)(p:Nat×Nat×Nat):S:=⟨λk=>(σ.t k).zK p.1 p.2.1 p.2.2,σ.m⟩
def Q4:aa (Nat×Nat×Nat)->S->S
 |[],σ=>σ
 |p::l,σ=>Q4 l (σ.zK p)
def Q5(c0 g:Nat):Mu->aa (Nat×Nat×Nat)
 |.sl q (.sl t _ _ l)=>bif Nat.ble 1000000 g&&Nat.blt q c0 then [(q,aC t,l.length)]else []
 |_=>[]
def GA(c0:Nat):aa PK->aa Mu->aa (Nat×Nat×Nat)
 |.v _ _::ps,C=>GA c0 ps C
 |.p _ _ _::ps,_::C=>GA c0 ps C
 |.s _ g::ps,D::C=>Q5 c0 g D++GA c0 ps C
 |_,_=>[]
def GB{X:Type}(N:Nat)(σ:S)(C:ah Tmp)(c:m9)(args:aa Operand)(k:S->ah X):ah X:=
 match jg σ c.ps args with
 |some D=>nO N σ C c args λE=>k (Q4 (GA (gW C) c.ps D) E)
 |none=>none
section
variable {P:Program} {w w':World} {w0:Wd} {B N:Nat} {af dx az:bh} {ρ eW ρ':Nat->Loc} {σ:S} {a:Act} {X:Type} {d:Nat} {r:X} {o:Oper}
def Rl.zK{p:Nat×Nat×Nat}{ad:ah Addr}{c:Nat}(h:Rl w0 N af ρ σ a w)(E:ρ p.1 = .dA (.slice ad p.2.2 c)):Rl w0 N af ρ (σ.zK p) a w:=by
 refine⟨h.below,h.cN,h.root,λk=>?_,h.size,h.defers,h.fix,h.cF⟩
 have C:=h.tmp k;show RA _ _ _ _ ((σ.t k).zK p.1 p.2.1 p.2.2) _;generalize σ.t k=x at C;unfold A.zK;split
 ·rename_i I;cases O:Nat.beq I p.1 with
  |false=>exact C
  | true=>
   obtain rfl:=cH O;have D:=C.2;simp only[cK,E]at D;injection D with D;refine⟨ad,p.2.2,c,by simp[cK,E],Nat.zero_le _,dH _,?_⟩;rw[<- D];cases ad<;>simp[sliced,Addr.add]
 ·exact C
def Yb:∀ (l:aa (Nat×Nat×Nat)) (σ:S),Rl w0 N af ρ σ a w->(∀ p∈l,∃ A c,ρ p.1 = .dA (.slice A p.2.2 c))->Rl w0 N af ρ (Q4 l σ) a w
 |[],σ,h,_=>h
 | p :: l,σ,h,D=>by
  obtain⟨A,c,C⟩:=D p (.head _);exact Yb l _ (h.zK C) λp C=>D p (.tail _ C)
def aiD{c0 g:Nat}{E:Mu}{p:Nat×Nat×Nat}(h:p∈Q5 c0 g E):∃ q t o C l,E = .sl q (.sl t o C l)/\p=(q,aC t,l.length)/\q<c0:=by
 unfold Q5 at h;split at h
 ·rename_i q t o C l;cases D:(Nat.ble 1000000 g&&Nat.blt q c0)with
  |false=>simp_all
  | true=>
   rw[D]at h;rw[aK]at D;exact⟨q,t,o,C,l,rfl,gL.1 h,cu D.2⟩
 ·cases h
def KU{c0:Nat}{p:Nat×Nat×Nat}:∀ (ps:aa PK) (C:aa Mu),p∈GA c0 ps C -> ∃ q t o D l,Mu.sl q (.sl t o D l)∈C/\p=(q,aC t,l.length)/\q<c0
 |.v _ _::ps,C,h=>KU ps C h
 |.p _ _ _::ps,O::C,h=>let ⟨q,t,o,D,l,I,E⟩:=KU ps C h;⟨q,t,o,D,l,.tail _ I,E⟩
 | .s _ g :: ps,O :: C,h=>by
  rcases lz.1 h with h|h
  ·obtain⟨q,t,o,D,l,rfl,E⟩:=aiD h;exact⟨q,t,o,D,l,.head _,E⟩
  ·obtain⟨q,t,o,D,l,I,E⟩:=KU ps C h;exact⟨q,t,o,D,l,.tail _ I,E⟩
def RV.aiE{q:aa Nat}{t:TC}{g:Nat}{C:Bool}{l:aa (T t)}{v:Value}(h:RV w B af q (.sl t g C l) v):∃ A c,v = .slice A l.length c:=by
 cases h<;>exact⟨_,_,rfl⟩
def aiF{f:Nat}{args:Array Operand}{Y:Array TypeId}{c:m9}{k:S->ah X}(Z:o.op = .call { callee:=.value (.func f),args,argTypes:=Y })(he:enters P f)(hc:vD P f c)(h:GB N σ o.dst c args.toList k=some r):∃ I,k I=some r/\kP P w0 N o σ I:=by
 unfold GB at h;split at h
 ·rename_i QA O;obtain⟨p7,sD,cn,h1,D,_,h4,h5⟩:=Qx (w0:=w0) Z he hc h;rw[O]at D;injection D with D;subst D
  refine⟨_,h1,λa w K Q E hK=>?_⟩
  obtain⟨af,ρ,E⟩:=E
  refine h5 a w K Q af ρ E λv w' dx eW sF dm hv _ bX=>hK _ _ ⟨dx,sF,Yb _ _ dm λp hp=>?_⟩
  obtain⟨q,t,oo,qn,l,T,rfl,hq⟩:=KU _ _ hp;have jx:=(Kv _ _ _ O _ T).1;have U:=E.root q _ jx;generalize C:aQ.sl _=z at U;cases U with
  |aA=>cases C
  |mp=>cases C
  |gh=>cases C
  | sl u y PW hr=>
   injection C with C;subst C;obtain⟨A,c,rfl⟩:=hr.aiE;exact⟨A,c,(bX q hq).trans ((hv.eV q (h4 _ T)).trans PW)⟩
 ·cases h
def aiG{C:ah Tmp}{c:m9}{args:aa Operand}:cq λX k=>GB (X:=X) N σ C c args k:=λX Y k g=>by
 unfold GB;split
 ·exact QZ _ _ _ _
 ·rfl
end
def bh.un(af:bh)(q:Nat):bh:=λb=>match af b with
 |some k=>bif cD q k then none else some k
 |none=>none
def GC{X:Type}(P:Program)(σ:S)(q s i j:Nat)(t:TypeId)(x:A)(k:S->ah X):ah X:=
 match σ.m q with
 |some (.sl (.sl tc (o+2) C l))=>bif Nat.beq s (aC tc)&&Nat.beq (full tc) 0 then pL P (σ.drop q) t (x.drop q) (.lf (.v (.sl tc 0 false ((l.take j).drop i)))) k else none
 |_=>none
section
variable {P:Program} {w w':World} {w0:Wd} {B N:Nat} {af az:bh} {ρ ρ':Nat->Loc} {σ:S} {a:Act} {X:Type} {d q:Nat} {r:X} {o:Oper} {y:V}
def aiH(C:∀ b,af b≠some []):Rel q af (af.un q):=
 ⟨C,λb h=>by simp[bh.un,h],λb k h D=>by simp[bh.un,h,D]⟩
def RV.ice{tc:TC}{g:Nat}{U:Bool}{l:aa (T tc)}{A:ah Addr}{n c:Nat}(D:RV w B af [q] (.sl tc (g+2) U l) (.slice A n c))(hf:full tc=0):RV w B (af.un q) [] (.sl tc 0 false l) (.slice A n c)/\n=l.length:=by
 cases D with
 |eo=>exact⟨.eo _ _ _,rfl⟩
 |fy=>grind
 |fH=>grind
 |aF _ _ _ _ _ _ _ _ _ ho=>omega
 | own=>
  rename_i b cs u Y I hc D hs Z hm;have O:∀ (i:Nat) (h:i<l.length) (j:Nat) (x:V),(enc tc 0 l[i])[j]?=some x -> (enc tc g l[i])[j]?=some x/\x.plain=true:=by
   intro i h j x C;obtain⟨y,E,rfl⟩:=wR tc g l[i] j x C;have hp:=JT tc g l[i] y (gy E);cases y with
   | sl t' o' q' l'=>
    have:=cu (show Nat.ble _ _=true from hp);omega
   | nil=>
    have:=O1 tc g l[i] _ (gy E);cases this
   |_=>exact⟨E,rfl⟩
  refine⟨.aF _ _ _ _ _ b 0 c u (by omega) (by simp[bh.un,Y,cD]) (ic.1 I).1 (by omega) Z (λi h j x C=>?_) (λi h j x C=>?_),rfl⟩
  ·rw[fe,cell_of_row w b _ cs _ _ I];simp_all
  ·exact(D i h j x (O i h j x C).1).tR (O i h j x C).2
def aiI{s i j:Nat}{t:TypeId}{x:A}{k:S -> ah X}(h:GC P σ q s i j t x k=some r):∃ I,k I=some r /\ ∀ af ρ a w,Rl w0 N af ρ σ a w -> ∀ u v,RA w w0.heap.size af ρ x u -> RA w w0.heap.size af ρ (.view [q] s i j) v ->
  ∃w' az,(Instr.storeAt t u v).run P w = .ok () w'/\Rl w0 N az ρ I a w':=by
 unfold GC at h;split at h
 ·rename_i tc g qn l hm;cases E:(Nat.beq s (aC tc)&&Nat.beq (full tc) 0)with
  |false=>rw[E]at h;cases h
  | true=>
   rw[E,aq]at h;rw[aK]at E;obtain rfl:=cH E.1;have hf:=cH E.2;obtain⟨I,h1,hs⟩:=WI (w0:=w0) (N:=N) h
   refine⟨I,h1,λaf ρ a w O u v hu hv=>?_⟩
   have U:Rel q af (af.un q):=aiH O.w8;have sH:=O.rel U (λb k C=>by
    unfold bh.un at C;cases T:af b with
    |none=>rw[T]at C;cases C
    | some Y=>
     rw[T]at C;simp only at C;cases Z:cD q Y with
     |true=>rw[Z]at C;cases C
     | false=>
      rw[Z]at C;injection C with C;subst C;exact⟨⟨_,rfl⟩,(O.cN b Y T).2.2⟩)
   obtain⟨A,n,c,jt,h3,h4,rfl⟩:=hv;have dY:=O.root q _ hm;generalize D:aQ.sl (.sl tc (g+2) qn l)=z at dY;cases dY with
   |aA=>cases D
   |mp=>cases D
   |gh=>cases D
   | sl vq y bX hr=>
    injection D with D;subst D;have hvq:vq = .slice A n c:=by
     simp only[cK,bX]at jt;injection jt
    subst hvq;obtain⟨h5,h6⟩:=hr.ice hf;have h7:=(h5.part (by omega) h3 (by omega)).1;obtain⟨w',cY,m7⟩:=hs _ _ _ _ sH u _ (hu.rel U) (show RA _ _ _ _ (.lf (.v _)) _ from ⟨rfl,h7⟩);exact⟨w',_,cY,m7⟩
 ·cases h
def aiJ{q s i j:Nat}{t:TypeId}{x:A}:cq λX k=>GC (X:=X) P σ q s i j t x k:=λX Y k g=>by
 unfold GC
 repeat' first|rfl|exact XW _ _ _ _|refine cW ?_ ?_|split
def DR{X:Type}(P:Program)(σ:S)(t:TypeId)(x lo hi C:A)(k:ah X):ah X:=
 match x,lo,hi,C with
 | .lf (.own q),.lf (.v (.int _ a)),.lf (.v (.int _ b)),.lf (.v (.int _ c))=>(match pq P t with
  | some e=>(match je P e with
   | some _=>iU σ.m q λy=>(match y with
    |.sl _ _ _ l=>if 0<=a/\a<=b/\b<=c/\c<=(l.length:Int)then k else none
    |_=>none)
   |none=>none)
  |none=>none)
 |_,_,_,_=>none
def aiK{t:TypeId}{x lo hi Z:A}{k:ah X}(h:DR P σ t x lo hi Z k=some r):k=some r /\
  ∀af ρ a w,Rl w0 N af ρ σ a w -> ∀u I O T,RA w w0.heap.size af ρ x u -> RA w w0.heap.size af ρ lo I -> RA w w0.heap.size af ρ hi O -> RA w w0.heap.size af ρ Z T -> ∃v,(Instr.sliceAt t u (some I) (some O) (some T)).run P w = .ok v w:=by
 unfold DR at h;split at h
 ·rename_i q kl a kh b km c;split at h
  ·rename_i e U;split at h
   ·rename_i n hn;obtain⟨y0,PN,C⟩:=r8 q _ h;split at C
    ·rename_i tc g qn xs;split at C
     ·rename_i Y
      refine⟨C,λaf ρ ac w hR u I O T hu hl hh hm=>?_⟩
      rw[hl.2.gC,hh.2.gC,hm.2.gC];have fW:P.underlying t=some (.slice e):=by
       unfold pq at U;split at U
       ·grind
       ·cases U
      have iq:P.elem t=e:=by simp[Program.elem,fW]
      have Yc:P.underlying t=some (.slice (P.elem t)):=by rw[iq];exact fW
      have hss:(sizeOf (P.elem t)).run P w = .ok n w:=by
       unfold je at hn;cases hi:P.info? e with
       |none=>grind
       | some i=>
        have:i.size=n:=by simpa [hi]using hn
        simp[sizeOf,typeInfo,iq,hi,this]
      obtain⟨v0,xj,iu⟩:=PN.ok hR.root;have fU:∃ D n c,u = .slice D n c:=by
       have:=hu.1;cases u<;>first|cases this;done|exact⟨_,_,_,rfl⟩
      obtain⟨D,n',c',rfl⟩:=fU;have E:=hu.2;rw[xj]at E;injection E with E;subst E;have hf:RV w 0 (λ_=>none) [] (.sl tc 0 qn xs) (.slice D n' c'):=iu.fZ;obtain⟨_,xu,PL⟩:=RV.part (w:=w) hf (a:=0) (h:=xs.length) (by omega) (by omega) (by omega);refine⟨sliced D a.toNat b.toNat c.toNat n,?_⟩;rw[run_sliceAt_slice w t _ _ _ _ Yc,run_slice_lhm w t D n' c' Yc kl kh km a b c Y.1 Y.2.1 Y.2.2.1 (by omega),hss];rfl
     ·cases C
    ·cases C
   ·cases h
  ·cases h
 ·cases h
end
section
variable {P:Program} (w:World)
end
section
variable {P:Program} {w w':World} {w0:Wd} {B N:Nat} {af az:bh} {ρ ρ':Nat->Loc} {σ:S} {a:Act} {X:Type} {d:Nat} {r:X}
end
def mc(l:aa (Int×Bool))(k:Int):Bool:=match l with
 |[]=>false
 |p::ps=>bif k==p.1 then p.2 else mc ps k
def ng(l:aa (Int×Bool))(k:Int)(v:Bool):aa (Int×Bool):=match l with
 |[]=>[(k,v)]
 |p::ps=>bif k==p.1 then (k,v)::ps else p::ng ps k v
def DS(P:Program)(t:TypeId):Bool:=match P.underlying t with
 | some (.map k e)=>(match P.underlying k with
  |some (.int .i64)=>true
  |_=>false)&&(match zeroOf P e with
  |some (.bool false)=>true
  |_=>false)
 |_=>false
def Q6{X:Type}(N:Nat)(σ:S)(d:Nat)(k:S->ah X):ah X:=gO N σ d (.mp []) (.pk d qR) k
def BM{X:Type}(P:Program)(σ:S)(t:TypeId)(x i:A)(k:A->ah X):ah X:=
 match x,i with
 | .pk r n,.lf (.v (.int .i64 key))=>bif Nat.beq n qR&&DS P t then (match σ.m r with
  |some (.mp l)=>k (.lf (.v (.bool (mc l key))))
  |_=>none)else none
 |_,_=>none
def BN{X:Type}(P:Program)(σ:S)(t:TypeId)(x i v:A)(k:S->ah X):ah X:=
 match x,i,v with
 | .pk r n,.lf (.v (.int .i64 key)),.lf (.v (.bool b))=>bif Nat.beq n qR&&DS P t then (match σ.m r with
  |some (.mp l)=>k ⟨σ.t,bD σ.m r (some (.mp (ng l key b)))⟩
  |_=>none)else none
 |_,_,_=>none
section
variable {P:Program} {w w':World} {w0:Wd} {B N:Nat} {af az:bh} {ρ ρ':Nat->Loc} {σ:S} {a:Act} {X:Type} {d:Nat} {r:X} {o:Oper}
def Yd{t:TypeId}(h:DS P t=true):∃ k e i,P.underlying t=some (.map k e)/\P.underlying k=some (.int .i64)/\P.info? e=some i/\i.zero=some (.bool false):=by
 unfold DS at h;split at h
 ·rename_i k e D;rw[aK]at h;obtain⟨E,I⟩:=h;have O:P.underlying k=some (.int .i64):=by
   grind
  have C:zeroOf P e=some (.bool false):=by
   grind
  unfold zeroOf at C;cases hi:P.info? e with
  |none=>simp_all
  |some i =>grind
 ·cases h
def Rl.newObj{E:Obj}{x:aQ}{ρ':Nat -> Loc}(h:Rl w0 N af ρ σ a w)(I:w0.F d=none)(O:∀ r,r≠d -> ρ' r=ρ r)
  (T:dS (w.alloc E) w0.heap.size (bD af w.heap.size (some [d])) ρ' d x):Rl w0 N (bD af w.heap.size (some [d])) ρ' ((σ.drop d).root d x) a (w.alloc E):=by
 refine h.yZ I (iS.WS w0 w _ h.below.size) ⟨by simp,λb D _=>Below.heap_alloc w _ b D,λb D=>ck _ _ _ (by omega),λb D=>(h.cN b [] D).2.2 rfl⟩ (λb k D C=>?_) O T
 by_cases e:b=w.heap.size
 ·subst e;rw[bI]at C;injection C with C;subst C;simp_all
 ·rw[ck _ _ _ e]at C;have:=(h.cN b k C).2.1;omega
def aiL{t:TypeId}{k:S -> ah X}(h:Q6 N σ d k=some r):∃ C,k C=some r /\ ∀ af ρ a w,Rl w0 N af ρ σ a w -> ∃ w' az ρ' v,(Instr.makeMap t none).run P w = .ok v w'/\Rl w0 N az ρ' C (a.put (some d) v) w':=by
 obtain⟨D,h⟩:=oC h
 refine⟨_,h,λaf ρ a w E=>?_⟩
 have I:(Instr.makeMap t none).run P w = .ok _ _:=rfl
 refine⟨_,bD af _ _,bD ρ d _,_,I,(E.newObj (E.cF d (.inl D)) (λr O=>ck _ _ _ O) ?_).set ⟨w.heap.size,bI _ _ _,(O4 _).symm⟩ D⟩
 exact .mp _ 0 #[] [] (bI _ _ _) (bI _ _ _) (heap_alloc_new w _) rfl
def aiM:cq λX k=>Q6 (X:=X) N σ d k:=KI
def aiN{t:TypeId}{x i:A}:cq λX k=>BM (X:=X) P σ t x i k:=λX Y k g=>by
 unfold BM
 repeat' first|rfl|refine cW ?_ ?_|split
def aiO{t:TypeId}{x i v:A}:cq λX k=>BN (X:=X) P σ t x i v k:=λX Y k g=>by
 unfold BN
 repeat' first|rfl|refine cW ?_ ?_|split
def BO(l:aa (Int×Bool)):aa (Value×Value):=l.map λp=>(.int .i64 p.1,.bool p.2)
def Q7:∀ (D:aa MapEntry) (l:aa (Int×Bool)) (k:Int) (n:Nat),D.map (λe=>(e.key,e.val))=BO l ->
  (Instr.findNow (.int .i64) (.int .i64 k) D n=some none/\mc l k=false /\ ∀v,ng l k v=l++[(k,v)]) \/
  (∃i b,Instr.findNow (.int .i64) (.int .i64 k) D n=some (some (n+i,.bool b))/\mc l k=b /\ ∃h:i<D.length,D[i].key = .int .i64 k /\ ∀v,BO (ng l k v)=(D.modify i λe=>{ e with key:=.int .i64 k,val:=.bool v }).map (λe=>(e.key,e.val)))
 |[],[],k,n,_=>.inl ⟨rfl,rfl,λv=>rfl⟩
 |[],_::_,k,n,h=>by cases h
 |_::_,[],k,n,h=>by cases h
 | e :: D,p :: l,k,n,h=>by
  have h:(e.key,e.val) :: D.map (λe=>(e.key,e.val))=(.int .i64 p.1,.bool p.2) :: BO l:=h;injection h with Z T;injection Z with U hv;have E:Instr.sameNow (.int .i64) (.int .i64 k) e.key=some (k==p.1):=by
   rw[U];simp[Instr.sameNow]
  cases C:(k==p.1)with
  | true=>
   have KV:k=p.1:=by simpa using C
   refine .inr ⟨0,p.2,?_,by simp only[mc,C,aq],by simp,by simp[U,KV],λv=>?_⟩
   ·simp only[Instr.findNow,E,C,hv];rfl
   ·simp only[ng,C];simp;show _::BO l=_;rw[T]
  | false=>
   rcases Q7 D l k (n+1) T with ⟨Y,I,O⟩|⟨i,b,Y,I,hi,O,a4⟩
   ·refine .inl ⟨?_,by simp[mc,C,av,I],λv=>by simp only[ng,C,O];rfl⟩
    simp[Instr.findNow,E,C];exact Y
   ·refine .inr ⟨i+1,b,?_,by simp only[mc,C,av,I],by simpa using hi,by simpa using O,λv=>?_⟩
    ·simp[Instr.findNow,E,C]
     grind
    ·simp only[ng,C];simp;show _ :: BO _=_
     grind
def KW{kt:TypeId}{k:Int}{C:aa MapEntry}{z:ah (Nat×Value)}(D:P.underlying kt=some (.int .i64))(h:Instr.findNow (.int .i64) (.int .i64 k) C 0=some z):(Instr.findKey kt (.int .i64 k) C).run P w = .ok z w:=by
 unfold Instr.findKey;simp only[fR,gF D,lU,h];rfl
def aiP{t:TypeId}{x i:A}{k:A -> ah X}(h:BM P σ t x i k=some r):∃ v,k v=some r/\lZ (λX k=>BM (X:=X) P σ t x i k) v /\ ∀ af ρ a w,Rl w0 N af ρ σ a w -> ∀ u z,RA w w0.heap.size af ρ x u -> RA w w0.heap.size af ρ i z ->
  ∃y,(Instr.lookup t u z false).run P w = .ok y w/\RA w w0.heap.size af ρ v y:=by
 unfold BM at h;split at h
 ·rename_i rr n key;cases D:(Nat.beq n qR&&DS P t)with
  |false=>grind
  | true=>
   rw[D,aq]at h;split at h
   ·rename_i l T
    refine⟨_,h,λX k=>by simp only[BM,D,aq,T],λaf ρ a w hR u z hu E=>?_⟩
    rw[aK]at D;obtain⟨kt,et,ti,ht,I,hi,BP⟩:=Yd D.2;have hn:=cH D.1;subst hn;obtain⟨b,bX,rfl⟩:=hu;have E:z = .int .i64 key:=by
     have h2:=E.2;cases h2;rfl
    subst E;have U:=hR.root rr _ T;generalize C:aQ.mp l=y at U;cases U with
    |aA=>cases C
    |sl=>cases C
    |gh=>cases C
    | mp b' c es l' Y hl hh KZ=>
     injection C with C;subst C;rw[bX]at Y;injection Y with e1 _;subst e1;refine⟨.bool (mc l key),?_,rfl,.bool _ _⟩;rw[O4];unfold Instr.lookup;simp only[fR,gF ht,lU,MapKept.run_getObj_map hh,Sem.run_pure];rw[MapKept.run_checkKey (k:=.int .i64 key) I rfl];simp only[lU];rcases Q7 es.toList l key 0 KZ with ⟨O,Z,_⟩|⟨i,v,O,Z,_⟩
     ·rw[KW I O];have Dt:(zeroValue et).run P w = .ok (.bool false) w:=by simp[zeroValue,typeInfo,hi,BP]
      simp_all
     ·rw[KW I O];simp only[ Z,fR];rfl
   ·cases h
 ·cases h
def aiQ{t:TypeId}{x i v:A}{k:S -> ah X}(h:BN P σ t x i v k=some r):∃ U,k U=some r/\lZ (λX k=>BN (X:=X) P σ t x i v k) U /\ ∀ af ρ a w,Rl w0 N af ρ σ a w -> ∀ u z y,RA w w0.heap.size af ρ x u -> RA w w0.heap.size af ρ i z -> RA w w0.heap.size af ρ v y ->
  ∃w',(Instr.mapUpdate t u z y).run P w = .ok () w'/\Rl w0 N af ρ U a w':=by
 unfold BN at h;split at h
 ·rename_i rr n key Y;cases I:(Nat.beq n qR&&DS P t)with
  |false=>grind
  | true=>
   rw[I,aq]at h;split at h
   ·rename_i l hm
    refine⟨_,h,λX k=>by simp only[BN,I,aq,hm],λaf ρ a w Z u z y hu hz C=>?_⟩
    rw[aK]at I;obtain⟨kt,et,ti,ht,Q8,hi,BP⟩:=Yd I.2;have hn:=cH I.1;subst hn;obtain⟨b,bX,rfl⟩:=hu;have hz:z = .int .i64 key:=by
     have h2:=hz.2;cases h2;rfl
    subst hz;have C:y = .bool Y:=by
     have h2:=C.2;cases h2;rfl
    subst C;have dY:=Z.root rr _ hm;generalize D:aQ.mp l=y at dY;cases dY with
    |aA=>cases D
    |sl=>cases D
    |gh=>cases D
    | mp b' c es l' iK hl T KZ=>
     injection D with D;subst D;rw[bX]at iK;injection iK with e1 _;subst e1;have QT:b<w.heap.size:=(ic.1 T).1;have BF:∀ (E:Array MapEntry) (O:Nat),E.toList.map (λe=>(e.key,e.val))=BO (ng l key Y) -> Rl w0 N af ρ ⟨σ.t,bD σ.m rr (some (.mp (ng l key Y)))⟩ a { w with heap:=w.heap.setIfInBounds b (.map E O) }:=by
      intro E O aiR;have hW:vl w { w with heap:=w.heap.setIfInBounds b (.map E O) } b:=by
       refine⟨by simp,rfl,rfl,rfl,λk hk=>?_⟩
       show _[k]?=_;rw[Array.getElem?_setIfInBounds_ne (Ne.symm hk)]
      have hC:qT w { w with heap:=w.heap.setIfInBounds b (.map E O) } af ρ:=by
       intro k ad v ha hv fU;obtain⟨j',i',s',q,rfl,hq,_,_,hh'⟩:=Be k ad ha;have cm:ad.block≠b:=by
        grind
       exact(World.cell?_of_block (hW.block _ cm)).trans hv
      refine Z.wrote hW hl hC λr' y C=>?_
      by_cases lY:r'=rr
      ·subst lY;rw[bI]at C;injection C with C;subst C;refine .mp b O E _ bX hl ?_ aiR;simp_all
      ·rw[ck _ _ _ lY]at C;exact(Z.root r' y C).wrote hW hl hC (Wz lY)
     rw[O4];unfold Instr.mapUpdate;simp only[fR,gF ht,lU,MapKept.run_getObj_map T,Sem.run_pure];rw[MapKept.run_checkKey (k:=.int .i64 key) Q8 rfl];simp only[lU];rcases Q7 es.toList l key 0 KZ with ⟨a1,a2,a3⟩|⟨i,v,a1,a2,vJ,a3,a4⟩
     ·rw[KW Q8 a1];simp;rw[MapKept.run_setObj_map _ T];refine⟨_,rfl,BF _ _ ?_⟩;rw[a3];simp only[Array.toList_push,List.map_append,KZ,BO];rfl
     ·rw[KW Q8 a1];simp only[lU,fe];have xd:(es[i]?.map (·.key)).getD (.int .i64 key) = .int .i64 key:=by
       grind
      rw[xd];have jL:(Instr.keyThatStays (.int .i64 key) (.int .i64 key)).run P w = .ok (.int .i64 key) w:=by
       unfold Instr.keyThatStays;simp[Instr.sameBits]
      simp only[fR];rw[jL];simp only[lU];rw[MapKept.run_setObj_map _ T];refine⟨_,rfl,BF _ _ ?_⟩;rw[a4];simp
   ·cases h
 ·cases h
end
def K0(t:TypeId)(d:Nat)(x:Operand):Bool:=[(59,26,22)].any λ(p:Nat×Nat×Nat)=>Nat.beq p.1 t&&Nat.beq p.2.1 d&&(match x with
 |.tmp n=>Nat.beq n p.2.2 ||Nat.beq p.2.2 1000000
 |_=>false)
def BQ(C:ah Tmp)(t:TypeId)(x:Operand):Bool:=match C with
 |some d=>K0 t d x
 |none=>false
def GD{X:Type}(P:Program)(N:Nat)(σ:S)(d:Nat)(t:TypeId)(x y:A)(k:S->ah X):ah X:=
 match vr P t with
 | some (e,tc)=>bif Nat.beq (full tc) 0&&(zeroOf P e).any (λz=>Nat.beq z.cells.size (aC tc))then r9 σ y λC=>(match C.J9 tc with
  |none=>none
  | some l2=>match x with
   | .lf (.own [r])=>(match σ.m r with
    |some (.sl (.sl D (o+2) true l))=>if h:D=tc then (bif !ju l2&&bV (l.length+l2.length)then gO N σ d (.sl (.sl tc (o+2) false ((h ▸ l)++l2))) (.lf (.own [d])) k else none)else none
    |_=>none)
   |_=>none)else none
 |none=>none
section
variable {P:Program} {w w':World} {w0:Wd} {B N:Nat} {af az:bh} {ρ ρ':Nat->Loc} {σ:S} {a:Act} {X:Type} {d:Nat} {r:X}
def Rl.aiS{t e ty:TypeId}{tc:TC}{i:TypeInfo}{z:Value}{rr o g:Nat}{qn:Bool}{l l2:aa (T tc)}{u v:Value}{q':aa Nat}{Bx:Nat}{Pw:bh}(h:Rl w0 N af ρ σ a w)(hF:w0.F d=none)(fW:P.underlying t=some (.slice e))(ht:tid tc=e)(hi:P.info? e=some i)(hz:i.zero=some z)
  (Z:i.size=aC tc) (jE:i.bytes <= 65536) (mM:z.cells.size=aC tc) (hf:full tc=0) (hd:RV w w0.heap.size af [rr] (.sl tc (o+2) true l) u) (hs:RV w Bx Pw q' (.sl tc g qn l2) v) (cm:l2≠[]) (hlen:l.length+l2.length<1073741824):
  ∃E w' az,(Builtin.append_ #[t,t] ty #[u,v]).run P w = .ok E w'/\Rl w0 N az (bD ρ d (.dA E)) ((σ.drop d).root d (.sl (.sl tc (o+2) false (l++l2)))) a w'/\lW E=true:=by
 subst ht;obtain⟨xs,I,Kj,FN,iq⟩:=hd.WV hf (B':=0) (λb _=>Nat.zero_le b);obtain⟨A,c,news,rfl,oF,lF,FO⟩:=hs.reads hf;have gB:(l.length+l2.length)*i.bytes <= 140737488355328:=by
  have h1:(l.length+l2.length)*i.bytes <= 1073741824*65536:=Nat.mul_le_mul (by omega) jE;omega
 have tY:0<l2.length:=List.length_pos_iff.2 cm;obtain⟨E,w',cY,Ye,Yf,ir⟩:=OP (P:=P) w 0 t ty (tid tc) i z (aC tc) i.bytes fW hi hz Z rfl mM (ot tc) u l.length xs I _ A l2.length c news oF lF (by unfold maxLen;omega) gB (Nat.zero_le _);have FP:(l++l2).length=l.length+l2.length:=List.length_append;have hex:∃ b,u = .slice (some ⟨b,0,none⟩) l.length l.length:=by
  cases hd with
  |aF _ _ _ _ _ _ _ _ _ ho=>omega
  |fH _ _ _ _ _ ho=>omega
  |own _ _ _ _ _ b cap cs us hl hh hs hn hm hc hr=>exact⟨b,by rw[hm.2 rfl]⟩
 obtain⟨b,rfl⟩:=hex;obtain⟨O,U,rfl,_,fV⟩:=oF.2 tY;have aiT:∀ j x,news[j]?=some x -> w.cell? ((⟨O,U,none⟩:Addr).add j)=some x:=by
  intro j x hx;have JQ:(⟨O,U,none⟩:Addr).add j=⟨O,U+j,none⟩:=by unfold Addr.add;split<;>simp_all
  grind
 have Yg:=run_append_grow (P:=P) w t ty (tid tc) i z fW hi hz ⟨b,0,none⟩ l.length l.length xs (by rw[Z];exact I.1) (I.cells (g:=b) rfl) ⟨O,U,none⟩ l2.length c news (by rw[Z];exact oF.1) aiT (by omega) (by omega) (growslice_fits (by omega) gB);rw[cY]at Yg;injection Yg with e1 e2;have hold:∀ k,k<w.heap.size -> w'.heap[k]?=w.heap[k]?:=by
  intro k D;rw[e2];exact heap_alloc_old _ _ D
 have hvb:E.ownBlock=some w.heap.size:=by rw[e1];rfl
 have de:w.heap.size<w'.heap.size:=by rw[e2];simp
 rw[<- FP]at Ye;have Bn:=iq.append FO I.1;have fU:lW E=true:=by rw[e1];rfl
 have Y:Below 0 w w':=(Below.refl 0 w).grown Yf (Nat.zero_le _) (λ_ _=>Nat.zero_le _);have ku:iS w0 w w':=⟨Y.os,Y.tape,Y.output,Y.size,λk D hL=>hold k (Nat.lt_of_lt_of_le D h.below.size)⟩
 refine⟨E,w',bD af w.heap.size (some [d]),cY,h.yZ hF ku ⟨Yf.size,λb C _=>hold b C,λb C=>ck _ _ _ (by omega),λb C=>(h.cN b [] C).2.2 rfl⟩ (λb k C D=>?_) (λr hr=>ck _ _ _ hr) (.sl E _ (bI _ _ _) (Pv Ye Bn (λb C=>?_))),fU⟩
 ·by_cases e:b=w.heap.size
  ·subst e;rw[bI]at D;injection D with D
   grind
  ·rw[ck _ _ _ e]at D;have:=(h.cN b k D).2.1;omega
 ·rw[hvb]at C;injection C with C;subst C;exact bI _ _ _
def aiU{t ty:TypeId}{x y:A}{k:S -> ah X}(h:GD P N σ d t x y k=some r):∃ Y,k Y=some r /\ ∀ af ρ a w,Rl w0 N af ρ σ a w -> ∀ u v,RA w w0.heap.size af ρ x u -> RA w w0.heap.size af ρ y v ->
  ∃w' az ρ' z,(Builtin.append_ #[t,t] ty #[u,v]).run P w = .ok z w'/\Rl w0 N az ρ' Y (a.put (some d) z) w':=by
 unfold GD at h;split at h
 ·rename_i e tc oD;obtain⟨fW,ht,i,hi,ia,jE⟩:=zc oD;cases E:(Nat.beq (full tc) 0&&(zeroOf P e).any (λz=>Nat.beq z.cells.size (aC tc)))with
  |false=>grind
  | true=>
   rw[E,aq]at h;rw[aK]at E;have hf:=cH E.1;obtain⟨z,Z,T⟩:=(Option.any_eq_true _ _).1 E.2;have T:=cH T;have oE:i.zero=some z:=by unfold zeroOf at Z;simpa [hi]using Z
   obtain⟨yv,Kc,C⟩:=WW (w0:=w0) (N:=N) h;clear h;split at C
   ·cases C
   ·rename_i l2 ko;split at C
    ·rename_i rr;split at C
     ·rename_i t' o l hm;split at C
      ·rename_i mZ;subst mZ;cases I:(!ju l2&&bV (l.length+l2.length))with
       |false=>grind
       | true=>
        rw[I,aq]at C;rw[aK]at I;have cm:l2≠[]:=by rintro rfl;cases I.1
        have FR:l.length+l2.length<1073741824:=by simpa [bV]using I.2
        obtain⟨hd,h3⟩:=oC C
        refine⟨_,h3,λaf ρ a w O u v hu hv=>?_⟩
        obtain⟨q',_,_,U⟩:=Kc af ρ a w O v hv;obtain⟨g,qn,U⟩:=Py ko U;have dY:=O.root rr _ hm;generalize D:aQ.sl (.sl t' (o+2) true l)=x at dY;cases dY with
        |aA=>cases D
        |mp=>cases D
        |gh=>cases D
        | sl uu y bX hr=>
         injection D with D;subst D;have FL:uu=u:=by
          have h4:=hu.2;simp only[cK,bX]at h4;simp_all
         subst FL;obtain⟨v',w',az,cY,dm,fU⟩:=O.aiS (ty:=ty) (d:=d) (O.cF d (.inl hd)) fW ht hi oE ia jE T hf hr U cm FR;exact⟨w',az,_,v',cY,dm.set ⟨fU,by simp[cK,bI]⟩ hd⟩
      ·cases C
     ·cases C
    ·cases C
 ·cases h
def aiV{t:TypeId}{x y:A}:cq λX k=>GD (X:=X) P N σ d t x y k:=λX Y k g=>by
 unfold GD;split
 ·refine cW ((QH _ _ _ _).trans (bz _ (funext λC=>?_))) rfl
  repeat' first|rfl|exact KI _ _ _ _|refine cW ?_ ?_|split
 ·rfl
def GF{X:Type}(P:Program)(N:Nat)(σ:S)(d:Nat)(t:TypeId)(x y:A)(k:S->ah X):ah X:=
 match x with
 |.view q s i j=>FT P N σ d t (.view q s i j) y k
 |x=>GD P N σ d t x y k
def aiW{t ty:TypeId}{x y:A}{k:S->ah X}(h:GF P N σ d t x y k=some r):∃ C,k C=some r/\∀ af ρ a w,Rl w0 N af ρ σ a w->∀ u v,RA w w0.heap.size af ρ x u->RA w w0.heap.size af ρ y v->
  ∃w' az ρ' z,(Builtin.append_ #[t,t] ty #[u,v]).run P w = .ok z w'/\Rl w0 N az ρ' C (a.put (some d) z) w':=by
 unfold GF at h;split at h
 ·exact agU h
 ·exact aiU h
def aiX{t:TypeId}{x y:A}:cq λX k=>GF (X:=X) P N σ d t x y k:=λX Y k g=>by
 unfold GF;split
 ·exact agV _ _ _ _
 ·exact aiV _ _ _ _
end
abbrev dX:=Nat->ah qb
def fC(P:Program)(Φ:dX):Prop:=∀f c,Φ f=some c->enters P f/\QY P f c
def gu{X:Type}(o:Oper)(k:Nat->ah X):ah X:=
 match o.dst with
 |some d=>k d
 |none=>none
def fD:Op->Bool
 |.move _|.assign _|.pick .. |.build .. |.load .. |.binOp .. |.unOp .. |.convert .. |.fieldAddr .. |.field .. |.indexAddr .. |.index .. |.extract .. |.nilCheck _=>true
 |.call ⟨.builtin .len,_,_⟩|.call ⟨.builtin .max,_,_⟩|.call ⟨.builtin .min,_,_⟩=>true
 |.slice _ _ _ _ none=>true
 |_=>false
def me{X:Type}(P:Program)(σ:S)(C:Op)(k:A->ah X):ah X:=
 match C with
 |.move x=>k (aG σ x)
 |.assign x=>k (aG σ x)
 | .pick c x y=>(match aG σ c with
  |.lf (.v (.bool b))=>bif b then k (aG σ x)else k (aG σ y)
  |_=>none)
 |.build t parts=>Dw P σ t parts.toList k
 |.load t x=>nI P σ t (aG σ x) k
 |.binOp C t x y _=>zm P σ C t (aG σ x) (aG σ y) k
 |.unOp C _ x=>vK (aG σ x) λa=>FF C a λz=>k (.lf (.v z))
 |.convert s d x=>zh P σ s d (aG σ x) k
 |.fieldAddr s x f=>Dn P s (aG σ x) f k
 |.field s x f=>F1 P s (aG σ x) f k
 |.indexAddr t x i=>yX P σ t (aG σ x) (aG σ i) k
 |.index t x i=>F2 P t (aG σ x) (aG σ i) k
 |.extract x i=>Bj (aG σ x) i k
 |.nilCheck x=>KN (aG σ x) k
 |.call ⟨.builtin .len,⟨[x]⟩,⟨[t]⟩⟩=>Bi P σ t (aG σ x) k
 |.call ⟨.builtin .max,⟨[x,y]⟩,⟨[_,_]⟩⟩=>Dy true (aG σ x) (aG σ y) k
 |.call ⟨.builtin .min,⟨[x,y]⟩,⟨[_,_]⟩⟩=>Dy false (aG σ x) (aG σ y) k
 |.slice t x lo hi none=>zn P σ t (aG σ x) (lo.map (aG σ)) (hi.map (aG σ)) k
 |_=>none
def gY{X:Type}(P:Program)(N:Nat)(Φ:dX)(σ:S)(o:Oper)(k:S->ah X):ah X:=
 match o.op with
 |.alloc e=>gu o λd=>qV P N σ d e k
 |.box e x=>gu o λd=>zJ N σ d (aG σ x) k
 |.buildSlice t len parts=>gu o λd=>bif p9 t then xO P N σ d t len parts.toList k else zg P N σ d t len parts.toList k
 | .store t x y=>(match o.dst with
  |none=>bif xP (aG σ x) (aG σ y)then uq P σ t (aG σ x) (aG σ y) k else pL P σ t (aG σ x) (aG σ y) k
  |some _=>none)
 |.makeSlice t l c=>gu o λd=>zb P N σ d t (aG σ l) (aG σ c) k
 | .call ⟨.value (.func f),args,_⟩=>(match Φ f with
  |some (.p c)=>gu o λd=>ahi N σ d c args.toList k
  |some (.m c)=>nO N σ o.dst c args.toList k
  |some (.v c)=>gu o λd=>Gx N σ d c args.toList k
  | some (.n F)=>gu o λd=>(match args.toList with
   |[x]=>Gw N σ d F (aG σ x) k
   |_=>none)
  |some (.i c)=>Gy N σ o.dst c (args.toList.map (aG σ)++[]) k
  |some (.d c)=>Gt N σ o.dst c args.toList k
  |some (.q c)=>gu o λd=>ahh N σ d c args.toList k
  |some (.c c)=>GB N σ o.dst c args.toList k
  |none=>none)
 |.call ⟨.builtin .append,⟨[x,y]⟩,⟨[t,C]⟩⟩=>bif Nat.beq t C then gu o λd=>bif p9 t then Gv P N σ d t (aG σ x) (aG σ y) k else bif K0 t d x then GF P N σ d t (aG σ x) (aG σ y) k else tX P N σ d t (aG σ x) (aG σ y) k else none
 |.makeMap _ none=>gu o λd=>Q6 N σ d k
 |.lookup t x i false=>BM P σ t (aG σ x) (aG σ i) λv=>gM N σ o.dst v k
 | .mapUpdate t x i v=>(match o.dst with
  |none=>BN P σ t (aG σ x) (aG σ i) (aG σ v) k
  |some _=>none)
 | .call ⟨.value (.tmp t),args,_⟩=>(match KT (aG σ (.tmp t))with
  | some (f,ex)=>(match Φ f with
   |some (.i c)=>Gy N σ o.dst c (args.toList.map (aG σ)++ex) k
   |_=>none)
  |none=>none)
 | .makeFunc (.func f) ⟨[]⟩ D=>(match Gz σ D.toList with
  |some ps=>gM N σ o.dst (.fn f ps) k
  |none=>none)
 |.call ⟨.builtin .clear,⟨[x]⟩,⟨[t]⟩⟩=>FU P σ t (aG σ x) λE=>gM N E o.dst .undef k
 |_=>none
def dy{X:Type}(P:Program)(N:Nat)(Φ:dX)(σ:S)(o:Oper)(k:S->ah X):ah X:=
 bif fD o.op then me P σ o.op λv=>gM N σ o.dst v k else gY P N Φ σ o k
def GG{X:Type}(P:Program)(N:Nat)(Φ:dX)(σ:S)(o:Oper)(k:S->ah X):ah X:=
 match o.op,o.dst with
 | .store t x y,none=>(match aG σ y with
  |.view [q] s i j=>GC P σ q s i j t (aG σ x) k
  |_=>dy P N Φ σ o k)
 |.slice t x (some lo) (some hi) (some C),some d=>DR P σ t (aG σ x) (aG σ lo) (aG σ hi) (aG σ C) (bif Nat.blt d N then k (σ.set d .undef)else none)
 |_,_=>dy P N Φ σ o k
def fJ(σ:S)(ops:Array Oper)(o:Oper):ah Bool:=
 match o.guard with
 |none=>some true
 | some (j,want)=>match (ops[j]?).bind (·.dst)with
  | some t=>(match σ.t t with
   |.lf (.v (.bool b))=>some (b==want)
   |.skip=>some false
   |_=>none)
  |none=>none
def GH(ops:Array Oper)(j:Nat):Bool:=ops.toList.any λo=>match o.guard with
 |some (i,_)=>Nat.beq i j
 |none=>false
def sI{X:Type}(σ:S)(C:ah Tmp)(g:Bool)(k:S->ah X):ah X:=
 bif g then (match C with
  | some d=>(match σ.t d with
   |.lf (.v (.bool b))=>bif b then k (σ.set d (.lf (.v (.bool true))))else k (σ.set d (.lf (.v (.bool false))))
   |_=>k σ)
  |none=>k σ)else k σ
def BR{X:Type}(P:Program)(N:Nat)(Φ:dX)(ops:Array Oper):Nat->aa Oper->S->(S->ah X)->ah X
 |_,[],σ,k=>k σ
 | j,o :: rest,σ,k=>match fJ σ ops o with
  |some true=>GG P N Φ σ o λC=>sI C o.dst (GH ops j) λD=>BR P N Φ ops (j+1) rest D k
  |some false=>gM N σ o.dst .skip λC=>BR P N Φ ops (j+1) rest C k
  |none=>none
/-! Regions whose order is open: what is listed is a set of bits. -/
def dn{X:Type}(P:Program)(N:Nat)(Φ:dX)(ops:Array Oper)(σ:S)(o:Oper)(k:S->ah X):ah X:=
 match fJ σ ops o with
 |some true=>dy P N Φ σ o k
 |some false=>gM N σ o.dst .skip k
 |none=>none
def lJ(ops:Array Oper)(L j:Nat):Bool:=!L.testBit j&&(match ops[j]? with
 |some o=>o.after.toList.all λe=>!Region.binds .any e ||L.testBit e.on
 |none=>false)
def GI(ops:Array Oper)(i W j:Nat):Bool:=(match ops[j]? with
 |some o=>o.after.toList.any λe=>Region.binds .any e&&(Nat.beq e.on i ||W.testBit e.on)
 |none=>false)
def waits(ops:Array Oper)(i:Nat):Nat->Nat->Nat->Nat
 |0,_,W=>W
 |n+1,j,W=>waits ops i n (j+1) (bif GI ops i W j then W |||2 ^ j else W)
def eM(o:Oper)(n:Nat):Bool:=match o.dst with
 | some d=>(match o.op with
  |.alloc _|.box .. |.buildSlice .. |.makeSlice ..=>Nat.beq n d
  |.call ⟨.value (.func _),_,_⟩=>Nat.ble (1000000000100000+1000*d) n
  |.call ⟨.builtin .append,_,_⟩=>Nat.beq n d
  |_=>false)
 |none=>false
def K1(Φ:dX)(C:Op):Bool:=fD C || (match C with
 |.alloc _|.box .. |.buildSlice .. |.makeSlice ..=>true
 | .call ⟨.value (.func f),_,_⟩=>(match Φ f with
  |some (.p _)=>true
  |some (.q _)=>true
  |_=>false)
 |_=>false)
def gP(g:Oper->Bool)(ops:Array Oper)(i L W:Nat):Nat->Nat->Bool
 |0,_=>false
 | f+1,j=>(!(Nat.beq j i || L.testBit j || W.testBit j)&&(match ops[j]? with
  |some C=>g C
  |none=>false)) ||gP g ops i L W f (j+1)
def GJ(g:Oper->Bool)(ops:Array Oper)(C:Oper)(i L W:Nat):Nat->Nat->Bool
 |0,_=>true
 | n+1,j=>(Nat.beq j i || L.testBit j || (bif W.testBit j then GI ops i W j else (match ops[j]? with
  |some D=>g D&&C.apart ops D
  |none=>true)))&&GJ g ops C i L W n (j+1)
def K2(c:m9):Bool:=c.ps.all λp=>match p with
 |.v _ _=>true
 |.p _ g _=>Nat.beq g 0
 |.s _ _=>false
def sJ(ok:Nat->Nat->Bool)(σ:S):aa PK->aa Operand->Bool
 | .p _ _ _ :: ps,.tmp t :: xs=>(match σ.t t with
  |.aJ r _=>ok t r
  |_=>false)&&sJ ok σ ps xs
 |.v _ _::ps,_::xs=>sJ ok σ ps xs
 |[],[]=>true
 |_,_=>false
def iy(σ:S):aa PK->aa Operand->aa Nat
 | .p _ _ _ :: ps,x :: xs=>(match aG σ x with
  |.aJ r _=>r::iy σ ps xs
  |_=>iy σ ps xs)
 |_::ps,_::xs=>iy σ ps xs
 |_,_=>[]
def oM(Φ:dX)(σ:S)(o:Oper):aa Nat:=match o.op with
 | .call ⟨.value (.func f),args,_⟩=>(match Φ f with
  |some (.m c)=>iy σ c.ps args.toList
  |_=>[])
 |_=>[]
def jP(t:Nat)(o:Oper):Bool:=match o.dst with
 |some d=>Nat.beq d t
 |none=>false
def vM(o:Oper):Bool:=(match o.op with
 |.alloc _=>true
 |_=>false)&&o.guard.isNone&&(match o.dst with
 |some d=>Nat.blt d 20000
 |none=>false)
def nQ(o:Oper):Bool:=(match o.op with
 |.alloc _=>true
 |.buildSlice t _ _=>!p9 t
 |.makeSlice ..=>true
 |_=>false)&&(match o.dst with
 |some d=>Nat.blt d 20000
 |none=>false)
def isApp(o:Oper):Bool:=match o.op with
 |.call ⟨.builtin .append,⟨[x,_]⟩,⟨[t,C]⟩⟩=>!p9 t&&Nat.beq t C && !BQ o.dst t x
 |_=>false
def Q9(Φ:dX)(ops:Array Oper)(i L W:Nat)(σ:S)(o:Oper):Bool:=match o.op with
 | .call ⟨.value (.func f),args,_⟩=>(match Φ f with
  |some (.m c)=>K2 c&&sJ (λt r=>!gP (jP t) ops i L W ops.size 0 && !gP (λok=>eM ok r) ops i L W ops.size 0 && !gP isApp ops i L W ops.size 0) σ c.ps args.toList
  |_=>false)
 |_=>false
def A.nR(p pb:Nat->Bool):A->Bool:=A.fr (uo p pb)
def zL(σ:S)(o:Oper):aa Nat:=match o.op with
 | .store _ (.tmp t) _=>(match σ.t t with
  |.aJ r _=>[r]
  |_=>[])
 | .call ⟨.builtin .append,⟨[.tmp t,_]⟩,⟨[_,_]⟩⟩=>(match σ.t t with
  |.lf (.own [r])=>[r]
  |_=>[])
 |_=>[]
def K3(σ:S)(o:Oper):aa Nat:=match o.op with
 | .call ⟨.builtin .append,⟨[.tmp t,_]⟩,⟨[_,_]⟩⟩=>(match σ.t t with
  |.lf (.own [r])=>[r]
  |_=>[])
 |_=>[]
def aiY(t:Nat)(o:Oper):Bool:=match o.op with
 |.store _ (.tmp C) _=>Nat.beq C t
 |_=>false
def faR(ops:Array Oper)(i L W:Nat)(σ:S)(o:Oper):aa Nat:=match o.op,o.dst with
 | .fieldAddr _ (.tmp x) _,some t=>bif gP (aiY t) ops i L W ops.size 0 then (match σ.t x with
  |.aJ r _=>[r]
  |_=>[])else []
 |_,_=>[]
def zM(Φ:dX)(ops:Array Oper)(i L W:Nat)(σ:S)(n:Nat):Bool:=
 gP (λo=>eM o n) ops i L W ops.size 0 ||gP (λo=>cP n (oM Φ σ o) ||cP n (zL σ o)) ops i L W ops.size 0
def zN(Φ:dX)(ops:Array Oper)(i L W:Nat)(σ:S)(n:Nat):Bool:=
 zM Φ ops i L W σ n ||gP (λo=>cP n (faR ops i L W σ o)) ops i L W ops.size 0
def BS(σ:S)(ops:Array Oper)(i L W n:Nat):Bool:=gP (λo=>eM o n) ops i L W ops.size 0 ||gP (λo=>cP n (K3 σ o)) ops i L W ops.size 0
def zO(Φ:dX)(o:Oper):Bool:=match o.op with
 | .call ⟨.value (.func f),_,_⟩=>(match Φ f with
  |some (.p _)=>true
  |_=>false)
 |_=>false
def mg(Φ:dX)(ops:Array Oper)(i L W t:Nat):Bool:=!gP (λok=>jP t ok && !(nQ ok ||isApp ok ||zO Φ ok)) ops i L W ops.size 0
def Ra(Φ:dX)(ops:Array Oper)(i L W:Nat)(o:Oper):Bool:=match o.op with
 |.call ⟨.builtin .append,⟨[.tmp t,_]⟩,⟨[ty,C]⟩⟩=>mg Φ ops i L W t&&(!p9 ty&&Nat.beq ty C && !BQ o.dst ty (.tmp t))
 |_=>false
def mh(Φ:dX)(ops:Array Oper)(i L W:Nat)(σ:S)(x:Nat):Bool:=!gP (jP x) ops i L W ops.size 0&&(match σ.t x with
 |.aJ r _=>zN Φ ops i L W σ r
 |.iR _=>true
 |_=>false)
def K4(Φ:dX)(ops:Array Oper)(i L W:Nat)(σ:S)(o:Oper):Bool:=match o.op with
 |.fieldAddr _ (.tmp x) _=>mh Φ ops i L W σ x
 |_=>false
def K5(Φ:dX)(ops:Array Oper)(i L W:Nat)(σ:S)(t:Nat):Bool:=!gP (λok=>jP t ok && !(vM ok ||K4 Φ ops i L W σ ok)) ops i L W ops.size 0
def FC(Φ:dX)(ops:Array Oper)(i L W:Nat)(σ:S)(o:Oper):Bool:=match o.op with
 | .store _ (.tmp t) _=>o.dst.isNone&&K5 Φ ops i L W σ t&&(match σ.t t with
  |.ptr _=>false
  |_=>true)
 |_=>false
def Rb(σ:S)(p:Nat->Bool)(o:Oper):Bool:=o.op.operands.toList.all λx=>(aG σ x).nr p
def Rc(σ:S)(p pb:Nat->Bool)(o:Oper):Bool:=(o.op.operands.toList.all λx=>(aG σ x).nR p pb)&&(match o.op with
 | .load _ x=>(match aG σ x with
  |.aJ r _=>!p r
  |_=>true)
 |_=>true)
def Yh(Φ:dX)(ops:Array Oper)(L:Nat)(σ:S)(i:Nat):Bool:=match ops[i]? with
 | some C=>(fD C.op || (match fJ σ ops C with
  |some b=>!b
  |none=>false))&&Nat.beq ((L |||2 ^ i) &&& waits ops i ops.size 0 0) 0&&GJ (λD=>K1 Φ D.op ||Q9 Φ ops i L (waits ops i ops.size 0 0) σ D ||FC Φ ops i L (waits ops i ops.size 0 0) σ D ||Ra Φ ops i L (waits ops i ops.size 0 0) D) ops C i L (waits ops i ops.size 0 0) ops.size 0&&Rc σ (zN Φ ops i L (waits ops i ops.size 0 0) σ) (BS σ ops i L (waits ops i ops.size 0 0)) C
 |none=>false
def GK{X:Type}(P:Program)(N:Nat)(Φ:dX)(ops:Array Oper)(L i:Nat)(σ:S)(o:Oper)(k:S->ah X):ah X:=
 match fJ σ ops o with
 |some true=>me P σ o.op λv=>bif v.nR (zN Φ ops i L (waits ops i ops.size 0 0) σ) (BS σ ops i L (waits ops i ops.size 0 0))then gM N σ o.dst v k else none
 |some false=>gM N σ o.dst .skip k
 |none=>none
/-! A call may be taken first where all that is free beside it are new blocks. -/
def A.fD:A->Bool
 |.lf (.v _)=>true
 | .agg cs=>cs.all λl=>match l with
  |.v _=>true
  |_=>false
 |_=>false
def Rd(ops:Array Oper)(i L W:Nat)(σ:S)(o:Oper):Bool:=nQ o&&(match fJ σ ops o with
 |some b=>b
 | none=>false)&&(o.op.operands.toList.all λx=>(aG σ x).fD&&(match x with
  |.tmp t=>!gP (jP t) ops i L W ops.size 0
  |_=>true))&&(match o.guard with
 | some (g,_)=>(match (ops[g]?).bind (·.dst)with
  |some t=>!gP (jP t) ops i L W ops.size 0
  |none=>true)
 |none=>true)
def nh(Φ:dX)(o:Oper):Bool:=match o.op with
 | .call ⟨.value (.func f),_,_⟩=>(match Φ f with
  |some (.p _)=>true
  |some (.m _)=>true
  |_=>false)
 |_=>false
def GL(o:Oper):Bool:=(match o.op with
 |.store _ (.tmp _) _=>true
 |_=>false)&&o.dst.isNone
def xQ(σ:S)(o:Oper):Bool:=match o.op with
 | .store _ (.tmp t) _=>(match σ.t t with
  |.aJ _ _=>true
  |_=>false)
 |_=>true
def GM(Φ:dX)(o:Oper):Bool:=nh Φ o ||nQ o ||isApp o ||GL o
def xR(σ:S)(p:Nat->Bool)(r:Nat):Bool:=match σ.m r with
 |some (.aA cs)=>cs.all (Lf.nr p)
 |_=>true
def DT(o:Oper)(n:Nat):Bool:=jP n o
def Yi(Φ:dX)(ops:Array Oper)(L:Nat)(σ:S)(i:Nat):Bool:=match ops[i]? with
 | some C=>GM Φ C&&Nat.beq ((L ||| 2 ^ i) &&& waits ops i ops.size 0 0) 0&&GJ (Rd ops i L (waits ops i ops.size 0 0) σ) ops C i L (waits ops i ops.size 0 0) ops.size 0 &&
   Rb σ (λn=>gP (λo=>DT o n) ops i L (waits ops i ops.size 0 0) ops.size 0) C&&(oM Φ σ C).all (xR σ (λn=>gP (λo=>DT o n) ops i L (waits ops i ops.size 0 0) ops.size 0))&&xQ σ C
 |none=>false
def q9(x:A)(n:Nat):ah V:=match x with
 | .eU xs=>(match xs[n]? with
  |some (false,[.v z])=>some z
  |_=>none)
 |_=>none
def Re(ops:Array Oper)(L:Nat)(σ:S)(i:Nat):Bool:=match ops[i]?,(List.range ops.size).filter (λj=>!(Nat.beq j i || L.testBit j))with
 | some C,[E]=>(match C.op,C.dst,C.guard,ops[E]? with
  | .extract (.tmp x) n,some _,none,some D=>(match D.op,D.dst,D.guard with
   |.store _ a b,none,none=>(q9 (σ.t x) n).isSome&&xP (aG σ a) (aG σ b)&&C.apart ops D
   |_,_,_=>false)
  |_,_,_,_=>false)
 |_,_=>false
def ri{X:Type}(P:Program)(N:Nat)(Φ:dX)(ops:Array Oper):Nat->Nat->S->(S->ah X)->ah X
 | 0,L,σ,k=>(match (List.range ops.size).filter (lJ ops L)with
  |[]=>k σ
  |_=>none)
 | f+1,L,σ,k=>(match (List.range ops.size).filter (lJ ops L)with
  |[]=>k σ
  | [i]=>(match ops[i]? with
   |some o=>dn P N Φ ops σ o λC=>sI C o.dst (GH ops i) λD=>ri P N Φ ops f (L |||2 ^ i) D k
   |none=>none)
  | rs=>(match rs.find? (Yh Φ ops L σ)with
   | some i=>(match ops[i]? with
    |some o=>GK P N Φ ops L i σ o λC=>sI C o.dst (GH ops i) λD=>ri P N Φ ops f (L |||2 ^ i) D k
    |none=>none)
   | none=>(match rs.find? (Yi Φ ops L σ)with
    | some i=>(match ops[i]? with
     |some o=>dn P N Φ ops σ o λC=>sI C o.dst (GH ops i) λD=>ri P N Φ ops f (L |||2 ^ i) D k
     |none=>none)
    | none=>(match rs.find? (Re ops L σ)with
     | some i=>(match ops[i]? with
      |some o=>dn P N Φ ops σ o λC=>sI C o.dst (GH ops i) λD=>ri P N Φ ops f (L |||2 ^ i) D k
      |none=>none)
     |none=>none))))
/-! A new slice of constants may come first,beside values and calls of contents. -/
structure sK where
 run:(X:Type)->S->(Exit->S->Option X)->Option X
abbrev mj:=Nat->ah sK
def kU{X:Type}(P:Program)(N:Nat)(Φ:dX)(Λ:mj):Code->S->(Exit->S->ah X)->ah X
 |.skip,σ,k=>k .normal σ
 |.label _,σ,k=>k .normal σ
 |.ret,σ,k=>k .ret σ
 |.exit id,σ,k=>k (.exit id) σ
 |.region _ ops false,σ,k=>BR P N Φ ops 0 ops.toList σ λC=>k .normal C
 |.region _ ops true,σ,k=>bif P.follows .mixedOrders then ri P N Φ ops ops.size 0 σ λC=>k .normal C else none
 | .seq x y,σ,k=>kU P N Φ Λ x σ λe C=>match e with
  |.normal=>kU P N Φ Λ y C k
  |e=>k e C
 | .cond c x y,σ,k=>match aG σ c with
  |.lf (.v (.bool b))=>bif b then kU P N Φ Λ x σ k else kU P N Φ Λ y σ k
  |_=>none
 | .block id c,σ,k=>match Λ id with
  |some b=>b.run X σ k
  | none=>kU P N Φ Λ c σ λe C=>match e with
   |.exit D=>if D=id then k .normal C else k (.exit D) C
   |e=>k e C
 |_,_,_=>none
def AW(P:Program)(w0:Wd)(N:Nat)(c:Code)(σ:S)(K:Exit->S->Prop):Prop:=
 ∀a w,R w0 N σ a w->c.wp P (λe D w'=>∃C,K e C/\R w0 N C D w') a w
def occs:Code->aa (Nat×Code)
 |.seq x y=>occs x++occs y
 |.cond _ x y=>occs x++occs y
 |.block id c=>(id,c)::occs c
 |_=>[]
def BU(P:Program)(N:Nat)(c:Code)(b:sK):Prop:=∀(X:Type) σ k (r:X) w0,b.run X σ k=some r->AW P w0 N c σ λe C=>k e C=some r
def oN(P:Program)(N:Nat)(Λ:mj)(l:aa (Nat×Code)):Prop:=∀p∈l,∀b,Λ p.1=some b->BU P N (.block p.1 p.2) b
section
variable {P:Program} {w w':World} {w0:Wd} {B N:Nat} {af az:bh} {ρ ρ':Nat->Loc} {σ:S} {a:Act} {X:Type} {d:Nat} {r:X} {o:Oper} {Φ:dX} {Λ:mj}
def kP.mem{D:S}(E:o.dst=some d)(h:∀ af ρ a w,Rl w0 N af ρ σ a w->∃ w' az ρ' v,(execOp a.eval o).run P w = .ok (.value v) w'/\Rl w0 N az ρ' D (a.put (some d) v) w'):kP P w0 N o σ D:=by
 intro a w K Q C I;obtain⟨af,ρ,C⟩:=C;obtain⟨w',az,ρ',v,O,T⟩:=h af ρ a w C;unfold Oper.wp;rw[O,Oper.upon_value,E];exact I _ _ ⟨az,ρ',T⟩
def jy{k:Nat -> ah X}(h:gu o k=some r):∃ d,o.dst=some d/\k d=some r:=by
 unfold gu at h
 grind
def ji{s:Sem Value}{v:Value}(h:s.run P w = .ok v w'):(do pure (.value (<-s)):Sem Next).run P w = .ok (.value v) w':=by
 rw[fR,h];rfl
def Yj{b:Go.Builtin}{x:Operand}{t:TypeId}{v:Value}(C:o.op = .call ⟨.builtin b,⟨[x]⟩,⟨[t]⟩⟩)(h:∀ cs,(builtin b #[t] o.type cs #[a.eval x]).run P w = .ok (.value v) w'):(execOp a.eval o).run P w = .ok (.value v) w':=by
 simp only[execOp,C,resolve,fR,Sem.run_pure,lU,invoke,List.map_toArray,List.map_cons,List.map_nil];exact h _
def Rf{b:Go.Builtin}{x y:Operand}{t C:TypeId}{v:Value}(D:o.op = .call ⟨.builtin b,⟨[x,y]⟩,⟨[t,C]⟩⟩)(h:∀ cs,(builtin b #[t,C] o.type cs #[a.eval x,a.eval y]).run P w = .ok (.value v) w'):(execOp a.eval o).run P w = .ok (.value v) w':=by
 simp only[execOp,D,resolve,fR,Sem.run_pure,lU,invoke,List.map_toArray,List.map_cons,List.map_nil];exact h _
def Rg{C:Op}:cq λX k=>me (X:=X) P σ C k:=λX Y k g=>by
 unfold me;split
 ·rfl
 ·rfl
 ·repeat' first|rfl|refine cW ?_ ?_|split
 ·exact ah8 _ _ _ _
 ·exact XQ _ _ _ _
 ·exact ah2 _ _ _ _
 ·exact(QI.comp λa=>ah3.comp (b:=λX k z=>k (.lf (.v z))) λz _ _ _ _=>rfl) X Y k g
 ·exact aib _ _ _ _
 ·exact ah4 _ _ _ _
 ·exact ah9 _ _ _ _
 ·exact ah5 _ _ _ _
 ·exact aia _ _ _ _
 ·exact ah7 _ _ _ _
 ·unfold KN;split<;>rfl
 ·exact ah6 _ _ _ _
 ·exact XR _ _ _ _
 ·exact XR _ _ _ _
 ·exact aic _ _ _ _
 ·rfl
def Rh{op:Op}{k:A->ah X}(h:me P σ op k=some r):∃ v,k v=some r/\lZ (λX k=>me (X:=X) P σ op k) v/\∀ af ρ a w (o:Oper),o.op=op->Rl w0 N af ρ σ a w->∃ u,(execOp a.eval o).run P w = .ok (.value u) w/\RA w w0.heap.size af ρ v u:=by
 obtain⟨z,U,hd⟩:=Rg.lD h
 refine⟨z,U,hd,λaf ρ a w o O C=>?_⟩
 replace h:me P σ op some=some z:=hd A some;clear hd U;unfold me at h;split at h
 ·cases h;exact⟨_,by simp[execOp,O],C.aG _⟩
 ·cases h;exact⟨_,by simp[execOp,O],C.aG _⟩
 ·rename_i c x y;split at h
  ·rename_i b T;have hc:=C.aG c;rw[T]at hc;have hv:=hc.2.yV;cases b with
   |true=>cases h;exact⟨a.eval x,by simp[execOp,O,hv,asBool],C.aG x⟩
   |false=>cases h;exact⟨a.eval y,by simp[execOp,O,hv,asBool],C.aG y⟩
  ·cases h
 next t parts=>obtain⟨_,⟨⟩,D⟩:=ag0 (w0:=w0) (N:=N) h;obtain⟨v,E,I⟩:=D af ρ a w C;exact⟨v,by simp only[execOp,O];exact ji E,I⟩
 next t x=>obtain⟨_,⟨⟩,D⟩:=WG (w0:=w0) (N:=N) h;obtain⟨v,E,I⟩:=D af ρ a w C _ (C.aG x);exact⟨v,by simp only[execOp,O];exact ji E,I⟩
 next op t x y yt=>obtain⟨_,⟨⟩,D⟩:=ahb (w0:=w0) (N:=N) h;obtain⟨v,E,I⟩:=D af ρ a w C x y _ _ (C.aG x) (C.aG y);exact⟨v,by simp only[execOp,O];exact ji E,I⟩
 next op t x=>obtain⟨u,hx,h⟩:=Pb h;obtain⟨_,⟨⟩,hp,D⟩:=agE (P:=P) h;have U:=C.aG x;rw[hx]at U;obtain⟨Y,E,hr⟩:=D w _ af [] _ U.2;exact⟨Y,by simp only[execOp,O];exact ji E,V.FG hp,hr⟩
 next s d' x=>obtain⟨_,⟨⟩,D⟩:=ag7 (w0:=w0) (N:=N) h;obtain⟨v,E,I⟩:=D af ρ a w C _ (C.aG x);exact⟨v,by simp only[execOp,O];exact ji E,I⟩
 next s x f=>obtain⟨_,⟨⟩,D⟩:=agI h;obtain⟨v,E,I⟩:=D w _ af ρ _ (C.aG x);exact⟨v,by simp only[execOp,O];exact ji E,I⟩
 next s x f=>obtain⟨_,⟨⟩,D⟩:=ag8 h;obtain⟨v,E,I⟩:=D w _ af ρ _ (C.aG x);exact⟨v,by simp only[execOp,O];exact ji E,I⟩
 next t x i=>obtain⟨_,⟨⟩,D⟩:=agJ (w0:=w0) (N:=N) h;obtain⟨v,E,I⟩:=D af ρ a w C _ _ (C.aG x) (C.aG i);exact⟨v,by simp only[execOp,O];exact ji E,I⟩
 next t x i=>obtain⟨_,⟨⟩,D⟩:=ag6 h;obtain⟨v,E,I⟩:=D w _ af ρ _ _ (C.aG x) (C.aG i);exact⟨v,by simp only[execOp,O];exact ji E,I⟩
 next x i=>obtain⟨_,⟨⟩,D⟩:=agL (P:=P) h;obtain⟨v,E,I⟩:=D w _ af ρ _ (C.aG x);exact⟨v,by simp only[execOp,O];exact ji E,I⟩
 next x=>obtain⟨h,D⟩:=aik (w:=w) (B:=w0.heap.size) (af:=af) (ρ:=ρ) h;cases h;obtain⟨ad,hu⟩:=D _ (C.aG x);refine⟨a.eval x,?_,C.aG x⟩;simp only[execOp,O,hu];rfl
 next x t=>obtain⟨_,⟨⟩,D⟩:=agK (w0:=w0) (N:=N) (ty:=o.type) h;obtain⟨v,E,I⟩:=D af ρ a w C _ (C.aG x);exact⟨v,Yj O λ_=>ji E,I⟩
 next x y t Y=>obtain⟨_,⟨⟩,D⟩:=W8 (P:=P) h;obtain⟨v,E,I⟩:=D w _ af ρ t o.type _ _ (C.aG x) (C.aG y);exact⟨v,Rf O λ_=>ji (s:=Builtin.max_ #[t,Y] o.type #[a.eval x,a.eval y]) E,I⟩
 next x y t Y=>obtain⟨_,⟨⟩,D⟩:=W8 (P:=P) h;obtain⟨v,E,I⟩:=D w _ af ρ t o.type _ _ (C.aG x) (C.aG y);exact⟨v,Rf O λ_=>ji (s:=Builtin.min_ #[t,Y] o.type #[a.eval x,a.eval y]) E,I⟩
 ·rename_i t x lo hi;obtain⟨_,⟨⟩,D⟩:=ahg (w0:=w0) (N:=N) h;have Z:∀ z:ah Operand,(∀ b,z.map (aG σ)=some b->∃ v,z.map a.eval=some v/\RA w w0.heap.size af ρ b v)/\(z.map (aG σ)=none->z.map a.eval=none):=by
   intro z;cases z with
   |none=>exact⟨λb T=>(by cases T),λ_=>rfl⟩
   |some z=>exact⟨λb T=>(by cases T;exact⟨_,rfl,C.aG z⟩),λT=>(by cases T)⟩
  obtain⟨v,E,hr⟩:=D af ρ a w C _ _ _ (C.aG x) (Z lo).1 (Z lo).2 (Z hi).1 (Z hi).2;exact⟨v,by simp only[execOp,O];exact ji E,hr⟩
 ·cases h
def kP.skip{D:S}(E:o.dst=none)(h:∀ af ρ a w,Rl w0 N af ρ σ a w->∃ w' az,(execOp a.eval o).run P w = .ok .skip w'/\Rl w0 N az ρ D a w'):kP P w0 N o σ D:=by
 intro a w K Q C I;obtain⟨af,ρ,C⟩:=C;obtain⟨w',az,O,T⟩:=h af ρ a w C;unfold Oper.wp;rw[O,Oper.upon_skip,E];exact I _ _ ⟨az,ρ,T⟩
def K6{s:Sem aj}(h:s.run P w = .ok () w'):(do s;pure .skip:Sem Next).run P w = .ok .skip w':=by
 rw[fR,h];rfl
def aiZ{k:S->ah X}(dL:fC P Φ)(h:gY P N Φ σ o k=some r):∃ T,k T=some r/\kP P w0 N o σ T:=by
 unfold gY at h;split at h
 ·rename_i e D;obtain⟨d,E,h⟩:=jy h;obtain⟨T,h,U⟩:=agR (w0:=w0) h
  refine⟨T,h,.mem E λaf ρ a w C=>?_⟩
  obtain⟨w',az,ρ',v,I,O⟩:=U af ρ a w C;exact⟨w',az,ρ',v,by simp only[execOp,D];exact ji I,O⟩
 ·rename_i e x D;obtain⟨d,E,h⟩:=jy h;obtain⟨T,h,U⟩:=aii (w0:=w0) (e:=e) h
  refine⟨T,h,.mem E λaf ρ a w C=>?_⟩
  obtain⟨w',az,ρ',v,I,O⟩:=U af ρ a w C _ (C.aG x);exact⟨w',az,ρ',v,by simp only[execOp,D];exact ji I,O⟩
 ·rename_i t len parts D;obtain⟨d,E,h⟩:=jy h;cases hn:p9 t with
  | true=>
   rw[hn,aq]at h;obtain⟨T,h,U⟩:=ail (w0:=w0) h
   refine⟨T,h,.mem E λaf ρ a w C=>?_⟩
   obtain⟨w',az,ρ',v,I,O⟩:=U af ρ a w C;exact⟨w',az,ρ',v,by simp only[execOp,D];exact ji I,O⟩
  | false=>
   rw[hn,av]at h;obtain⟨T,h,U⟩:=ag4 (w0:=w0) h
   refine⟨T,h,.mem E λaf ρ a w C=>?_⟩
   obtain⟨w',az,ρ',v,I,O⟩:=U af ρ a w C;exact⟨w',az,ρ',v,by simp only[execOp,D];exact ji I,O⟩
 ·rename_i t x y D;split at h
  ·rename_i E;cases hn:xP (aG σ x) (aG σ y)with
   | true=>
    rw[hn,aq]at h;obtain⟨T,h,U⟩:=ait (w0:=w0) (N:=N) h
    refine⟨T,h,.skip E λaf ρ a w C=>?_⟩
    obtain⟨w',az,I,O⟩:=U af ρ a w C _ _ (C.aG x) (C.aG y);exact⟨w',az,by simp only[execOp,D];exact K6 I,O⟩
   | false=>
    rw[hn,av]at h;obtain⟨T,h,U⟩:=WI (w0:=w0) (N:=N) h
    refine⟨T,h,.skip E λaf ρ a w C=>?_⟩
    obtain⟨w',I,O⟩:=U af ρ a w C _ _ (C.aG x) (C.aG y);exact⟨w',af,by simp only[execOp,D];exact K6 I,O⟩
  ·cases h
 ·rename_i t l c D;obtain⟨d,E,h⟩:=jy h;obtain⟨T,h,U⟩:=agS (w0:=w0) h
  refine⟨T,h,.mem E λaf ρ a w C=>?_⟩
  obtain⟨w',az,ρ',v,I,O⟩:=U af ρ a w C _ _ (C.aG l) (C.aG c);exact⟨w',az,ρ',v,by simp only[execOp,D];exact ji I,O⟩
 ·rename_i f args iM D;split at h
  next c Y=>obtain⟨d,E,h⟩:=jy h;obtain⟨Z,fk⟩:=dL f _ Y;exact Xk D E Z fk (Xi (w0:=w0) (N:=N) _) h
  next c Y=>obtain⟨Z,fk⟩:=dL f _ Y;exact ahI D Z fk h
  next c Y=>obtain⟨d,E,h⟩:=jy h;obtain⟨Z,fk⟩:=dL f _ Y;exact aiy D E Z fk h
  ·rename_i F Y;obtain⟨d,E,h⟩:=jy h;obtain⟨Z,fk⟩:=dL f _ Y;split at h
   next x hx=>exact aix D hx E Z fk h
   ·cases h
  next c Y=>obtain⟨Z,fk⟩:=dL f _ Y;exact X9 (ex:=[]) D rfl Z fk h
  next c Y=>obtain⟨Z,fk⟩:=dL f _ Y;exact ahO D Z fk h
  next c Y=>obtain⟨d,E,h⟩:=jy h;obtain⟨Z,fk⟩:=dL f _ Y;exact Xk D E Z fk (ahl (w0:=w0) (N:=N) _) h
  next c Y=>obtain⟨Z,fk⟩:=dL f _ Y;exact aiF D Z fk h
  ·cases h
 ·rename_i x y t t' D;cases mZ:Nat.beq t t' with
  |false=>rw[mZ]at h;cases h
  | true=>
   rw[mZ,aq]at h;obtain rfl:=cH mZ;obtain⟨d,E,h⟩:=jy h;have hh:∃ T,k T=some r/\∀ af ρ a w,Rl w0 N af ρ σ a w->∀ u v,RA w w0.heap.size af ρ (aG σ x) u->RA w w0.heap.size af ρ (aG σ y) v->
     ∃w' az ρ' z,(Builtin.append_ #[t,t] o.type #[u,v]).run P w = .ok z w'/\Rl w0 N az ρ' T (a.put (some d) z) w':=by
    cases hn:p9 t with
    |true=>rw[hn,aq]at h;exact air h
    | false=>
     rw[hn,av]at h;cases hk:K0 t d x with
     |true=>rw[hk,aq]at h;exact aiW h
     |false=>rw[hk,av]at h;exact agT h
   obtain⟨T,h,U⟩:=hh
   refine⟨T,h,.mem E λaf ρ a w C=>?_⟩
   obtain⟨w',az,ρ',v,I,O⟩:=U af ρ a w C _ _ (C.aG x) (C.aG y);exact⟨w',az,ρ',v,Rf D λ_=>ji I,O⟩
 ·rename_i t D;obtain⟨d,E,h⟩:=jy h;obtain⟨T,h,U⟩:=aiL (w0:=w0) (t:=t) (P:=P) h
  refine⟨T,h,.mem E λaf ρ a w C=>?_⟩
  obtain⟨w',az,ρ',v,I,O⟩:=U af ρ a w C;exact⟨w',az,ρ',v,by simp only[execOp,D];exact ji I,O⟩
 ·rename_i t x i D;obtain⟨v,h1,_,U⟩:=aiP (w0:=w0) (N:=N) h
  refine kP.val h1 λaf ρ a w C=>?_
  obtain⟨y,I,O⟩:=U af ρ a w C _ _ (C.aG x) (C.aG i);exact⟨y,by simp only[execOp,D];exact ji I,O⟩
 ·rename_i t x i v D;split at h
  ·rename_i E;obtain⟨T,h,_,U⟩:=aiQ (w0:=w0) (N:=N) h
   refine⟨T,h,.skip E λaf ρ a w C=>?_⟩
   obtain⟨w',I,O⟩:=U af ρ a w C _ _ _ (C.aG x) (C.aG i) (C.aG v);exact⟨w',af,by simp only[execOp,D];exact K6 I,O⟩
  ·cases h
 ·rename_i t args iM D;split at h
  ·rename_i f cap xm;split at h
   next c Y=>obtain⟨Z,fk⟩:=dL f _ Y;exact X9 D xm Z fk h
   ·cases h
  ·cases h
 ·rename_i f Yk D;split at h
  ·rename_i ps pU;obtain⟨h1,h2⟩:=Ya (w0:=w0) (N:=N) _ _ pU
   refine kP.val h λaf ρ a w C=>⟨.func (.func f) #[] (Yk.map a.eval),by simp[execOp,D,Instr.makeFunc],_,rfl,by simp[h1],λj p hp=>?_⟩
   obtain⟨b,off,e1,e2⟩:=h2 af ρ a w C j p hp;exact⟨b,off,e1,by simpa using e2⟩
  ·cases h
 ·rename_i x t D;obtain⟨p7,h1,U⟩:=agW (w0:=w0) (N:=N) (ty:=o.type) h;have run:∀ af ρ a w,Rl w0 N af ρ σ a w->∃ w',(execOp a.eval o).run P w = .ok (.value (.tuple #[])) w'/\Rl w0 N af ρ p7 a w':=by
   intro af ρ a w C;obtain⟨w',I,O⟩:=U af ρ a w C _ (C.aG x);exact⟨w',Yj D λ_=>ji I,O⟩
  unfold gM at h1;split at h1
  ·rename_i E
   refine⟨_,h1,λa w K Q C hK=>?_⟩
   obtain⟨af,ρ,C⟩:=C;obtain⟨w',I,O⟩:=run af ρ a w C;unfold Oper.wp;rw[I,Oper.upon_value,E];exact hK _ _ ⟨af,ρ,O⟩
  ·rename_i d E;cases hN:Nat.blt d N with
   |false=>rw[hN]at h1;cases h1
   | true=>
    rw[hN,aq]at h1
    refine⟨_,h1,.mem E λaf ρ a w C=>?_⟩
    obtain⟨w',I,O⟩:=run af ρ a w C;exact⟨w',af,ρ,_,I,O.set trivial (by have:=cu hN;omega)⟩
 ·cases h
def Ri{k:S -> ah X}(E:fC P Φ)(h:dy P N Φ σ o k=some r):∃ C,k C=some r/\kP P w0 N o σ C:=by
 unfold dy at h;cases D:fD o.op with
 | true=>
  rw[D,aq]at h;obtain⟨v,I,_,O⟩:=Rh h;exact kP.val I λaf ρ a w T=>O af ρ a w o rfl T
 | false=>
  rw[D]at h;exact aiZ E h
def ai0{k:S->ah X}(Z:fC P Φ)(h:GG P N Φ σ o k=some r):∃ E,k E=some r/\kP P w0 N o σ E:=by
 unfold GG at h;split at h
 ·rename_i t x y I O;split at h
  ·rename_i q s i j hy;obtain⟨E,D,T⟩:=aiI (w0:=w0) (N:=N) h
   refine⟨E,D,.skip O λaf ρ a w C=>?_⟩
   have hv:=C.aG y;rw[hy]at hv;obtain⟨w',az,U,dm⟩:=T af ρ a w C _ _ (C.aG x) hv;exact⟨w',az,by simp only[execOp,I];exact K6 U,dm⟩
  ·exact Ri Z h
 ·rename_i t x lo hi mx d I O;obtain⟨D,T⟩:=aiK (w0:=w0) (N:=N) h;cases Y:Nat.blt d N with
  |false=>rw[Y]at D;cases D
  | true=>
   rw[Y,aq]at D
   refine⟨_,D,.mem O λaf ρ a w C=>?_⟩
   obtain⟨v,U⟩:=T af ρ a w C _ _ _ _ (C.aG x) (C.aG lo) (C.aG hi) (C.aG mx);refine⟨w,af,ρ,v,?_,C.set trivial (by have:=cu Y;omega)⟩;simp only[execOp,I,Option.map_some];exact ji U
 ·exact Ri Z h
/-! What an operation gives hangs on its operands and on the roots that they name. -/
def A.key:A->ah (aa Nat)
 |.lf (.own q)=>some q
 |.view q _ _ _=>some q
 |.ptr (_::_::_::q)=>some q
 |_=>none
def Sm(σ2 σ:S)(x:A):Prop:=∀q,x.key=some q->∀(X:Type) (k:V->ah X),iU σ2.m q k=iU σ.m q k
def Sm.eq{σ2:S}(C:σ2.m=σ.m)(x:A):Sm σ2 σ x:=λq _ X k=>by rw[C]
def Sm.lf{σ2:S}{l:Lf}(h:Sm σ2 σ (.lf l))(k:V->ah X):oA σ2 l k=oA σ l k:=by
 cases l with
 |own q=>exact h q rfl X k
 |_=>rfl
def Sm.bin{σ2:S}{C:BinOp}{t:TypeId}{x y:A}(h:Sm σ2 σ x)(k:A->ah X):zm P σ2 C t x y k=zm P σ C t x y k:=by
 unfold zm;split
 ·rfl
 ·split
  ·exact h.lf _
  ·rfl
 ·rfl
def Sm.conv{σ2:S}{t C:TypeId}{x:A}(h:Sm σ2 σ x)(k:A->ah X):zh P σ2 t C x k=zh P σ t C x k:=by
 unfold zh;split
 ·rfl
 ·exact h.lf _
 ·rfl
def Sm.idx{σ2:S}{t:TypeId}{x i:A}(h:Sm σ2 σ x)(k:A->ah X):yX P σ2 t x i k=yX P σ t x i k:=by
 unfold yX;split
 ·rfl
 ·split
  ·split
   ·rfl
   ·exact h _ rfl _ _
   ·rfl
  ·rfl
def Sm.len{σ2:S}{t:TypeId}{x:A}(h:Sm σ2 σ x)(k:A->ah X):Bi P σ2 t x k=Bi P σ t x k:=by
 cases x with
 |lf l=>exact h.lf _
 |_=>rfl
def Sm.slc{σ2:S}{t:TypeId}{x:A}{lo hi:ah A}(h:Sm σ2 σ x)(k:A->ah X):zn P σ2 t x lo hi k=zn P σ t x lo hi k:=by
 unfold zn Bq;split
 ·simp only[h _ rfl]
 ·simp only[h _ rfl]
 ·rfl
def Sm.load{σ2:S}{t:TypeId}{x:A}(h:Sm σ2 σ x)(C:∀ r j,x = .aJ r j->σ2.m r=σ.m r)(k:A->ah X):nI P σ2 t x k=nI P σ t x k:=by
 unfold nI;split
 ·rfl
 ·split
  ·rw[C _ _ rfl]
  ·rfl
  ·exact h _ rfl _ _
  ·rfl
def Yl{σ2:S}(C:Op)(h:∀ x∈C.operands,aG σ2 x=aG σ x/\Sm σ2 σ (aG σ x))(I:∀ t x,C = .load t x->∀ k:A->ah X,nI P σ2 t (aG σ x) k=nI P σ t (aG σ x) k)(k:A->ah X):me P σ2 C k=me P σ C k:=by
 unfold me;split
 case h_4 t parts=>
  have e:(parts.toList.map λp=>(p.1,aG σ2 p.2))=parts.toList.map λp=>(p.1,aG σ p.2):=List.map_congr_left λp O=>by rw[(h p.2 (by simp only[Op.operands];exact List.mem_toArray.2 (List.mem_map_of_mem (f:=(·.2)) O))).1]
  simp only[Dw,e]
 case h_18 t x lo hi=>
  have e:∀ z:ah Operand,(∀ y,z=some y->aG σ2 y=aG σ y)->z.map (aG σ2)=z.map (aG σ):=by
   intro z T;cases z with
   |none=>rfl
   |some z=>exact bz some (T z rfl)
  have E:=h x (by simp[Op.operands]);rw[E.1,e lo (λy D=>(h y (by subst D;simp[Op.operands])).1),e hi (λy D=>(h y (by subst D;simp[Op.operands])).1)];exact E.2.slc k
 all_goals simp[Op.operands,Call.operands]at h
 case h_5=>rw[h.1];exact I _ _ rfl k
 case h_6=>rw[h.1.1,h.2.1];exact h.1.2.bin k
 case h_8=>rw[h.1];exact h.2.conv k
 case h_11=>rw[h.1.1,h.2.1];exact h.1.2.idx k
 case h_15=>rw[h.1];exact h.2.len k
 all_goals first|rfl|simp only[h]
def Ym{σ2:S}(C:Op)(D:σ2.m=σ.m)(h:∀ x∈C.operands,aG σ2 x=aG σ x)(k:A->ah X):me P σ2 C k=me P σ C k:=
 Yl C (λx E=>⟨h x E,.eq D _⟩) (λt x _ k=>(Sm.eq D _).load (λr _ _=>by rw[D]) k) k
def Yn{σ2:S}(C:σ2.m=σ.m)(q:aa Nat)(s i j:Nat)(k:V->ah X):vo σ2 q s i j k=vo σ q s i j k:=by
 simp only[vo,C]
def Rj{σ2:S}(C:σ2.m=σ.m)(x:Lf)(k:V->ah X):oA σ2 x k=oA σ x k:=(Sm.eq C _).lf k
def ai1{σ2:S}(C:σ2.m=σ.m)(x:A)(k:V->ah X):r9 σ2 x k=r9 σ x k:=by
 cases x<;>simp only[r9,Rj C,Yn C]
def Rk{σ2:S}(C:σ2.m=σ.m):∀ (xs:aa Lf) (k:aa V->ah X),qW σ2 xs k=qW σ xs k
 |[],k=>rfl
 | x :: xs,k=>by
  simp only[qW,Rj C,Rk C xs]
def Yo{σ2:S}(C:σ2.m=σ.m)(x:A)(k:Pt->ah X):nL σ2 x k=nL σ x k:=by
 unfold nL;simp only[Rk C,Yn C]
def Ro{σ2:S}{f:A->(Pt->ah X)->ah X}:∀ (xs:aa Operand) (k:aa Pt->ah X),(∀ x∈xs,aG σ2 x=aG σ x)->vA f σ2 xs k=vA f σ xs k
 |[],k,_=>rfl
 | x :: xs,k,h=>by
  simp only[vA,h x (.head _),Ro xs _ λy C=>h y (.tail _ C)]
def ai2{σ2:S}(C:σ2.m=σ.m)(xs:aa Operand)(k:aa Pt->ah X)(h:∀ x∈xs,aG σ2 x=aG σ x):su σ2 xs k=su σ xs k:=by
 unfold su;rw[show nL σ2=nL σ from funext λx=>funext λk=>Yo C x k,Ro xs k h]
def ai3{σ2:S}(C:σ2.m=σ.m)(x:A)(k:Pt->ah X):vz σ2 x k=vz σ x k:=by
 unfold vz;simp only[Yo C,Rk C,C]
def ai4{σ2:S}(C:σ2.m=σ.m)(xs:aa Operand)(k:aa Pt->ah X)(h:∀ x∈xs,aG σ2 x=aG σ x):Br σ2 xs k=Br σ xs k:=by
 unfold Br;rw[show vz σ2=vz σ from funext λx=>funext λk=>ai3 C x k,Ro xs k h]
/-! .. and a root that it does not name is of no account. -/
def GN(n:Nat)(x:aQ)(m:Nat->ah aQ):Nat->ah aQ:=bD (λr=>bif Nat.beq r n then none else (m r).map (aQ.drop n)) n (some x)
def Yp{n:Nat}{x:aQ}{m:Nat->ah aQ}{q:Nat}(h:q≠n):GN n x m q=(m q).map (aQ.drop n):=by
 unfold GN;rw[ck _ _ _ h,ow h];rfl
def K7{m m':Nat->ah aQ}{p:Nat->Bool}(D:∀ r,p r=false->∀ y,m' r=some (.sl y) ↔ m r=some (.sl y)):∀ (q:aa Nat) (k:V->ah X),nP p q=true->iU m' q k=iU m q k
 |[],_,_=>rfl
 | [r],k,h=>by
  have E:=D r (by simpa [nP,iJ]using h);simp only[iU];split
  next y C=>rw[(E y).1 C]
  ·rename_i I;split
   next y C=>exact absurd ((E y).2 C) (I y)
   ·rfl
 |[_,_],_,_=>rfl
 |[j,i,s],k,h=>rfl
 | j :: i :: s :: O :: q,k,h=>by
  simp only[iU];exact K7 D (O::q) _ (by simpa [nP,JX]using h)
def ai5{n:Nat}{q:aa Nat}(h:cD n q=false):nP (λr=>Nat.beq r n) q=true:=by
 unfold nP iJ;unfold cD at h;split
 next r C=>rw[C]at h;show (!Nat.beq r n)=true;rw[ow (show r≠n by simpa using h)];rfl
 ·rfl
def aQ.GO(n:Nat)(cs:aa Lf):(aQ.aA cs).drop n = .aA (cs.map (Lf.drop n)):=rfl
def ai6{n:Nat}(z:ah aQ)(y:V):z.map (aQ.drop n)=some (.sl y) ↔ z=some (.sl y):=by
 cases z with
 |none=>simp
 |some z=>cases z<;>simp[aQ.drop,aQ.cg]
def Yq{n:Nat}{x:aQ}{m:Nat->ah aQ}{r:Nat}(h:r≠n)(y:V):GN n x m r=some (.sl y) ↔ m r=some (.sl y):=by
 rw[Yp h];exact ai6 _ y
def GP{p:Nat->Bool}{r n:Nat}(h:p r=false)(C:p n=true):r≠n:=by
 rintro rfl;rw[C]at h;cases h
def ai7{n:Nat}{x:aQ}{m:Nat->ah aQ}(q:aa Nat)(k:V->ah X)(h:cD n q=false):iU (GN n x m) q k=iU m q k:=
 K7 (p:=λr=>Nat.beq r n) (λr C y=>Yq (GP (p:=λr=>Nat.beq r n) C (Nat.beq_refl n)) y) q k (ai5 h)
def ai8{p:Nat->Bool}{r j n:Nat}(h:(A.aJ r j).nr p=true)(C:p n=true):r≠n:=
 GP (by simpa [A.nr,A.fr,uo]using h) C
def Yr{p pb:Nat->Bool}{x:A}{q:aa Nat}(h:x.nR p pb=true)(e:x.key=some q):nP p q=true:=by
 unfold A.key at e;split at e
 ·injection e with e;subst e;exact h
 ·injection e with e;subst e;exact h
 ·rename_i j i s C;injection e with e;subst e;have h:nP p (j :: i :: s :: C)=true:=h;cases C with
  |nil=>rfl
  |cons D q=>simpa [nP,JX]using h
 ·cases e
def ai9{p pb:Nat->Bool}{t:TypeId}{cs:aa Lf}{y:A}(h:wZ P t cs some=some y)(C:y.nR p pb=true):∀ c∈cs,c.nr p=true:=by
 unfold wZ at h;split at h
 ·split at h
  ·split at h
   ·injection h with h;subst h;exact bS.1 C
   ·split at h
    ·injection h with h;subst h;intro c D;rw[gL.1 D];exact C
    ·cases h
   ·cases h
  ·cases h
 ·cases h
def A.xS:A->Bool
 |.aJ .. |.ptr _|.lf (.own _)=>true
 |_=>false
def A.Ys(x:A)(K:mX):x.cg K=x\/(x.cg K).xS=false:=by
 cases x with
 | lf l=>cases l with
  |own k=>cases h:K.l k<;>simp[A.cg,Lf.cg,h,A.xS]
  |_=>exact .inl rfl
 |ptr k=>cases h:K.p k<;>simp[A.cg,h,A.xS]
 |aJ r j=>cases h:K.r r<;>simp[A.cg,h,A.xS]
 |pk r j=>cases h:K.r r<;>simp[A.cg,h,A.xS]
 |view k s i j=>cases h:K.p k<;>simp[A.cg,h,A.xS]
 |fn f cap=>cases h:(cap.any λp=>K.r p.1)<;>simp[A.cg,h,A.xS]
 |_=>exact .inr rfl
structure gH (p pb:Nat->Bool) (σ cB:S):Prop where
 t:∀{g},(σ.t g).nR p pb=true->cB.t g=σ.t g
 sl:∀r,p r=false->∀y,cB.m r=some (.sl y) ↔ σ.m r=some (.sl y)
 aA:∀r,p r=false->∀cs,σ.m r=some (.aA cs)->∃f:Lf->Lf,cB.m r=some (.aA (cs.map f))/\∀l,l.nr p=true->f l=l
 nw:∀g,cB.t g=σ.t g\/(cB.t g).xS=false
def gH.refl{p pb:Nat->Bool}(σ:S):gH p pb σ σ:=
 ⟨λ_=>rfl,λ_ _ _=>.rfl,λ_ _ cs h=>⟨id,by rw[List.map_id];exact h,λ_ _=>rfl⟩,λ_=>.inl rfl⟩
def gH.trans{p pb:Nat->Bool}{σ E I:S}(h:gH p pb σ E)(D:gH p pb E I):gH p pb σ I:=by
 refine⟨λ{g} O=>?_,λr C y=>(D.sl r C y).trans (h.sl r C y),λr C cs U=>?_,λg=>?_⟩
 ·have e:=h.t O;rw[D.t (by rw[e];exact O),e]
 ·obtain⟨f,Y,Z⟩:=h.aA r C cs U;obtain⟨f',h3,h4⟩:=D.aA r C _ Y;exact⟨f' ∘ f,by rw[<-List.map_map];exact h3,λl T=>by show f' (f l)=l;rw[Z l T,h4 l T]⟩
 ·rcases D.nw g with e | e
  ·rw[e];exact h.nw g
  ·exact .inr e
def gH.root{p pb:Nat->Bool}{σ D:S}(n:Nat)(x:aQ)(C:p n=true)(I:pb n=true)(h:gH p pb σ D):gH p pb σ ((D.drop n).root n x):=by
 refine h.trans ⟨λO=>A.BG O C I,λr E y=>Yq (GP E C) y,λr E cs T=>⟨Lf.drop n,?_,λl U=>Lf.zI U C⟩,λg=>A.Ys _ _⟩
 show GN n x D.m r=_;rw[Yp (GP E C),T];rfl
def gH.rt{p pb:Nat->Bool}{σ D:S}(n:Nat)(x:aQ)(E:p n=true)(h:gH p pb σ D):gH p pb σ (D.root n x):=by
 have e:∀r,p r=false->(D.root n x).m r=D.m r:=λr C=>ck _ _ _ (GP C E)
 exact h.trans ⟨λ_=>rfl,λr C y=>by rw[e r C],λr C cs I=>⟨id,by rw[e r C,List.map_id];exact I,λ_ _=>rfl⟩,λ_=>.inl rfl⟩
/-! Roots that a call writes. -/
def Yt(ns:aa Nat)(nr:aa (Nat×aQ))(m:Nat->ah aQ):Nat->ah aQ:=λr=>match nr.lookup r with
 |some x=>some x
 |none=>bif cP r ns ||cP r []then none else (m r).map (aQ.c8 ns [])
structure Rp (p:Nat->Bool) (ns:List Nat) (nr:List (Nat×aQ)):Prop where
 ns:∀n,cP n ns=true->p n=true
 nr:∀n x,nr.lookup n=some x->p n=true
def aja{p:Nat->Bool}{ns:aa Nat}{nr:aa (Nat×aQ)}{m:Nat->ah aQ}(C:Rp p ns nr){q:Nat}(h:p q=false):Yt ns nr m q=(m q).map (aQ.c8 ns []):=by
 unfold Yt;cases D:nr.lookup q with
 |some x=>rw[C.nr q x D]at h;cases h
 | none=>
  cases E:cP q ns with
  |true=>rw[C.ns q E]at h;cases h
  |false=>rfl
def Rq(k:aa Nat):fI k []=false:=by
 unfold fI;split<;>rfl
def Rr{p:Nat->Bool}{ns:aa Nat}(C:∀ n,cP n ns=true->p n=true)(k:aa Nat)(h:fI k ns=true):iJ p k=true:=by
 unfold fI at h;unfold iJ;split at h
 next r D=>rw[D];exact C _ h
 ·cases h
def Lf.ajb{p:Nat->Bool}{x:Lf}{ns:aa Nat}(h:x.nr p=true)(D:∀ n,cP n ns=true->p n=true):x.c8 ns []=x:=
 Lf.ou (Lf.r4 (λk C=>Rr D k (by simp[vE,Rq]at C;exact C.1)) h)
def A.Rs{p pb:Nat->Bool}{x:A}{ns:aa Nat}(h:x.nR p pb=true)(D:∀ n,cP n ns=true->p n=true):x.c8 ns []=x:=
 A.ou (A.r4 (K:=vE ns []) (J:=uo p pb) (λk C=>Rr D k (by simp[vE,Rq]at C;exact C.1)) (λk C=>Rr D k (by simpa [vE,Rq]using C)) (λr E=>by cases E) h)
def gH.c8{p pb:Nat->Bool}{σ C:S}(ns:aa Nat)(nr:aa (Nat×aQ))(E:Rp p ns nr)(h:gH p pb σ C):gH p pb σ (C.c8 ns [] nr):=by
 have e:∀r,p r=false->(C.c8 ns [] nr).m r=(C.m r).map (aQ.c8 ns []):=λr D=>aja E D
 refine h.trans ⟨λI=>A.Rs I E.ns,λr D y=>?_,λr D cs O=>⟨Lf.c8 ns [],?_,λl T=>Lf.ajb T E.ns⟩,λg=>A.Ys _ _⟩
 ·rw[e r D];cases C.m r with
  |none=>simp
  |some z=>cases z<;>simp[aQ.c8,aQ.cg]
 ·rw[e r D,O];rfl
end
end Go.Proofs.YtgjfmljpdnnihaaGreat
