/-
  Running the program over pure contents, and that it follows (part 3). Nothing here is a claim.
-/
import Derived.Lib.AppendStr
import Derived.MapKept
import Derived.Test.YtnilicojgkhpnaaGreatV2
set_option linter.unusedSimpArgs false
namespace Go.Proofs.YtnilicojgkhpnaaGreat
set_option linter.defProp false
open Go.RowKit
set_option linter.unusedVariables false
def dT:Nat:=89999
def qM(aj:bM)(k:aa Nat):bM:=λb=>match aj b with
 |some q=>bif k.isSuffixOf q then some (q.take (q.length-k.length)++[dT])else bif dc dT q then none else some q
 |none=>none
def WW(σ:S)(c:oV)(args:aa Operand)(q:Nat):Bool:=match oh σ c.ps args with
 |some C=>!dS q ((oW 0 C).map (·.1))&&C.any λD=>Nat.beq D.root dT
 |none=>false
def Jv{X:Type}(N:Nat)(σ:S)(E:ah Tmp)(c:oV)(args:aa Operand)(k:S->ah X):ah X:=
 match args with
 | .tmp t :: _=>(match σ.t t with
  | .lf (.own [j,i,s,q])=>(match σ.m q with
   | some (.sl (.sl C (o+2) L l))=>if s=aE C then (if hi:i<l.length then (match (enc C o l[i])[j]? with
    | some y=>bif Nat.ble N 20000&&Nat.ble 20000 q&&Nat.blt q 60000&&WW ((σ.fE [q,dT] [dT] [(dT,.sl y)]).set t (.lf (.own [dT]))) c args q then td N ((σ.fE [q,dT] [dT] [(dT,.sl y)]).set t (.lf (.own [dT]))) E c args λD=>(match D.m dT with
      | some (.sl O)=>(match dec C o (splice (enc C o l[i]) j [O])with
       |some e=>k ((D.drop dT).root q (.sl (.sl C (o+2) L (l.set i e))))
       |none=>none)
      |_=>none)else none
    |none=>none)else none)else none
   |_=>none)
  |_=>none)
 |_=>none
section
variable {P:Program} {w w':World} {w0:Wd} {B N:Nat} {aj dX aD:bM} {ρ fD ρ':Nat->Loc} {σ:S} {a:Act} {X:Type} {d:Nat} {r:X} {o:Oper} {K:aa Nat} {m:Nat->ah bu}
def PR{b:Nat}(h:aj b=none):qM aj K b=none:=by simp[qM,h]
def aqd{b:Nat}{p:aa Nat}(h:aj b=some (p++K)):qM aj K b=some (p++[dT]):=by
 have C:K.isSuffixOf _=true:=List.isSuffixOf_iff_suffix.2 ⟨p,rfl⟩;simp[qM,h,C]
def WX{b:Nat}{k:aa Nat}(h:aj b=some k)(C:¬ K <:+ k)(D:dc dT k=false):qM aj K b=some k:=by
 have C:K.isSuffixOf k=false:=by
  grind
 simp[qM,h,C,D]
def RV.cut{k:aa Nat}{x:V}{v:Value}(h:RV w B aj k x v)(p:aa Nat)(D:k=p++K\/x.aF=true):RV w B (qM aj K) (p++[dT]) x v:=
 h.map (Q:=λk C=>∃ p,k=p++K/\C=p++[dT]) (dW _) (λb _ h=>⟨rfl,PR h⟩) (λb k C _ hl e=>by
  obtain⟨p,rfl,rfl⟩:=e;exact⟨rfl,aqd hl,λj i s=>⟨j::i::s::p,rfl,rfl⟩⟩) (D.symm.imp_right λh=>⟨p,h,rfl⟩)
def RV.aqe{k:aa Nat}{x:V}{v:Value}(h:RV w B aj k x v)(L:∀ b,aj b≠some [])(O:((∀ p,¬ K <:+ p++k)/\dc dT k=false)\/x.aF=true):RV w B (qM aj K) k x v:=
 h.map (Q:=λk C=>k=C/\(∀ p,¬ K <:+ p++k)/\dc dT k=false) (dW _) (λb _ h=>⟨rfl,PR h⟩) (λb k C _ hl e=>by
  obtain⟨rfl,D,E⟩:=e
  refine⟨rfl,WX hl (D []) E,λj i s=>⟨rfl,λp=>?_,?_⟩⟩
  ·have:=D (p++[j,i,s])
   rwa [List.append_assoc]at this
  ·rw[Pc (by rintro rfl;exact L b hl)];exact E) (O.symm.imp_right λh=>⟨rfl,h⟩)
def Rl.aqf{t:Nat}{x:A}(h:Rl w0 N aj ρ σ a w)(D:RA w w0.heap.size aj ρ x (a.tmps.getD t undef)):Rl w0 N aj ρ (σ.set t x) a w:=by
 refine⟨h.below,h.dD,h.root,λk=>?_,h.size,h.defers,h.fix,h.dN⟩
 show RA w _ aj ρ (ck σ.t t x k) _;by_cases C:k=t
 ·subst C;rw[cu];exact D
 ·rw[cU _ _ _ C];exact h.tmp k
def Rl.aqg{q:Nat}{x:bu}(h:Rl w0 N aj ρ σ a w)(E:eH w w0.heap.size aj ρ q x):Rl w0 N aj ρ (σ.root q x) a w:=by
 refine⟨h.below,h.dD,λr y C=>?_,h.tmp,h.size,h.defers,h.fix,h.dN⟩
 have C:ck σ.m q _ r=some y:=C;by_cases D:r=q
 ·subst D;rw[cu]at C;simp_all
 ·rw[cU _ _ _ D]at C;exact h.root r y C
def jz.aqh(h:Rl w0 N aj ρ σ a w):jz w0 w w:=⟨rfl,rfl,rfl,dW _,λ_ _ _=>rfl⟩
def aqi{f:Nat}{args:Array Operand}{oe:Array TypeId}{c:oV}{k:S -> ah X}(ho:o.op = .call { callee:=.value (.func f),args,argTypes:=oe })(he:enters P f)(hc:uy P f c)(h:Jv N σ o.dst c args.toList k=some r):∃ dz,k dz=some r/\mG P w0 N o σ dz:=by
 unfold Jv at h;split at h
 ·rename_i t rest mJ;split at h
  ·rename_i j i s q ht;split at h
   ·rename_i E oo qn l hm;split at h
    ·rename_i hs;subst hs;split at h
     ·rename_i hi;split at h
      ·rename_i y hy;generalize aqj:((σ.fE [q,dT] [dT] [(dT,.sl y)]).set t (.lf (.own [dT])))=qN at h;cases hb:(Nat.ble N 20000&&Nat.ble 20000 q&&Nat.blt q 60000&&WW qN c args.toList q)with
       |false=>rw[hb]at h;cases h
       | true=>
        rw[hb,au]at h;simp only[aS]at hb;obtain⟨⟨⟨hN,Fh⟩,CB⟩,PS⟩:=hb;have hN:=cX hN;have Fh:=cX Fh;have CB:q<60000:=cX CB;obtain⟨τ,WV,cn,Y,AD,qa,Jt,Jb⟩:=WS (w0:=w0) ho he hc h;clear h;unfold WW at PS;rw[AD]at PS;simp only[aS,g9]at PS;obtain⟨IP,hdT⟩:=PS;obtain⟨mu,kj,WY⟩:=List.any_eq_true.1 hdT;have WY:=cK WY;have aqk:dS dT cn=false:=by rw[<- WY];exact Jt mu kj
        have aql:dS q cn=false:=by
         cases D:dS q cn with
         |false=>rfl
         |true=>have:=qa q D;omega
        have WZ:q≠dT:=by unfold dT;omega
        split at Y
        ·rename_i y' I3;split at Y
         ·rename_i e W0
          refine⟨_,Y,λa w KK Q hR hK=>?_⟩
          obtain⟨aj,ρ,hR⟩:=hR;have dH:=hR.xR;have aqm:w0.F dT=none:=hR.dN dT (.inr (by decide));have fo:=hR.root q _ hm;generalize D:bu.sl (.sl E (oo+2) qn l)=x at fo;cases fo with
          |aB=>cases D
          |mp=>cases D
          |gh=>cases D
          | sl v yq cG hr=>
           injection D with D;subst D;cases hr with
           |eU=>simp at hi
           |gd=>simp at hi
           |gq=>simp at hi
           |aF _ _ _ _ _ _ _ _ _ ho=>omega
           | own _ _ _ _ _ b cap cs u hl hh hs hn sS hcc oa=>
            have hKv:xJ σ.m [j,i,aE E,q] y:=.elem j i [q] E oo qn l y (.root q _ hm) hi hy;obtain⟨Z,CC,aqn⟩:=hKv.ok hR.root;have xX:=hR.tmp t;rw[ht]at xX;have kK:a.tmps.getD t undef=Z:=by
             have h2:=xX.2;rw[CC]at h2;injection h2 with h2;exact h2.symm
            have aqo:Z=u i j:=by
             have h3:dm w aj ρ [j,i,aE E,q]=some (u i j):=by
              rw[O3,Cn j i _ (show dm w aj ρ [q]=some (.slice (some ⟨b,0,none⟩) l.length cap) by simp[dm,cG]) hl];show w.cell? _=_;rw[cell_of_row w b _ cs _ _ hh];simp[*]
             rw[CC]at h3;injection h3
            have gG:n7 Z=true:=by rw[<- kK];exact xX.1
            -- the state that the callee's caller sees
            have Ww:∀ k:aa Nat,gQ k [q,dT]=false -> dc q k=false/\dc dT k=false:=by
             intro k Y;unfold gQ at Y;unfold dc;split at Y
             next z T=>rw[T];have:=adm Y;simp only[iG,List.not_mem_nil,not_or]at this;exact⟨by simpa using this.1,by simpa using this.2⟩
             next T=>rw[T];exact⟨rfl,rfl⟩
            have hKq:∀ k:aa Nat,[j,i,aE E,q] <:+ k -> dc q k=true:=by
             rintro k ⟨p,rfl⟩;simp[dc]
            have V7:uz w w aj (qM aj [j,i,aE E,q]) ρ (ck ρ dT (.eG Z)) [q,dT] [dT]:=by
             refine⟨dW _,λL Cy C=>⟨rfl,?_⟩,λn hn=>?_,λL k C=>(hR.dD L k C).2⟩
             ·cases O:aj L with
              |none=>exact PR O
              | some k=>
               obtain⟨g1,g2⟩:=Ww k (C k O);exact WX O (λpU=>by rw[hKq k pU]at g1;cases g1) g2
             ·refine cU _ _ _ ?_;rintro rfl;simp[dS]at hn
            have vZ:∀ L k,qM aj [j,i,aE E,q] L=some k -> (∃ U,aj L=some U)/\k≠[]:=by
             intro L k C;cases O:aj L with
             |none=>rw[PR O]at C;cases C
             | some U=>
              refine⟨⟨U,rfl⟩,?_⟩;unfold qM at C;rw[O]at C;simp only at C;cases h1:List.isSuffixOf [j,i,aE E,q] U with
              | true=>
               rw[h1,au]at C;injection C with C;rw[<- C];simp
              | false=>
               rw[h1,aq]at C;cases h2:dc dT U with
               |true=>rw[h2,au]at C;cases C
               | false=>
                rw[h2,aq]at C;injection C with C;rw[<- C];exact(hR.dD L U O).2.2
            have wu:Rl w0 N (qM aj [j,i,aE E,q]) (ck ρ dT (.eG Z)) (σ.fE [q,dT] [dT] [(dT,.sl y)]) a w:=by
             refine hR.uA V7 (jz.aqh hR) (λL k C=>?_) (λn hn=>?_) (λn z T=>?_)
             ·obtain⟨⟨U,O⟩,PT⟩:=vZ L k C;have:=hR.dD L U O;exact⟨this.1,this.2.1,PT⟩
             ·have:n=dT:=by simpa [dS]using hn
              rw[this];exact aqm
             ·have hn:n=dT/\z = .sl y:=by
               rw[List.lookup_cons]at T;cases Fy:(n==dT)with
               |false=>rw[Fy]at T;cases T
               | true=>
                rw[Fy]at T;injection T with T;exact⟨by simpa using Fy,T.symm⟩
              obtain⟨rfl,rfl⟩:=hn;exact .sl Z y (cu _ _ _) (aqn.cut [] (.inl rfl))
            have kg:Rl w0 N (qM aj [j,i,aE E,q]) (ck ρ dT (.eG Z)) qN a w:=by
             rw[<- aqj];refine wu.aqf ?_;rw[kK];exact⟨gG,by simp only[dm,cu]⟩
            refine Jb a w KK Q _ _ kg λvv w' dX fD wo Ju xW sX yb=>?_
            -- behind the call
            have x4:90000 <= jm o.dst:=by unfold jm;split<;>omega
            have aqp:wo dT = .eG Z:=by
             rw[yb dT (by unfold dT;omega),xW.fC dT aqk,cu]
            have aqq:wo q = .eG (.slice (some ⟨b,0,none⟩) l.length cap):=by
             rw[yb q (by omega),xW.fC q aql,cU _ _ _ WZ,cG]
            have fo:=Ju.root dT _ I3;generalize D:bu.sl y'=x at fo;cases fo with
            |aB=>cases D
            |mp=>cases D
            |gh=>cases D
            | sl v' y'' hJ fU=>
             injection D with D;subst D;rw[aqp]at hJ;injection hJ with hJ;subst hJ;have W2:=Ju.xR;have hrel:Rel dT dX (dX.iy dT [j,i,aE E,q]):=IL W2;have adF:dc dT [q]=false:=by simpa [dc]using λe=>WZ e
             have Fx:qM aj [j,i,aE E,q] b=some [q]:=WX hl (λpU=>by have:=pU.length_le;simp at this) adF;have aqr:gQ [q] ((oW 0 WV).map (·.1))=false:=IP;obtain⟨g1,g2⟩:=xW.same b (xW.aj b _ Fx).1 (λk C=>by rw[Fx]at C;injection C with C;subst C;exact aqr);have aqs:dX b=some [q]:=g2.trans Fx;have aqt:dX.iy dT [j,i,aE E,q] b=some [q]:=hrel.mE b _ aqs adF;have hR4:=Ju.rel hrel (λL k C=>by
              unfold bM.iy at C;cases O:dX L with
              |none=>rw[O]at C;cases C
              | some U=>
               rw[O]at C;injection C with C;subst C;exact⟨⟨U,rfl⟩,acO (by simp) (λe=>W2 L (by rw[O,e]))⟩)
             refine hK _ _ ⟨_,wo,hR4.aqg (.sl _ _ aqq ?_)⟩;have hj:j<aE E:=by
              have:=(eo.1 hy).1
              rwa [lH]at this
             refine RV.O7 (w':=w') (cs:=cs) (xs:=[y']) (u:=u) (us:=u) aqt (g1.trans hh) hs hn sS hi (show j+1 <= aE E from hj) W0 (λi' th j' x D hij=>⟨hcc i' th j' x D,?_⟩) (λn x D=>?_)
             ·have W3:=oa i' th j' x D;have aqu:¬ (i'=i/\j'=j):=λe=>hij ⟨e.1,by simp;omega⟩
              have adG:dc dT [j',i',aE E,q]=false:=by simpa [dc]using λe=>WZ e
              have a1:=W3.aqe (K:=[j,i,aE E,q]) dH (.inl ⟨λp pU=>?_,adG⟩)
              ·have a2:=a1.uA xW (.inl (by simpa [gQ]using IP));exact a2.rel hrel (.inl adG)
              ·have e1:[j,i,aE E,q]=[j',i',aE E,q]:=VG pU ⟨p,rfl⟩ rfl;injection e1 with e1 e2;injection e2 with e2 e3;exact aqu ⟨e2.symm,e1.symm⟩
             ·cases n with
              | zero=>
               simp only[List.getElem?_cons_zero,iX]at D;subst D;refine⟨hcc i hi j y hy,?_⟩;have:=fU.iy (q:=dT) (nk:=[j,i,aE E,q]) W2;rw[acN,aqo]at this;exact this
              |succ n=>simp at D
         ·cases Y
        ·cases Y
      ·cases h
     ·cases h
    ·cases h
   ·cases h
  ·cases h
 ·cases h
def aqv{C:ah Tmp}{c:oV}{args:aa Operand}(D:∀ σ,cS λX k=>td (X:=X) N σ C c args k):cS λX k=>Jv (X:=X) N σ C c args k:=λX Y k g=>by
 unfold Jv
 repeat' first|rfl|refine dI ((D _ _ _ _ _).trans (bf _ (funext λE=>?_))) rfl|split
def yc:∀ (q:aa Nat),cS λX k=>jA (X:=X) m q k
 |[]=>λ_ _ _ _=>rfl
 | [x]=>λX Y k g=>by
  simp only[jA]
  repeat' first|rfl|refine dI ?_ ?_|split
 |[_,_]=>λ_ _ _ _=>rfl
 | j :: i :: s :: q=>λX Y k g=>by
  simp only[jA]
  refine(yc q _ _ _ _).trans (bf _ (funext λy=>?_))
  repeat' first|rfl|split
  all_goals simp_all
def Fz{x:Lf}:cS λX k=>pW (X:=X) σ x k:=by
 cases x with
 |own q=>exact yc q
 |_=>exact λ_ _ _ _=>rfl
def adH{q:aa Nat}{s i j:Nat}:cS λX k=>vU (X:=X) σ q s i j k:=λX Y k g=>by
 refine(yc q _ _ _ _).trans (bf _ (funext λy=>?_))
 repeat' first|rfl|refine dI ?_ ?_|split
def W4{x:A}:cS λX k=>sV (X:=X) σ x k:=by
 cases x with
 |lf l=>exact Fz
 |view=>exact adH
 |_=>exact λ_ _ _ _=>rfl
def W5{x:A}:cS λX k=>vK (X:=X) x k:=λX Y k g=>by
 unfold vK
 repeat' first|rfl|refine dI ?_ ?_|split
def aqw{ty:TypeId}{C:BinOp}{x y:V}:cS λX k=>ID (X:=X) P ty C x y k:=λX Y k g=>by
 unfold ID
 repeat' first|rfl|refine dI ?_ ?_|split
def aqx{C:BinOp}{t:TypeId}{x y:A}:cS λX k=>Al (X:=X) P σ C t x y k:=λX Y k g=>by
 unfold Al;split
 ·repeat' first|rfl|refine dI ?_ ?_|split
 ·split
  ·refine(Fz _ _ _ _).trans (bf _ (funext λz=>?_))
   repeat' first|rfl|refine dI ?_ ?_|split
  ·rfl
 ·exact(W5.comp λa=>W5.comp λb=>aqw.comp (b:=λX k z=>k (.lf (.v z))) λz _ _ _ _=>rfl) X Y k g
def aqy{C:UnOp}{x:V}:cS λX k=>IE (X:=X) C x k:=λX Y k g=>by
 unfold IE
 repeat' first|rfl|refine dI ?_ ?_|split
def PU{t:TypeId}{cs:aa Lf}:cS λX k=>xP (X:=X) P t cs k:=λX Y k g=>by
 unfold xP
 repeat' first|rfl|refine dI ?_ ?_|split
def adJ{t:TypeId}{x:A}:cS λX k=>oO (X:=X) P σ t x k:=λX Y k g=>by
 unfold oO;split
 ·rfl
 ·split
  ·split
   ·exact PU _ _ _ _
   ·rfl
  ·exact PU _ _ _ _
  ·refine(yc _ _ _ _ _).trans (bf _ (funext λz=>?_))
   repeat' first|rfl|exact PU _ _ _ _|split
  ·rfl
def aqz{s:TypeId}{x:A}{f:Nat}:cS λX k=>Fb (X:=X) P s x f k:=λX Y k g=>by
 unfold Fb
 repeat' first|rfl|refine dI ?_ ?_|split
def aqA{t:TypeId}{x i:A}:cS λX k=>Aa (X:=X) P σ t x i k:=λX Y k g=>by
 unfold Aa;split
 ·rfl
 ·split
  ·split
   ·repeat' first|rfl|refine dI ?_ ?_|split
   ·refine(yc _ _ _ _ _).trans (bf _ (funext λz=>?_))
    repeat' first|rfl|refine dI ?_ ?_|split
   ·rfl
  ·rfl
def aqB{t:TypeId}{x:A}:cS λX k=>Cu (X:=X) P σ t x k:=λX Y k g=>by
 unfold Cu;split
 ·refine(Fz _ _ _ _).trans (bf _ (funext λz=>?_))
  repeat' first|rfl|refine dI ?_ ?_|split
 ·repeat' first|rfl|refine dI ?_ ?_|split
 ·rfl
def aqC{x:A}{i:Nat}:cS λX k=>Cv (X:=X) x i k:=λX Y k g=>by
 unfold Cv
 repeat' first|rfl|refine dI ?_ ?_|split
def aqD{t:TypeId}{parts:aa (Nat×Operand)}:cS λX k=>Fi (X:=X) P σ t parts k:=λX Y k g=>by
 unfold Fi
 repeat' first|rfl|refine dI ?_ ?_|split
def aqE{s:TypeId}{x:A}{f:Nat}:cS λX k=>I1 (X:=X) P s x f k:=λX Y k g=>by
 unfold I1
 repeat' first|rfl|refine dI ?_ ?_|split
def adK{C:Bool}{x y:A}:cS λX k=>Fj (X:=X) C x y k:=λX Y k g=>by
 unfold Fj
 repeat' first|rfl|refine dI ?_ ?_|split
def aqF{t:TypeId}{x i:A}:cS λX k=>I2 (X:=X) P t x i k:=λX Y k g=>by
 unfold I2
 repeat' first|rfl|refine dI ?_ ?_|split
def aqG{C D:TypeId}{x:A}:cS λX k=>Ai (X:=X) P σ C D x k:=λX Y k g=>by
 unfold Ai;split
 ·repeat' first|rfl|refine dI ?_ ?_|split
 ·refine(Fz _ _ _ _).trans (bf _ (funext λz=>?_))
  unfold Pv
  repeat' first|rfl|refine dI ?_ ?_|split
 ·rfl
def FA{x:ah A}{d:Int}:cS λX k=>uj (X:=X) x d k:=λX Y k g=>by
 unfold uj
 repeat' first|rfl|refine dI ?_ ?_|split
def adL{t:TypeId}{q:aa Nat}{C:ah Nat}{lo hi:ah A}:cS λX k=>CF (X:=X) P σ t q C lo hi k:=λX Y k g=>by
 unfold CF;split
 ·split
  ·refine(yc _ _ _ _ _).trans (bf _ (funext λz=>?_))
   unfold Fp;split
   ·split
    ·refine(FA _ _ _ _).trans (bf _ (funext λ_=>(FA _ _ _ _).trans (bf _ (funext λ_=>?_))))
     repeat' first|rfl|refine dI ?_ ?_|split
    ·rfl
   ·rfl
  ·rfl
 ·rfl
def aqH{t:TypeId}{x:A}{lo hi:ah A}:cS λX k=>An (X:=X) P σ t x lo hi k:=λX Y k g=>by
 unfold An;split
 ·exact adL _ _ _ _
 ·exact adL _ _ _ _
 ·unfold xU;split
  ·split
   ·refine(FA _ _ _ _).trans (bf _ (funext λ_=>(FA _ _ _ _).trans (bf _ (funext λ_=>?_))))
    repeat' first|rfl|refine dI ?_ ?_|split
   ·rfl
  ·split
   ·split
    ·split
     ·refine dI ((FA _ _ _ _).trans (bf _ (funext λ_=>(FA _ _ _ _).trans (bf _ (funext λ_=>?_))))) rfl
      repeat' first|rfl|refine dI ?_ ?_|split
     ·rfl
    ·rfl
   ·rfl
  ·rfl
def yd{C:ah Tmp}{x:A}:cS λX k=>iH (X:=X) N σ C x k:=λX Y k g=>by
 unfold iH
 repeat' first|rfl|refine dI ?_ ?_|split
def PW{x:bu}{y:A}:cS λX k=>iK (X:=X) N σ d x y k:=λX Y k g=>dI rfl rfl
def FB{x:bu}{y:A}{k:S -> ah X}(h:iK N σ d x y k=some r):k (((σ.drop d).root d x).set d y)=some r/\nc (λX k=>iK (X:=X) N σ d x y k) (((σ.drop d).root d x).set d y):=by
 unfold iK at h;cases C:Nat.blt d N with
 |false=>simp_all
 |true=>rw[C]at h;exact⟨h,λX k=>by simp[iK,C,au]⟩
def aqI{e:TypeId}{k:S -> ah X}(h:rP P N σ d e k=some r):∃ x y,k (((σ.drop d).root d x).set d y)=some r/\y = .aG d 0/\(∀ (C:S),nc (λX k=>rP (X:=X) P N C d e k) (((C.drop d).root d x).set d y)):=by
 unfold rP at h;split at h
 ·rename_i z D;obtain⟨E,_⟩:=FB h
  refine⟨_,_,E,rfl,λC X k=>?_⟩
  obtain⟨L,_⟩:=pY h;have hb:Nat.blt d N=true:=jv L;simp[rP,D,iK,hb,au]
 ·cases h
def adM{t:TypeId}{l c:A}{k:S -> ah X}(h:Ad P N σ d t l c k=some r):∃ y,k (((σ.drop d).root d (.sl y)).set d (.lf (.own [d])))=some r/\(∀ (C:S),nc (λX k=>Ad (X:=X) P N C d t l c k) (((C.drop d).root d (.sl y)).set d (.lf (.own [d])))):=by
 unfold Ad at h;split at h
 ·rename_i e U Y n Z c D;split at h
  ·cases h
  ·rename_i z E;split at h
   ·rename_i hb;obtain⟨L,_⟩:=FB h
    refine⟨_,L,λC X k=>?_⟩
    obtain⟨O,_⟩:=pY h;have T:Nat.blt d N=true:=jv O;simp[Ad,D,E,bJ hb,iK,T,au]
   ·cases h
 ·cases h
def adN{t:TypeId}{len:Nat}{parts:aa (Nat×Operand)}{k:S -> ah X}(h:Ah P N σ d t len parts k=some r):∃ y,k (((σ.drop d).root d (.sl y)).set d (.lf (.own [d])))=some r /\
  (∀(C:S),(∀p∈parts,aP C p.2=aP σ p.2) -> nc (λX k=>Ah (X:=X) P N C d t len parts k) (((C.drop d).root d (.sl y)).set d (.lf (.own [d])))):=by
 unfold Ah at h;split at h
 ·rename_i e D L;split at h
  ·rename_i z O;cases E:(Nat.beq (full D) 0&&Nat.beq z.cells.size (aE D)&&Nat.blt (len*aE D) 16777217)with
   |false=>simp_all
   | true=>
    rw[E,au]at h;split at h
    ·rename_i cs T;split at h
     ·rename_i vs U;split at h
      ·rename_i l hl;obtain⟨Y,_⟩:=FB h
       refine⟨_,Y,λC Z X k=>?_⟩
       obtain⟨hN,_⟩:=pY h;have gO:Nat.blt d N=true:=jv hN;have e:(parts.map λp=>(p.1,aP C p.2))=parts.map λp=>(p.1,aP σ p.2):=List.map_congr_left λp hp=>by rw[Z p hp]
       simp[Ah,L,O,E,au,e,T,U,hl,iK,gO]
      ·cases h
     ·cases h
    ·cases h
  ·cases h
 ·cases h
def aqJ{t:TypeId}{x y:A}:cS λX k=>uf (X:=X) P N σ d t x y k:=λX Y k g=>by
 unfold uf;split
 ·refine dI ((W4 _ _ _ _).trans (bf _ (funext λC=>?_))) rfl
  repeat' first|rfl|exact PW _ _ _ _|refine dI ?_ ?_|split
 ·rfl
def adO:∀ (q:aa Nat) (y:V),cS λX k=>xQ (X:=X) m q y k
 |[],_=>λ_ _ _ _=>rfl
 | [x],y=>λX Y k g=>by
  simp only[xQ]
  repeat' first|rfl|refine dI ?_ ?_|split
 |[_,_],_=>λ_ _ _ _=>rfl
 | j :: i :: s :: q,y=>λX Y k g=>by
  simp only[xQ]
  refine(yc q _ _ _ _).trans (bf _ (funext λz=>?_))
  repeat' first|rfl|exact adO q _ _ _ _ _|split
def adP{t:TypeId}{x y:A}:cS λX k=>qG (X:=X) P σ t x y k:=λX Y k g=>by
 unfold qG;split
 ·split
  ·split
   ·repeat' first|rfl|refine dI ?_ ?_|split
   ·split
    ·rfl
    ·refine(yc _ _ _ _ _).trans (bf _ (funext λz=>?_))
     repeat' first|rfl|exact adO _ _ _ _ _ _|refine dI ?_ ?_|split
   ·rfl
  ·rfl
 ·rfl
def W7:∀ (xs:aa Lf),cS λX k=>rT (X:=X) σ xs k
 |[]=>λ_ _ _ _=>rfl
 |x::xs=>Fz.comp λy=>(W7 xs).comp (b:=λX k ys=>k (y.gN::ys)) λ_ _ _ _ _=>rfl
def adQ{x:A}:cS λX k=>oR (X:=X) σ x k:=λX Y k g=>by
 unfold oR
 repeat' first|rfl|exact W7 _ _ _ _ _|exact adH _ _ _ _|split
def aqK{x:A}:cS λX k=>v9 (X:=X) σ x k:=λX Y k g=>by
 unfold v9
 repeat' first|rfl|exact adQ _ _ _ _|refine(W7 _ _ _ _ _).trans (bf _ (funext λz=>?_))|split
def W8{f:(X:Type)->A->(Pt->ah X)->ah X}(C:∀ x,cS λX k=>f X x k):∀ (xs:aa Operand),cS λX k=>we (f X) σ xs k
 |[]=>λ_ _ _ _=>rfl
 |x::xs=>(C _).comp λp=>(W8 C xs).comp (b:=λX k ps=>k (p::ps)) λ_ _ _ _ _=>rfl
def FC{xs:aa Operand}:cS λX k=>sY (X:=X) σ xs k:=W8 (λ_=>adQ) xs
def adR{xs:aa Operand}:cS λX k=>CG (X:=X) σ xs k:=W8 (λ_=>aqK) xs
def PX{C:gC}:cS λX k=>oT (X:=X) σ d C k:=λX Y k g=>by
 unfold oT
 repeat' first|rfl|refine dI ?_ ?_|split
def adS{f:Nat}{c:jl}(C:iR P f c){ev:(X:Type)->(aa Pt->ah X)->ah X}(D:cS ev):cS λX k=>s7 (X:=X) N σ d c (ev X) k:=λX Y k g=>
 dI ((D.comp λps=>(C.1 ps).comp λE=>PX) X Y k g) rfl
def PY{f:Nat}{c:jl}(Y:iR P f c){ev:(X:Type)->(aa Pt->ah X)->ah X}(Z:cS ev){k:S->ah X}(h:s7 N σ d c (ev X) k=some r):∃ C D,oT σ d C some=some D/\k D=some r/\
  ∀E O (L:(X:Type)->(aa Pt->ah X)->ah X),(∀(X:Type) (k:aa Pt->ah X),L X k=ev X k)->oT E d C some=some O->nc (λX k=>s7 (X:=X) N E d c (L X) k) O:=by
 unfold s7 at h;cases T:Nat.blt d N with
 |false=>rw[T]at h;cases h
 | true=>
  rw[T,au]at h;obtain⟨ps,h2,hd⟩:=Z.oc h;obtain⟨C,h3,Wj⟩:=(Y.1 ps).oc h2;obtain⟨D,h4,hd3⟩:=PX.oc h3
  refine⟨C,D,hd3 _ _,h4,λE O L ha iS X k=>?_⟩
  obtain⟨τ2,U,hd4⟩:=PX.oc iS;injection U with U;subst U;show s7 N E d c (L X) k=_;unfold s7;rw[T,au,ha,hd X];exact(Wj X _).trans (hd4 X k)
/-! Keys that do not end in certain names. -/
def oZ(p:Nat->Bool)(k:aa Nat):Bool:=!jM p k
def wz(p pb:Nat->Bool):n9:=⟨jM p,jM p,pb⟩
def Lf.nr(p:Nat->Bool):Lf->Bool:=Lf.fr (jM p)
def A.nr(p:Nat->Bool):A->Bool:=A.fr (wz p p)
def Jw{p:Nat->Bool}{n:Nat}(C:p n=true)(k:aa Nat)(h:dc n k=true):jM p k=true:=by
 unfold jM;rw[show k.getLast?=some n by simpa [dc]using h];exact C
def adT{p:Nat->Bool}{k:aa Nat}{n:Nat}(h:oZ p k=true)(C:p n=true):dc n k=false:=by
 cases hl:dc n k with
 |false=>rfl
 |true=>unfold oZ at h;rw[Jw C k hl]at h;cases h
def aqL{p:Nat->Bool}{n:Nat}(C:p n=true)(r:Nat)(h:Nat.beq r n=true):p r=true:=by rw[cK h];exact C
def Lf.AE{p:Nat->Bool}{x:Lf}{n:Nat}(h:x.nr p=true)(C:p n=true):x.drop n=x:=Lf.rJ (Lf.vP (Jw C) h)
def rK.AE{p:Nat->Bool}{xs:aa Lf}{n:Nat}(h:xs.all (Lf.nr p)=true)(C:p n=true):xs.map (Lf.drop n)=xs:=rK.rJ (cw.2 λc D=>Lf.vP (Jw C) (cw.1 h c D))
def A.FD{p pb:Nat->Bool}{x:A}{n:Nat}(h:x.fr (wz p pb)=true)(C:p n=true)(hb:pb n=true):x.drop n=x:=A.rJ (A.vP (K:=xK n) (J:=wz p pb) (Jw C) (Jw C) (aqL hb) h)
def A.AE{p:Nat->Bool}{x:A}{n:Nat}(h:x.nr p=true)(C:p n=true):x.drop n=x:=A.FD h C C
def S.ext'{σ C:S}(D:∀ k,σ.t k=C.t k)(E:∀ r,σ.m r=C.m r):σ=C:=by
 cases σ;cases C;simp
 grind
def S.set_set{e d:Nat}(h:e≠d)(v u:A):(σ.set d v).set e u=(σ.set e u).set d v:=by
 refine S.ext' (λk=>?_) λ_=>rfl
 show ck (ck σ.t d v) e u k=ck (ck σ.t e u) d v k;by_cases C:k=e
 ·subst C;rw[cu,cU _ _ _ h,cu]
 ·by_cases D:k=d
  ·subst D;rw[cU _ _ _ C,cu,cu]
  ·rw[cU _ _ _ C,cU _ _ _ D,cU _ _ _ D,cU _ _ _ C]
def S.drop_set(n:Nat){v:A}(C:v.drop n=v):(σ.set d v).drop n=(σ.drop n).set d v:=by
 refine S.ext' (λk=>?_) λ_=>rfl
 show (ck σ.t d v k).drop n=ck (λk=>(σ.t k).drop n) d v k;by_cases h:k=d
 ·subst h;rw[cu,cu,C]
 ·rw[cU _ _ _ h,cU _ _ _ h]
def W9(v:A):∀ (xs:aa V) (c:Nat) (σ:S),(∀ n,c <= n -> v.drop n=v) -> ng c (σ.set d v) xs=(ng c σ xs).set d v
 |[],c,σ,h=>rfl
 | x :: xs,c,σ,h=>by
  simp[ng];cases D:x.aF with
  | true=>
   exact W9 v xs _ σ (λn C=>h n (by omega))
  | false=>
   rw[S.drop_set c (h c (dW _))];exact W9 v xs _ ((σ.drop c).root c _) (λn C=>h n (by omega))
def adU(v:A):∀ (ps:aa Pt) (c:Nat) (σ:S),(∀ n,c <= n -> v.drop n=v) -> qd c (σ.set d v) ps=(qd c σ ps).set d v
 |[],c,σ,h=>rfl
 | p :: ps,c,σ,h=>by
  simp[qd];rw[W9 v p.2 c σ h];exact adU v ps _ _ (λn C=>h n (by omega))
end
def AF{X:Type}(N:Nat)(σ:S)(d:Nat)(x:A)(k:S->ah X):ah X:=
 match x.z0 with
 |some xs=>bif xs.all Lf.live then iK N σ d (.aB (xs.map (Lf.drop d))) (.aG d 0) k else none
 |none=>none
def PZ{X:Type}(x:A)(k:A->ah X):ah X:=
 match x with
 |.aG r j=>k (.aG r j)
 |.ptr q=>k (.ptr q)
 |.jy cs=>k (.jy cs)
 |_=>none
section
variable {P:Program} {w w':World} {w0:Wd} {B N:Nat} {aj aD:bM} {ρ ρ':Nat->Loc} {σ:S} {a:Act} {X:Type} {d:Nat} {r:X} {o:Oper}
def aqM{e:TypeId}{x:A}{k:S -> ah X}(h:AF N σ d x k=some r):∃ D,k D=some r /\ ∀ aj ρ a w,Rl w0 N aj ρ σ a w -> ∀ u,RA w w0.heap.size aj ρ x u ->
  ∃w' aD ρ' v,(Instr.box e u).run P w = .ok v w'/\Rl w0 N aD ρ' D (a.put (some d) v) w':=by
 unfold AF at h;split at h
 ·rename_i xs U;cases E:xs.all Lf.live with
  |false=>grind
  | true=>
   rw[E,au]at h;obtain⟨L,h⟩:=pY h
   refine⟨_,h,λaj ρ a w hR u Y=>?_⟩
   obtain⟨hl,_⟩:=IJ U E Y;have Z:(Instr.box e u).run P w = .ok (.pointer (some ⟨w.heap.size,0,none⟩)) (w.alloc (.cells u.cells e)):=by
    simp[Instr.box,newVar,newRow]
   refine⟨_,ck aj w.heap.size (some [d]),ck ρ d (.aB w.heap.size 0),_,Z,(hR.Fe (hR.dN d (.inl L)) (λr C=>cU _ _ _ C) ?_).set ⟨w.heap.size,0,cu _ _ _,rfl⟩ L⟩
   have h1:fh (w.alloc (.cells u.cells e)) w0.heap.size (ck aj w.heap.size (some [d])) ρ xs u.cells:=
    hl.mE (by simp) (λb hb=>⟨Below.heap_alloc w _ b hb,cU _ _ _ (by omega)⟩) (λb k hb=>(hR.dD b k hb).2.1)
   have O:=h1.fC (ρ':=ck ρ d (.aB w.heap.size 0)) (d:=d) (λr C=>cU _ _ _ C)
   refine .aB w.heap.size 0 u.cells e _ (λj=>u.cells.getD j undef) (cu _ _ _) (cu _ _ _) (heap_alloc_new w _) (by rw[O.1];omega) λj y hy=>?_
   obtain⟨v,T,C⟩:=O.2 j y hy;have hg:u.cells.getD j undef=v:=by rw[iV,T];rfl
   rw[hg,fT];exact⟨T,C⟩
 ·cases h
def aqN{x:A}{k:S -> ah X}(h:AF N σ d x k=some r):∃ y u,k (((σ.drop d).root d y).set d u)=some r/\(∀ (C:S),nc (λX k=>AF (X:=X) N C d x k) (((C.drop d).root d y).set d u)):=by
 unfold AF at h;split at h
 ·rename_i xs E;cases D:xs.all Lf.live with
  |false=>simp_all
  | true=>
   rw[D]at h;obtain⟨L,_⟩:=FB h
   refine⟨_,_,L,λC X k=>?_⟩
   obtain⟨O,_⟩:=pY h;have hb:Nat.blt d N=true:=jv O;simp[AF,E,D,iK,hb,au]
 ·cases h
def aqO{x:A}{k:A->ah X}(h:PZ x k=some r):k x=some r/\∀ u,RA w B aj ρ x u->∃ ad,u = .pointer (some ad):=by
 unfold PZ at h;split at h
 ·exact⟨h,λu C=>by obtain⟨b,off,_,rfl⟩:=C;exact⟨_,rfl⟩⟩
 ·exact⟨h,λu C=>by obtain⟨ad,rfl,_⟩:=C;exact⟨_,rfl⟩⟩
 ·exact⟨h,λu C=>by obtain⟨b,off,rfl,_⟩:=C;exact⟨_,rfl⟩⟩
 ·cases h
end
def qO(t:TypeId):Bool:=[999999,999999,82,999999,87,999999,999999,999999,999999,999999,113,999999,999999,999999,999999].any (Nat.beq t)
def ye{X:Type}(P:Program)(N:Nat)(σ:S)(d:Nat)(t:TypeId)(len:Nat)(parts:aa (Nat×Operand))(k:S->ah X):ah X:=
 match vY P t with
 | some (e,C)=>match zeroOf P e with
  | some z=>bif Nat.beq z.cells.size (aE C)&&Nat.blt (len*aE C) 16777217 then (match Ag (λi=>some (i*aE C,aE C)) (List.replicate len (z.cells.toList.map oQ)).flatten (parts.map λp=>(p.1,aP σ p.2))with
   |some cs=>bif Nat.beq len 0 then iK N σ d (.sl (.sl C (full C+2) true [])) (.lf (.own [d])) k else iK N σ d (.aB (cs.map (Lf.drop d))) (.pk d len) k
   |none=>none)else none
  |none=>none
 |none=>none
def CV{X:Type}(N:Nat)(σ:S)(d r D:Nat)(C:TC)(n:Nat)(k:S->ah X):ah X:=
 match σ.m D,σ.m r with
 | some (.aB cs),some (.sl (.sl E (o+2) q l))=>if h:E=C then (match iJ r (λj=>(j % aE C) :: (l.length+j / aE C) :: aE C :: [r]) cs.length 0 cs σ with
  | some (L,O)=>(match IY C o n L with
   |some l2=>bif Nat.blt d N&&bI (l.length+l2.length)then k (((O.drop r).root r (.sl (.sl C (o+2) false ((h ▸ l)++l2)))).set d (.lf (.own [r])))else none
   |none=>none)
  |none=>none)else none
 |_,_=>none
def Jx{X:Type}(P:Program)(N:Nat)(σ:S)(d:Nat)(t:TypeId)(x y:A)(k:S->ah X):ah X:=
 match vY P t,y with
 | some (e,C),.pk D n=>bif (zeroOf P e).any (λz=>Nat.beq z.cells.size (aE C))&&(Nat.blt d N&&Nat.blt n rI)then (match x with
  |.lf (.v .nil)=>CV N ((σ.drop d).root d (.sl (.sl C (full C+2) false []))) d d D C n k
  |.lf (.own [r])=>bif Nat.blt r N ||Nat.ble 60000 r then CV N σ d r D C n k else none
  |_=>none)else none
 |_,_=>none
def uD{X:Type}(P:Program)(σ:S)(t:TypeId)(x y:A)(k:S->ah X):ah X:=
 match jN P t,y.z0,x with
 | some n,some xs,.ptr [j,i,s,r]=>if xs.length=n then (bif xs.all Lf.live then (match iJ r (λm=>(j+m) :: i :: s :: [r]) xs.length 0 xs σ with
  | some (E,D)=>(match D.m r with
   | some (.sl (.sl C (o+2) L l))=>if s=aE C then (if h:i<l.length then (if j+n<=aE C then (match dec C o (splice (enc C o l[i]) j E)with
    |some e=>k (D.fE [r] [] [(r,.sl (.sl C (o+2) L (l.set i e)))])
    |none=>none)else none)else none)else none
   |_=>none)
  |none=>none)else none)else none
 |_,_,_=>none
def yf(x y:A):Bool:=match x,y.z0 with
 |.ptr _,some xs=>(rO xs).isNone
 |_,_=>false
section
variable {P:Program} {w w':World} {w0:Wd} {B N:Nat} {aj aD:bM} {ρ ρ':Nat->Loc} {σ:S} {a:Act} {X:Type} {d:Nat} {r:X} {o:Oper}
def adV{place:Nat -> ah (Nat×Nat)}:∀ (parts:aa (Nat×A)) (cells out:aa Lf),Ag place cells parts=some out -> out.length=cells.length
 |[],cells,out,h=>by injection h with h;rw[h]
 | (i,x) :: rest,cells,out,h=>by
  unfold Ag at h;split at h
  ·rename_i off n xs C D;split at h
   ·rename_i E;cases hl:xs.all _ with
    | true=>
     rw[hl]at h;rw[adV rest _ _ h,ua _ _ _ (by omega)]
    |false=>simp_all
   ·cases h
  ·cases h
def aqP{t:TypeId}{len:Nat}{parts:Array (Nat×Operand)}{k:S -> ah X}(h:ye P N σ d t len parts.toList k=some r):∃ dz,k dz=some r /\ ∀ aj ρ a w,Rl w0 N aj ρ σ a w ->
  ∃w' aD ρ' v,(Instr.buildSlice t len (parts.map λ(i,x)=>(i,a.eval x))).run P w = .ok v w'/\Rl w0 N aD ρ' dz (a.put (some d) v) w':=by
 unfold ye at h;split at h
 ·rename_i e D pZ;obtain⟨gH,ht,i,hi,U,kD⟩:=Ae pZ;split at h
  ·rename_i z hz;cases Y:(Nat.beq z.cells.size (aE D)&&Nat.blt (len*aE D) 16777217)with
   |false=>rw[Y]at h;cases h
   | true=>
    rw[Y,au]at h;rw[aS]at Y;have nS:=cK Y.1;have hsm:len*aE D<16777217:=by have:=cX Y.2;omega
    have p6:i.zero=some z:=by unfold zeroOf at hz;simpa [hi]using hz
    split at h
    ·rename_i cs gP;have key:∀ aj ρ (a:Act) w,Rl w0 N aj ρ σ a w -> ∃ C,(Instr.buildSlice t len (parts.map λ(i,x)=>(i,a.eval x))).run P w = .ok (.slice (some ⟨w.heap.size,0,none⟩) len len) (w.alloc (.cells C e))/\fh w w0.heap.size aj ρ cs C/\C.size=cs.length:=λaj ρ a w hR=>by
      have V3:fh w w0.heap.size aj ρ (List.replicate len (z.cells.toList.map oQ)).flatten (madeCells z.cells (len*aE D)):=by
       have e1:(List.replicate len (z.cells.toList.map oQ)).flatten=((List.replicate len z.cells.toList).flatten).map oQ:=by
        rw[List.map_flatten,List.map_replicate]
       rw[e1,<- ac2 z.cells (aE D) len nS (pQ D)]
       refine⟨by simp,λj x E=>?_⟩
       rw[ff]at E;cases T:(madeCells z.cells (len*aE D)).toList[j]? with
       |none=>rw[T]at E;cases E
       | some v=>
        rw[T]at E;injection E with E;subst E;exact⟨v,by simpa using T,Ph v⟩
      obtain⟨C,xV,hl⟩:=Pp (w:=w) (B:=w0.heap.size) (aj:=aj) (ρ:=ρ) _ _ _ (parts.toList.map λp=>(p.1,a.eval p.2)) cs gP V3 (by simp) (λj p q L Z=>by
       rw[ff]at L Z;cases E:parts.toList[j]? with
       |none=>rw[E]at L;cases L
       | some x=>
        rw[E]at L Z;injection L with L;injection Z with Z;subst L Z;exact⟨rfl,hR.aP x.2⟩)
      have dZ:(Instr.buildSlice t len (parts.map λ(i,x)=>(i,a.eval x))).run P w = .ok (.slice (some ⟨w.heap.size,0,none⟩) len len) (w.alloc (.cells C e)):=by
       have I0:(parts.map λ(i,x)=>(i,a.eval x)).toList=parts.toList.map λp=>(p.1,a.eval p.2):=by simp
       by_cases h0:len*aE D=0
       ·have hm:madeCells z.cells (len*aE D) = #[]:=by rw[h0];simp[madeCells]
        rw[hm]at xV;have V4:len*i.size=0:=by rw[U];exact h0
        rw[<- U]at xV;have e0:∀f:Nat -> Value,Array.map f (Array.range 0) = #[]:=λf=>by simp
        simp only[Instr.buildSlice,gF,ir gH,sizeOf,typeInfo];simp[hi,V4];rw[e0,xV];simp[newRow]
       ·exact run_buildSlice (P:=P) w t e len _ C i z gH hi p6 (by rw[U];omega) (by rw[U];exact h0) (by rw[U,I0];exact xV)
      exact⟨C,dZ,hl,hl.1⟩
     cases oP:Nat.beq len 0 with
     | true=>
      rw[oP,au]at h;have hln:=cK oP;subst hln;obtain⟨hd,h⟩:=pY h
      refine⟨_,h,λaj ρ a w hR=>?_⟩
      obtain⟨C,dZ,hl,hcz⟩:=key aj ρ a w hR;have x4:cs.length=0:=by
       have h1:=adV _ _ _ gP;rw[h1];simp
      refine⟨_,ck aj w.heap.size (some [d]),ck ρ d (.eG (.slice (some ⟨w.heap.size,0,none⟩) 0 0)),_,dZ,(hR.Fe (hR.dN d (.inl hd)) (λr O=>cU _ _ _ O) (.sl _ _ (cu _ _ _) ?_)).set ⟨rfl,by simp[dm,cu]⟩ hd⟩
      exact RV.own (w:=w.alloc (.cells C e)) (B:=w0.heap.size) (aj:=ck aj w.heap.size (some [d])) [d] D (full D) true [] w.heap.size 0 C (λ_ _=>undef)
       (cu _ _ _) (by rw[ht];exact heap_alloc_new w _) (by omega) (dW _) ⟨by unfold maxLen;omega,λ_=>rfl⟩ (λi' h'=>absurd h' (by simp)) (λi' h'=>absurd h' (by simp))
     |false=>
     rw[oP,aq]at h;obtain⟨hd,h⟩:=pY h
     refine⟨_,h,λaj ρ a w hR=>?_⟩
     obtain⟨C,dZ,hl,_⟩:=key aj ρ a w hR
     refine⟨_,ck aj w.heap.size (some [d]),ck ρ d (.aB w.heap.size 0),_,dZ,(hR.Fe (hR.dN d (.inl hd)) (λr O=>cU _ _ _ O) ?_).set ⟨w.heap.size,cu _ _ _,(VA (by have:=Nat.le_mul_of_pos_right len (pQ D);unfold rI;omega)).symm⟩ hd⟩
     have h1:fh (w.alloc (.cells C e)) w0.heap.size (ck aj w.heap.size (some [d])) ρ cs C:=
      hl.mE (by simp) (λb hb=>⟨Below.heap_alloc w _ b hb,cU _ _ _ (by omega)⟩) (λb k hb=>(hR.dD b k hb).2.1)
     have h2:=h1.fC (ρ':=ck ρ d (.aB w.heap.size 0)) (d:=d) (λr O=>cU _ _ _ O)
     refine .aB w.heap.size 0 C e _ (λj=>C.getD j undef) (cu _ _ _) (cu _ _ _) (heap_alloc_new w _) (by rw[h2.1];omega) λj y hy=>?_
     obtain⟨v,T,O⟩:=h2.2 j y hy;have hg:C.getD j undef=v:=by rw[iV,T];rfl
     rw[hg,fT];exact⟨T,O⟩
    ·cases h
  ·cases h
 ·cases h
def aqQ{t:TypeId}{len:Nat}{parts:aa (Nat×Operand)}{k:S -> ah X}(h:ye P N σ d t len parts k=some r):∃ y u,k (((σ.drop d).root d y).set d u)=some r /\
  (∀(C:S),(∀p∈parts,aP C p.2=aP σ p.2) -> nc (λX k=>ye (X:=X) P N C d t len parts k) (((C.drop d).root d y).set d u)):=by
 unfold ye at h;split at h
 ·rename_i e tc Z;split at h
  ·rename_i z hz;cases D:(Nat.beq _ _&&Nat.blt _ 16777217)with
   |false=>rw[D]at h;cases h
   | true=>
    rw[D]at h;split at h
    ·rename_i cs gP;cases E:Nat.beq len 0 with
     | true=>
      rw[E,au]at h;obtain⟨L,_⟩:=FB h
      refine⟨_,_,L,λC O X k=>?_⟩
      obtain⟨T,_⟩:=pY h;have U:Nat.blt d N=true:=jv T;have e:(parts.map λp=>(p.1,aP C p.2))=parts.map λp=>(p.1,aP σ p.2):=List.map_congr_left λp Y=>by rw[O p Y]
      simp only[ye,Z,hz,D,au,e,gP,iK,U,E]
     | false=>
      rw[E,aq]at h;obtain⟨L,_⟩:=FB h
      refine⟨_,_,L,λC O X k=>?_⟩
      obtain⟨T,_⟩:=pY h;have U:Nat.blt d N=true:=jv T;have e:(parts.map λp=>(p.1,aP C p.2))=parts.map λp=>(p.1,aP σ p.2):=List.map_congr_left λp Y=>by rw[O p Y]
      simp only[ye,Z,hz,D,au,e,gP,iK,U,E,aq]
    ·cases h
  ·cases h
 ·cases h
def adW{t e ty:TypeId}{Y:TC}{i:TypeInfo}{z:Value}{rr ry n:Nat}{k:S -> ah X}(gH:P.underlying t=some (.slice e))(ht:tid Y=e)(hi:P.info? e=some i)(hz:i.zero=some z)
  (iU:i.size=aE Y) (kD:i.bytes <= 65536) (nS:z.cells.size=aE Y) (h:CV N σ d rr ry Y n k=some r):∃dz,k dz=some r /\ ∀aj ρ a w,Rl w0 N aj ρ σ a w -> w0.F rr=none -> ∀u v b,ρ rr = .eG u -> ρ ry = .aB b 0 -> v = .slice (some ⟨b,0,none⟩) n n ->
  ∃w' aD ρ' z,(Builtin.append_ #[t,t] ty #[u,v]).run P w = .ok z w'/\Rl w0 N aD ρ' dz (a.put (some d) z) w':=by
 unfold CV at h;split at h
 ·rename_i cs E o q l Xa hr;split at h
  ·rename_i od;subst od;split at h
   ·rename_i vs τ Xb;split at h
    ·rename_i l2 kN;cases U:(Nat.blt d N&&bI (l.length+l2.length))with
     |false=>rw[U]at h;cases h
     | true=>
      rw[U,au]at h;rw[aS]at U;have IU:l.length+l2.length<1073741824:=by simpa [bI]using U.2
      have hd:d<N:=by have:=cX U.1;omega
      refine⟨_,h,λaj ρ a w hR hF u v b aqR aqS O=>?_⟩
      subst O;have Z:=hR.root ry _ Xa;generalize C:bu.aB cs=x at Z;cases Z with
      |sl=>cases C
      |mp=>cases C
      |gh=>cases C
      | aB b' off cells e' fe us cG qF hh hs hc=>
       injection C with C;subst C;rw[aqS]at cG;injection cG with e1 e2;subst e1 e2;have lI:fh w w0.heap.size aj ρ cs ((List.range cs.length).map us).toArray:=by
        refine⟨by simp,λj x L=>?_⟩
        have D:j<cs.length:=(eo.1 L).1;exact⟨us j,by simp[D],(hc j x L).2⟩
       obtain⟨aD,dR,Ct,P0,_,oa,kK,_,_⟩:=Pd (w0:=w0) (N:=N) (λj=>by simp[dc]) _ _ _ _ _ _ Xb aj ρ a w hR _ lI;obtain⟨Fl,aqT,iQ⟩:=V2 E o n vs l2 kN;have vZ:cs.length=n*aE E:=by rw[<- Ct,aqT]
       have mI:∀ j,j<cs.length -> (us j).oneCell'=true:=by
        intro j D;have L:=bY (by rw[Ct];exact D);obtain⟨u',vX,T⟩:=P0 j _ L;have:u'=us j:=by simpa [D]using vX.symm
        rw[<- this];exact T.one
       have Xc:b<w.heap.size:=(jj.1 hh).1;have rQ:Reads w w.heap.size (aE E) (some ⟨b,0,none⟩) n ((List.range cs.length).map us):=by
        refine⟨by simp[vZ],λhn=>⟨b,0,rfl,Xc,λj v O=>?_⟩⟩
        have D:j<cs.length:=by have:=(eo.1 O).1;simpa using this
        have:v=us j:=by simpa [D]using O.symm
        subst this;rw[cell_of_row w b _ cells _ _ hh];simp_all
       have gO:uh w w0.heap.size aD rr l.length E o l2 ((List.range cs.length).map us):=by
        intro i' th j x L;have D:j<aE E:=by have:=(eo.1 L).1;rwa [lH]at this
        obtain⟨y,Z,hw⟩:=iQ i' th j x L;obtain⟨u',vX,T⟩:=P0 _ _ Z;refine⟨u',vX,?_⟩;have e1:(0+(i'*aE E+j)) % aE E=j:=by rw[fT,Nat.add_comm,Nat.add_mul_mod_self_right,Nat.mod_eq_of_lt D]
        have e2:(0+(i'*aE E+j)) / aE E=i':=by rw[fT,Nat.add_comm,Nat.add_mul_div_right _ _ (pQ E),Nat.div_eq_of_lt D,fT]
        simp only[e1,e2]at T;exact T.wk hw
       have Jy:=dR.root rr _ (oa _ hr);generalize C:bu.sl (.sl E (o+2) q l)=x at Jy;cases Jy with
       |aB=>cases C
       |mp=>cases C
       |gh=>cases C
       | sl uu y hJ T=>
        injection C with C;subst C;rw[aqR]at hJ;injection hJ with hJ;subst hJ;obtain⟨v',w',dX,dZ,kg,gG⟩:=dR.apw (ty:=ty) (c:=n) hF gH ht hi hz iU kD nS T rQ (λv O=>by
         obtain⟨j,D⟩:=List.mem_iff_getElem?.1 O;have IX:j<cs.length:=by have:=(eo.1 D).1;simpa using this
         have:v=us j:=by simpa [IX]using D.symm
         rw[this];exact mI j IX) Fl.symm gO IU
        exact⟨w',dX,_,v',dZ,kg.set ⟨gG,by simp[dm,cu]⟩ hd⟩
    ·cases h
   ·cases h
  ·cases h
 ·cases h
def aqU{rr C n:Nat}{D:TC}:cS λX k=>CV (X:=X) N σ d rr C D n k:=λX Y k g=>by
 unfold CV
 repeat' first|rfl|refine dI ?_ ?_|split
def aqV{t ty:TypeId}{x y:A}{k:S -> ah X}(h:Jx P N σ d t x y k=some r):∃ C,k C=some r /\ ∀ aj ρ a w,Rl w0 N aj ρ σ a w -> ∀ u v,RA w w0.heap.size aj ρ x u -> RA w w0.heap.size aj ρ y v ->
  ∃w' aD ρ' z,(Builtin.append_ #[t,t] ty #[u,v]).run P w = .ok z w'/\Rl w0 N aD ρ' C (a.put (some d) z) w':=by
 unfold Jx at h;split at h
 ·rename_i e O ry n pZ;obtain⟨gH,ht,i,hi,iU,kD⟩:=Ae pZ;cases E:((zeroOf P e).any (λz=>Nat.beq z.cells.size (aE O))&&(Nat.blt d N&&Nat.blt n rI))with
  |false=>simp_all
  | true=>
   rw[E,au]at h;rw[aS]at E;obtain⟨z,hz,L⟩:=(Option.any_eq_true _ _).1 E.1;have L:=cK L;have p6:i.zero=some z:=by unfold zeroOf at hz;simpa [hi]using hz
   have T:=E.2;rw[aS]at T;have hd:d<N:=by have:=cX T.1;omega
   have qg:n<rI:=by have:=cX T.2;omega
   split at h
   ·obtain⟨C,U,Y⟩:=adW (w0:=w0) (ty:=ty) gH ht hi p6 iU kD L h
    refine⟨C,U,λaj ρ a w hR u v D Z=>?_⟩
    have D:u = .slice none 0 0:=by cases D.2;rfl
    subst D;obtain⟨b,hb,rfl⟩:=Z;have Xa:ry≠d:=by
     rintro rfl;unfold CV at h;split at h
     ·simp_all
     ·cases h
    have hR0:=hR.new (d:=d) (x:=.sl (.sl O (full O+2) false [])) (.eG (.slice none 0 0)) (.sl _ _ (cu _ _ _) (.eU _ _ _)) (hR.dN d (.inl hd));exact Y _ _ a w hR0 (hR.dN d (.inl hd)) _ _ b (cu _ _ _) ((cU _ _ _ Xa).trans hb) (VA qg)
   ·rename_i rr;cases hL:(Nat.blt rr N || Nat.ble 60000 rr)with
    |false=>simp_all
    | true=>
     rw[hL,au]at h;rw[eR]at hL;have oa:rr<N \/ 60000 <= rr:=hL.imp (λh=>by have:=cX h;omega) (λh=>cX h);obtain⟨C,U,Y⟩:=adW (w0:=w0) (ty:=ty) gH ht hi p6 iU kD L h
     refine⟨C,U,λaj ρ a w hR u v D Z=>?_⟩
     obtain⟨b,hb,rfl⟩:=Z;have cG:ρ rr = .eG u:=by
      have h4:=D.2;simp only[dm]at h4;cases hl:ρ rr with
      |aB b o=>simp_all
      |bX us=>simp_all
      |eG v=>simp_all
     exact Y aj ρ a w hR (hR.dN rr oa) _ _ b cG hb (VA qg)
   ·cases h
 ·cases h
def aqW{t:TypeId}{x y:A}:cS λX k=>Jx (X:=X) P N σ d t x y k:=λX Y k g=>by
 unfold Jx
 repeat' first|rfl|exact aqU _ _ _ _|refine dI ?_ ?_|split
def aqX{t:TypeId}{x y:A}{k:S -> ah X}(h:uD P σ t x y k=some r):∃ dz,k dz=some r /\ ∀ aj ρ a w,Rl w0 N aj ρ σ a w -> ∀ u v,RA w w0.heap.size aj ρ x u -> RA w w0.heap.size aj ρ y v ->
  ∃w' aD,(Instr.storeAt t u v).run P w = .ok () w'/\Rl w0 N aD ρ dz a w':=by
 unfold uD at h;split at h
 ·rename_i n xs j i s rr hn pX;split at h
  ·rename_i hlen;cases Xd:xs.all Lf.live with
   |false=>rw[Xd]at h;cases h
   | true=>
    rw[Xd,au]at h;split at h
    ·rename_i vs τ Xb;split at h
     ·rename_i C o' qn l iS;split at h
      ·rename_i pU;split at h
       ·rename_i hi;split at h
        ·rename_i hj;split at h
         ·rename_i e he
          refine⟨_,h,λaj ρ a w hR u v hu hv=>?_⟩
          obtain⟨ad,rfl,L⟩:=hu;obtain⟨hl,mI⟩:=IJ pX Xd hv;have lI:fh w w0.heap.size aj ρ xs v.cells.toList.toArray:=by simpa using hl
          obtain⟨aD,dR,Ct,P0,_,oa,kK,aIF,_⟩:=Pd (w0:=w0) (N:=N) (λm=>by simp[dc]) _ _ _ _ _ _ Xb aj ρ a w hR _ lI;simp only[addrAt]at L;split at L
          ·rename_i b n0 c0 cG;split at L
           ·rename_i qF;injection L with L;subst L;have Jy:=dR.root rr _ iS;generalize D:bu.sl (.sl C (o'+2) qn l)=x at Jy;cases Jy with
            |aB=>cases D
            |mp=>cases D
            |gh=>cases D
            | sl uu y hJ fU=>
             injection D with D;subst D;rw[cG]at hJ;injection hJ with hJ;subst hJ;cases fU with
             |aF _ _ _ _ _ _ _ _ _ ho=>omega
             |gd=>simp at hi
             |gq=>simp at hi
             | own _ _ _ _ _ _ cap cs us P1 hh hs rN hm hc hr=>
              subst pU;have Xe:v.cells.size=n:=by rw[hl.1,hlen]
              have Cr:i*aE C+aE C <= c0*aE C:=by
               have:(i+1)*aE C <= c0*aE C:=iW _ (by omega);rw[iF]at this;exact this
              have mF:i*aE C+j+v.cells.toList.length <= cs.size:=by rw[mA,Xe,hs];omega
              have T:=O6 w b (i*aE C+j) v.cells.toList;obtain⟨Z,gO,qC⟩:=Is b (tid C) v.cells.toList (i*aE C+j) w cs hh mF;have ue:∀ m,Z[m]?=if m<i*aE C+j then cs[m]? else if m<i*aE C+j+n then v.cells[m-(i*aE C+j)]? else cs[m]?:=by
               intro m;have e2:Z[m]?=(splice cs.toList (i*aE C+j) v.cells.toList)[m]?:=by
                rw[show Z[m]?=Z.toList[m]? by simp,qC];rfl
               rw[e2,xN _ _ _ (by simpa using mF),mA,Xe];simp
              have IB:Z.size=cs.size:=by
               rw[<- mA,qC];have:=ua cs.toList (i*aE C+j) v.cells.toList (by simpa using mF);simp only[splice]at this;simp_all
              have Xc:b<w.heap.size:=(jj.1 hh).1;have hz:w.heap.size <= (w.setCells b (i*aE C+j) v.cells.toList).heap.size:=Nat.le_of_eq T.size.symm;have Xf:∀E,E<w.heap.size -> aD E≠some [rr] -> (w.setCells b (i*aE C+j) v.cells.toList).heap[E]?=w.heap[E]?:=λE _ dH=>T.block E (by rintro rfl;exact dH P1)
              have IK:w.there b (i*aE C+j) v.cells.size:=by
               intro m vW;refine⟨?_,frozen_of_row w b _ cs _ hh⟩;rw[cell_of_row w b _ cs _ _ hh];simp;omega
              have kM:vs.length=n:=by rw[Ct,hlen]
              refine⟨_,aD,VK w b _ t v IK (by rw[Xe];exact hn) mI,dR.uA (ns:=[rr]) (cn:=[]) (fD:=ρ) (dX:=aD) ⟨hz,λE Cy U=>⟨T.block E ?_,rfl⟩,λ_ _=>rfl,λE k U=>(dR.dD E k U).2⟩
               ⟨T.os,T.tape,T.output,hz,λk U hL=>T.block k ?_⟩ (λE k U=>?_) (λr hr=>by cases hr) (λr0 x D=>?_)⟩
              ·rintro rfl;have:=U _ P1;simp[gQ,dS]at this
              ·rintro rfl;rcases(dR.dD k _ P1).1 with h1 | h1
               ·exact absurd U (Nat.not_lt.2 h1)
               ·exact h1 hL
              ·have:=dR.dD E k U;exact⟨this.1,Nat.lt_of_lt_of_le this.2.1 hz,this.2.2⟩
              ·have iZ:r0=rr/\x = .sl (.sl C (o'+2) qn (l.set i e)):=by
                simp only[List.lookup]at D;split at D
                next Cy=>injection D with D;exact⟨by simpa using Cy,D.symm⟩
                ·cases D
               obtain⟨rfl,rfl⟩:=iZ;refine .sl _ _ cG ?_
               refine RV.O7 (u:=us) (us:=λ_ m=>v.cells.getD (m-j) undef) (cs:=cs) (xs:=vs) P1 gO (IB.trans hs) rN hm hi (by rw[kM];exact hj) he (λO h' j' x Y O8=>?_) (λm x Y=>?_)
               ·have rM:j'<aE C:=by have:=(eo.1 Y).1;rwa [lH]at this
                refine⟨?_,(hr O h' j' x Y).under (n:=r0) (.inl (by simp)) hz Xf (λ_ _=>rfl)⟩
                rw[ue];have IC:¬ (¬ O*aE C+j'<i*aE C+j/\O*aE C+j'<i*aE C+j+n):=by
                 rintro⟨h1,h2⟩;rcases Nat.lt_trichotomy O i with dQ|heq|E5
                 ·have:(O+1)*aE C <= i*aE C:=iW _ dQ;rw[iF]at this;omega
                 ·subst heq;exact O8 ⟨rfl,by omega,by omega⟩
                 ·have:(i+1)*aE C <= O*aE C:=iW _ E5;rw[iF]at this;omega
                split
                ·exact hc O h' j' x Y
                ·rw[bQ];exact hc O h' j' x Y
               ·obtain⟨v0,CA,E6⟩:=P0 m x Y;have vW:m<n:=by rw[<- kM];exact(eo.1 Y).1
                have Pn:v.cells[m]?=some v0:=by simpa using CA
                have E7:v.cells.getD (j+m-j) undef=v0:=by rw[show j+m-j=m by omega,iV,Pn];rfl
                show Z[_]?=some (v.cells.getD (j+m-j) undef)/\RV _ _ _ _ _ (v.cells.getD (j+m-j) undef);rw[E7,ue,bQ,bJ];rw[fT]at E6
                refine⟨?_,E6.under (n:=r0) (.inl (by simp)) hz Xf (λ_ _=>rfl)⟩
                rw[show i*aE C+(j+m)-(i*aE C+j)=m by omega];exact Pn
           ·cases L
          ·cases L
         ·cases h
        ·cases h
       ·cases h
      ·cases h
     ·cases h
    ·cases h
  ·cases h
 ·cases h
def aqY{t:TypeId}{x y:A}:cS λX k=>uD (X:=X) P σ t x y k:=λX Y k g=>by
 unfold uD
 repeat' first|rfl|refine dI ?_ ?_|split
end
def aqZ(P:Program)(f:Nat)(F:aa Int->ah Int):Prop:=
 ∀ (w:World) (l:aa (T .u8)) (h:Int) (v:Value),F l=some h->RV w w.heap.size (λ_=>none) [] (.sl .u8 0 false l) v->Hd w (λ_=>none)->Calls P f #[v] w λe w'=>
  ∃b off cells t,e = .returned (.pointer (some ⟨b,off,none⟩))/\Below w.heap.size w w'/\w.heap.size<=b/\w'.heap[b]?=some (.cells cells t (0,0))/\cells[off]?=some v/\cells[off+1]?=some (.int .i64 0)/\cells[off+2]?=some (.int .i64 h)
structure CW where
 a:Nat
 j:Nat
 t:TC
 run:List Pt->Option (Nat×Nat)
def uE(bX:Array Value)(a j:Nat):ah Value:=match bX[a]? with
 |some (.agg us)=>us[j]?
 |some u=>bif Nat.beq j 0 then some u else none
 |none=>none
def P2(P:Program)(f:Nat)(c:CW):Prop:=
 ∀ (args:aa Pt) (p:Nat×Nat),c.run args=some p->∀ (w:World) (bX:Array Value),qc w args bX->Hd w (λ_=>none)->Calls P f bX w λe w'=>
  ∃A n cap,uE bX c.a c.j=some (.slice A n cap)/\p.1<=p.2/\p.2<=n/\e = .returned (sliced A p.1 p.2 cap (aE c.t))/\Below w.heap.size w w'
def adX(σ:S)(args:aa Operand)(a j:Nat):ah Lf:=match args[a]? with
 | some x=>(match aP σ x with
  |.agg cs=>cs[j]?
  |.lf l=>bif Nat.beq j 0 then some l else none
  |_=>none)
 |none=>none
def Jz{X:Type}(N:Nat)(σ:S)(d:Nat)(c:CW)(args:aa Operand)(k:S->ah X):ah X:=
 bif Nat.blt d N then sY σ args λps=>(match c.run ps with
  | some p=>(match adX σ args c.a c.j with
   |some (.v (.sl t g _ l))=>if t=c.t then (bif Nat.blt g 2&&Nat.ble p.1 p.2&&Nat.ble p.2 l.length then k (σ.set d (.lf (.v (.sl t g false ((l.take p.2).drop p.1)))))else none)else none
   |_=>none)
  |none=>none)else none
structure uF where
 run:(X:Type)->Nat->S->List A->(S->A->Option X)->Option X
def FE{α β:Type}(f:(X:Type)->(α->β->ah X)->ah X):Prop:=∀(X Y:Type) (k:α->β->ah X) (g:X->ah Y),(f X k).bind g=f Y λa b=>(k a b).bind g
def FE.oc{α β:Type}{f:(X:Type)->(α->β->ah X)->ah X}(n:FE f){X:Type}{k:α->β->ah X}{r:X}(h:f X k=some r):∃ a b,k a b=some r/\∀ (X:Type) (k:α->β->ah X),f X k=k a b:=by
 obtain⟨⟨a,b⟩,C,D⟩:=cS.oc (f:=λX (k:α×β->ah X)=>f X λa b=>k (a,b)) (λX Y k g=>n X Y _ g) (k:=λp=>k p.1 p.2) h;exact⟨a,b,C,λX k=>D X λp=>k p.1 p.2⟩
def kR(P:Program)(f:Nat)(c:uF):Prop:=(∀ N σ xs,FE λX k=>c.run X N σ xs k)/\
 ∀ [Inhabited Wd] (N:Nat) (σ:S) (xs:aa A) (C:S) (y:A),c.run (S×A) N σ xs (λσ y=>some (σ,y))=some (C,y)->
  ∀ (w0:Wd) (aj:bM) (ρ:Nat->Loc) (a:Act) (w:World) (bX:Array Value),Rl w0 N aj ρ σ a w->bX.size=xs.length->(∀ i,RA w w0.heap.size aj ρ ((xs[i]?).getD .undef) (bX.getD i undef))->
   Calls P f bX w λe w'=>∃v aD ρ',e = .returned v/\Rl w0 N aD ρ' C a w'/\RA w' w0.heap.size aD ρ' y v
inductive qP where
 |p (c:jl)
 |m (c:oV)
 |n (F:List Int->Option Int)
 |v (c:CW)
 |i (c:uF)
 |d (c:oV)
 |q (c:jl)
 |c (c:oV)
def Xg(P:Program)(f:Nat):qP->Prop
 |.p c=>iR P f c
 |.m c=>uy P f c
 |.n F=>aqZ P f F
 |.v c=>P2 P f c
 |.i c=>kR P f c
 |.d c=>uy P f c
 |.q c=>iR P f c
 |.c c=>uy P f c
section
variable {P:Program} {w w':World} {w0:Wd} {B N:Nat} {aj dX aD:bM} {ρ fD ρ':Nat->Loc} {σ:S} {a:Act} {X:Type} {d:Nat} {r:X} {ns cn:aa Nat} {o:Oper}
def adY:∀ (xs:aa Lf),cS λX k=>x7 (X:=X) σ ns xs k
 |[]=>λ_ _ _ _=>rfl
 |x::xs=>λX Y k g=>dI ((Fz.comp λy=>(adY xs).comp (b:=λX k ys=>k (y.gN::ys)) λ_ _ _ _ _=>rfl) X Y k g) rfl
def aq0{x:A}:cS λX k=>wj (X:=X) σ ns x k:=λX Y k g=>by
 unfold wj
 repeat' first|rfl|exact adY _ _ _ _ _|refine dI ?_ ?_|split
def Xh:∀ (ps:aa PK) (xs:aa Operand) (C:aa Mu),cS λX k=>oX (X:=X) σ ns ps xs C k:=λps=>by
 induction ps with
 |nil=>intro xs C X Y k g;cases xs<;>cases C<;>rfl
 | cons p ps D=>
  intro xs C X Y k g;cases xs with
  |nil=>cases p<;>cases C<;>rfl
  | cons x xs=>
   cases p with
   | v b t=>
    refine(aq0 _ _ _ _).trans (bf _ (funext λp=>dI ?_ rfl))
    split
    ·exact D _ _ _ _ _ _
    ·rfl
   | p t E o=>
    cases C with
    |nil=>rfl
    | cons m C=>cases m with
     |sl=>rfl
     | aB=>
      simp only[oX];split
      ·exact D _ _ _ _ _ _
      ·rfl
   | s t E=>
    cases C with
    |nil=>rfl
    | cons m C=>cases m with
     |aB=>rfl
     | sl=>
      simp only[oX];split
      ·exact D _ _ _ _ _ _
      ·rfl
def aq1{C:ah Tmp}{D:gC}:cS λX k=>wm (X:=X) N σ C D k:=λX Y k g=>by
 unfold wm
 repeat' first|rfl|exact PX _ _ _ _|refine dI ?_ ?_|split
def Xi{C:ah Tmp}{c:oV}{args:aa Operand}:cS λX k=>td (X:=X) N σ C c args k:=λX Y k g=>by
 unfold td;split
 ·refine dI ((Xh _ _ _ _ _ _ _).trans (bf _ (funext λx=>?_))) rfl
  split
  ·exact dI (aq1 _ _ _ _) rfl
  ·rfl
 ·rfl
def aq2{f:Nat}{args:Array Operand}{T:Array TypeId}{c:CW}{k:S -> ah X}(ho:o.op = .call { callee:=.value (.func f),args,argTypes:=T })(hd:o.dst=some d)(he:enters P f)(hc:P2 P f c)(h:Jz N σ d c args.toList k=some r):∃ U,k U=some r/\mG P w0 N o σ U:=by
 unfold Jz at h;cases Y:Nat.blt d N with
 |false=>grind
 | true=>
  rw[Y,au]at h;have CI:d<N:=by have:=cX Y;omega
  obtain⟨ps,E,mJ⟩:=adf (w0:=w0) (N:=N) _ _ h;split at E
  ·rename_i p hp;split at E
   ·rename_i t g q l hl;split at E
    ·rename_i od;cases hb:(Nat.blt g 2&&Nat.ble p.1 p.2&&Nat.ble p.2 l.length)with
     |false=>grind
     | true=>
      rw[hb,au]at E;rw[aS,aS]at hb;have Z:g<2:=by have:=cX hb.1.1;omega
      have uG:=cX hb.1.2;have h2l:=cX hb.2
      refine⟨_,E,λa w K Q hR hK=>?_⟩
      obtain⟨aj,ρ,hR⟩:=hR;unfold Oper.wp;rw[Wi w o a f args T ho he,Oper.upon_enter];have CJ:(args.map a.eval)=(args.toList.map a.eval).toArray:=by apply Array.ext';rw[Array.toList_map]
      rw[CJ]
      refine(hc ps p hp w _ (mJ aj ρ a w hR) (w0.on hR.below (λ_ _ h=>by cases h))).mono λe w' uq=>?_
      obtain⟨A,n,cap,C,hle,hn,rfl,O⟩:=uq;have kL:RV w w0.heap.size aj [] (.sl t g q l) (.slice A n cap):=by
       unfold adX at hl;split at hl
       ·rename_i x hx;have Xj:((args.toList.map a.eval).toArray)[c.a]?=some (a.eval x):=by
         rw[List.getElem?_toArray,ff,hx];rfl
        unfold uE at C;rw[Xj]at C;have D:=hR.aP x;split at hl
        next cs gP=>rw[gP]at D;obtain⟨us,lI,JA⟩:=D;rw[lI]at C;obtain⟨u,L,hr⟩:=JA.2 _ _ hl;simp only at C;rw[C]at L;injection L with L;subst L;exact hr.2
        ·rename_i lf xX;rw[xX]at D;cases hj:Nat.beq c.j 0 with
         |false=>grind
         | true=>
          rw[hj]at hl C;injection hl with hl;subst hl;have D:eE w w0.heap.size aj ρ (.v (.sl t g q l)) (a.eval x):=D;have wA:∀ us,a.eval x ≠ .agg us:=by
           intro us e;rw[e]at D;cases D.2
          generalize a.eval x=z at C D wA;cases z<;>first|exact absurd rfl (wA _)|(simp only[au,iX]at C;cases C;exact D.2)|(simp only[au,iX]at C;cases C)
        ·cases hl
       ·cases hl
      obtain⟨Xk,Am,V9⟩:=kL.part (a:=p.1) (h:=p.2) Z uG h2l;subst od;rw[hd];have dR:=hR.grow O (aD:=aj) (λ_ _=>rfl) (λb k hb hk=>absurd (hR.dD b k hk).2.1 (Nat.not_lt.2 hb));refine hK _ _ ⟨aj,ρ,dR.set ⟨by simp[V.aF,Z],?_⟩ CI⟩;exact Xk.mE O.size λb hb=>⟨O.block b hb,rfl⟩
    ·cases E
   ·cases E
  ·cases E
def aq3{c:CW}{args:aa Operand}:cS λX k=>Jz (X:=X) N σ d c args k:=λX Y k g=>by
 unfold Jz
 refine dI ((FC _ _ _ _).trans (bf _ (funext λps=>?_))) rfl
 repeat' first|rfl|refine dI ?_ ?_|split
/-! Calls of functions that are run in the state of their caller. -/
def JB{X:Type}(N:Nat)(σ:S)(C:ah Tmp)(c:uF)(xs:aa A)(k:S->ah X):ah X:=c.run X N σ xs λD y=>iH N D C y k
def aq4(p:Nat×Nat):A:=.aG p.1 p.2
def JC(σ:S):aa Operand->ah (aa (Nat×Nat))
 |[]=>some []
 | x :: xs=>match aP σ x,JC σ xs with
  |.aG r j,some ps=>some ((r,j)::ps)
  |_,_=>none
def aq5(w:World)(o:Oper)(a:Act)(f:Nat)(cl:Operand)(C:Array Value)(args:Array Operand)(E:Array TypeId)(L:o.op = .call { callee:=.value cl,args,argTypes:=E })(O:a.eval cl = .func (.func f) #[] C)(T:enters P f):
  (execOp a.eval o).run P w = .ok (.enter f (args.map a.eval++C)) w:=by
 obtain⟨fn,U,Y,D⟩:=T;have Z:¬ fn.name = "runtime.NumGoroutine":=by simpa using Y
 have h3':¬ fn.body=none:=by intro e;rw[e]at D;cases D
 simp[execOp,L,resolve,O,Deferred.ofValue,invoke,callFunc,Sem.run,U,Z,h3']
def P3:A->ah (Nat×aa A)
 |.fn f cap=>some (f,cap.map aq4)
 |.n8 f cs=>some (f,[.jy cs])
 |_=>none
def aq6{x:A}{f:Nat}{ex:aa A}{u:Value}(h:P3 x=some (f,ex))(T:RA w B aj ρ x u):∃ D:Array Value,u = .func (.func f) #[] D/\D.size=ex.length /\ ∀ (j:Nat) y,ex[j]?=some y -> RA w B aj ρ y (D.getD j undef):=by
 unfold P3 at h;split at h
 ·rename_i f' cap;injection h with h;injection h with E L;subst E L;obtain⟨D,U,Y,Z⟩:=T
  refine⟨D,U,by simp[Y],λj y C=>?_⟩
  rw[ff]at C;cases O:cap[j]? with
  |none=>simp_all
  | some p=>
   rw[O]at C;injection C with C;subst C;obtain⟨b,off,E,L⟩:=Z _ p O;rw[iV,L];exact⟨b,off,E,rfl⟩
 ·injection h with h;injection h with E L;subst E L;obtain⟨pv,e,O⟩:=T
  refine⟨#[pv],e,rfl,λj y C=>?_⟩
  rcases j with _|j
  ·injection C with C;subst C;exact O
  ·cases C
 ·cases h
def adZ{f:Nat}{cl:Operand}{ex:aa A}{args:Array Operand}{Z:Array TypeId}{c:uF}{k:S->ah X}(ho:o.op = .call { callee:=.value cl,args,argTypes:=Z })(vZ:P3 (aP σ cl)=some (f,ex))(he:enters P f)(hc:kR P f c)
  (h:JB N σ o.dst c (args.toList.map (aP σ)++ex) k=some r):∃dz,k dz=some r/\mG P w0 N o σ dz:=by
 unfold JB at h
 haveI:Inhabited Wd:=⟨w0⟩
 obtain⟨qN,y,C,D⟩:=(hc.1 _ _ _).oc h;have Jb:=hc.2 _ _ _ _ _ (D _ _);have step:∀ a w K Q,R w0 N σ a w->(∀ v w' aD ρ',Rl w0 N aD ρ' qN a w'->RA w' w0.heap.size aD ρ' y v->K (a.put o.dst v) w')->o.wp P a w K Q:=by
  intro a w K Q hR E;obtain⟨aj,ρ,hR⟩:=hR;obtain⟨O,hv,hs,kM⟩:=aq6 vZ (hR.aP cl);unfold Oper.wp;rw[aq5 w o a f cl O args Z ho hv he,Oper.upon_enter]
  refine(Jb w0 aj ρ a w _ hR (by simp[hs]) λi=>?_).mono λe w' uq=>?_
  ·by_cases hi:i<args.size
   ·have e1:(args.toList.map (aP σ)++ex)[i]?=some (aP σ args[i]):=by
     rw[List.getElem?_append_left (by simpa using hi),ff,Array.getElem?_toList,Array.getElem?_eq_getElem hi];rfl
    have T:(args.map a.eval++O).getD i undef=a.eval args[i]:=by
     rw[iV,Array.getElem?_append_left (by simpa using hi)];simp[hi]
    rw[e1,T];exact hR.aP _
   ·have e0:(args.toList.map (aP σ)++ex)[i]?=ex[i-args.size]?:=by
     rw[List.getElem?_append_right (by simp;omega)];simp
    rw[e0];cases hp:ex[i-args.size]? with
    |none=>trivial
    | some p=>
     have T:(args.map a.eval++O).getD i undef=O.getD (i-args.size) undef:=by
      rw[iV,Array.getElem?_append_right (by simp;omega),iV];simp
     rw[T];exact kM _ p hp
  ·obtain⟨v,aD,ρ',rfl,L,U⟩:=uq;exact E v w' aD ρ' L U
 unfold iH at C;split at C
 ·rename_i D
  refine⟨qN,C,λa w K Q hR E=>step a w K Q hR λv w' aD ρ' L _=>?_⟩
  rw[D];exact E _ _ ⟨aD,ρ',L⟩
 ·rename_i d D;cases Y:Nat.blt d N with
  |false=>rw[Y]at C;cases C
  | true=>
   rw[Y,au]at C
   refine⟨_,C,λa w K Q hR E=>step a w K Q hR λv w' aD ρ' L U=>?_⟩
   rw[D];exact E _ _ ⟨aD,ρ',L.set U (by have:=cX Y;omega)⟩
def ad0:∀ (xs:aa Operand) (ps:aa (Nat×Nat)),JC σ xs=some ps -> ps.length=xs.length /\ ∀ aj ρ a w,Rl w0 N aj ρ σ a w -> ∀ (j:Nat) p,ps[j]?=some p -> ∃ b off,ρ p.1 = .aB b off/\(xs.map a.eval)[j]?=some (.pointer (some ⟨b,off+p.2,none⟩))
 | [],ps,h=>by
  simp only[JC,iX]at h;simp_all
 | x :: xs,ps,h=>by
  unfold JC at h;split at h
  ·rename_i rr j L O T;injection h with h;subst h;obtain⟨U,Y⟩:=ad0 xs L T
   refine⟨by simp[U],λaj ρ a w hR C p D=>?_⟩
   cases C with
   | zero=>
    simp at D;subst D;have E:=hR.aP x;rw[O]at E;obtain⟨b,off,Z,e2⟩:=E;simp_all
   |succ C =>grind
  ·cases h
end
def A.AG(q s n:Nat):A->A
 |.lf (.own [C])=>bif Nat.beq C q then .view [q] s 0 n else .lf (.own [C])
 |x=>x
def S.AG(σ:S)(p:Nat×Nat×Nat):S:=⟨λk=>(σ.t k).AG p.1 p.2.1 p.2.2,σ.m⟩
def Xl:aa (Nat×Nat×Nat)->S->S
 |[],σ=>σ
 |p::l,σ=>Xl l (σ.AG p)
def Xm(c0 g:Nat):Mu->aa (Nat×Nat×Nat)
 |.sl q (.sl t _ _ l)=>bif Nat.ble 1000000 g&&Nat.blt q c0 then [(q,aE t,l.length)]else []
 |_=>[]
def JD(c0:Nat):aa PK->aa Mu->aa (Nat×Nat×Nat)
 |.v _ _::ps,C=>JD c0 ps C
 |.p _ _ _::ps,_::C=>JD c0 ps C
 |.s _ g::ps,D::C=>Xm c0 g D++JD c0 ps C
 |_,_=>[]
def JE{X:Type}(N:Nat)(σ:S)(C:ah Tmp)(c:oV)(args:aa Operand)(k:S->ah X):ah X:=
 match oh σ c.ps args with
 |some D=>td N σ C c args λE=>k (Xl (JD (jm C) c.ps D) E)
 |none=>none
section
variable {P:Program} {w w':World} {w0:Wd} {B N:Nat} {aj dX aD:bM} {ρ fD ρ':Nat->Loc} {σ:S} {a:Act} {X:Type} {d:Nat} {r:X} {o:Oper}
def Rl.AG{p:Nat×Nat×Nat}{ad:ah Addr}{c:Nat}(h:Rl w0 N aj ρ σ a w)(E:ρ p.1 = .eG (.slice ad p.2.2 c)):Rl w0 N aj ρ (σ.AG p) a w:=by
 refine⟨h.below,h.dD,h.root,λk=>?_,h.size,h.defers,h.fix,h.dN⟩
 have C:=h.tmp k;show RA _ _ _ _ ((σ.t k).AG p.1 p.2.1 p.2.2) _;generalize σ.t k=x at C;unfold A.AG;split
 ·rename_i L;cases hb:Nat.beq L p.1 with
  |false=>exact C
  | true=>
   obtain rfl:=cK hb;have D:=C.2;simp only[dm,E]at D;injection D with D;refine⟨ad,p.2.2,c,by simp[dm,E],fz _,dW _,?_⟩;rw[<- D];cases ad<;>simp[sliced,Addr.add]
 ·exact C
def ad1:∀ (l:aa (Nat×Nat×Nat)) (σ:S),Rl w0 N aj ρ σ a w->(∀ p∈l,∃ A c,ρ p.1 = .eG (.slice A p.2.2 c))->Rl w0 N aj ρ (Xl l σ) a w
 |[],σ,h,_=>h
 | p :: l,σ,h,hl=>by
  obtain⟨A,c,C⟩:=hl p (.head _);exact ad1 l _ (h.AG C) λp C=>hl p (.tail _ C)
def aq7{c0 g:Nat}{D:Mu}{p:Nat×Nat×Nat}(h:p∈Xm c0 g D):∃ q t o C l,D = .sl q (.sl t o C l)/\p=(q,aE t,l.length)/\q<c0:=by
 unfold Xm at h;split at h
 ·rename_i q t o C l;cases hb:(Nat.ble 1000000 g&&Nat.blt q c0)with
  |false=>simp_all
  | true=>
   rw[hb]at h;rw[aS]at hb;exact⟨q,t,o,C,l,rfl,List.mem_singleton.1 h,cX hb.2⟩
 ·cases h
def P4{c0:Nat}{p:Nat×Nat×Nat}:∀ (ps:aa PK) (C:aa Mu),p∈JD c0 ps C -> ∃ q t o D l,Mu.sl q (.sl t o D l)∈C/\p=(q,aE t,l.length)/\q<c0
 |.v _ _::ps,C,h=>P4 ps C h
 |.p _ _ _::ps,O::C,h=>let ⟨q,t,o,D,l,L,E⟩:=P4 ps C h;⟨q,t,o,D,l,.tail _ L,E⟩
 | .s _ g :: ps,O :: C,h=>by
  rcases List.mem_append.1 h with h|h
  ·obtain⟨q,t,o,D,l,rfl,E⟩:=aq7 h;exact⟨q,t,o,D,l,.head _,E⟩
  ·obtain⟨q,t,o,D,l,L,E⟩:=P4 ps C h;exact⟨q,t,o,D,l,.tail _ L,E⟩
def RV.aq8{q:aa Nat}{t:TC}{g:Nat}{C:Bool}{l:aa (T t)}{v:Value}(h:RV w B aj q (.sl t g C l) v):∃ A c,v = .slice A l.length c:=by
 cases h<;>exact⟨_,_,rfl⟩
def aq9{f:Nat}{args:Array Operand}{U:Array TypeId}{c:oV}{k:S->ah X}(Y:o.op = .call { callee:=.value (.func f),args,argTypes:=U })(Z:enters P f)(hc:uy P f c)(h:JE N σ o.dst c args.toList k=some r):∃ E,k E=some r/\mG P w0 N o σ E:=by
 unfold JE at h;split at h
 ·rename_i WV L;obtain⟨qN,P5,cn,h1,D,_,h4,h5⟩:=WS (w0:=w0) Y Z hc h;rw[L]at D;injection D with D;subst D
  refine⟨_,h1,λa w K Q hR hK=>?_⟩
  obtain⟨aj,ρ,hR⟩:=hR
  refine h5 a w K Q aj ρ hR λv w' dX fD wo dR hv _ cG=>hK _ _ ⟨dX,wo,ad1 _ _ dR λp hp=>?_⟩
  obtain⟨q,t,oo,qn,l,O,rfl,hq⟩:=P4 _ _ hp;have kj:=(PF _ _ _ L _ O).1;have T:=hR.root q _ kj;generalize C:bu.sl _=z at T;cases T with
  |aB=>cases C
  |mp=>cases C
  |gh=>cases C
  | sl u y Wh hr=>
   injection C with C;subst C;obtain⟨A,c,rfl⟩:=hr.aq8;exact⟨A,c,(cG q hq).trans ((hv.fC q (h4 _ O)).trans Wh)⟩
 ·cases h
def ara{C:ah Tmp}{c:oV}{args:aa Operand}:cS λX k=>JE (X:=X) N σ C c args k:=λX Y k g=>by
 unfold JE;split
 ·exact Xi _ _ _ _
 ·rfl
end
def bM.un(aj:bM)(q:Nat):bM:=λb=>match aj b with
 |some k=>bif dc q k then none else some k
 |none=>none
def JF{X:Type}(P:Program)(σ:S)(q s i j:Nat)(t:TypeId)(x:A)(k:S->ah X):ah X:=
 match σ.m q with
 |some (.sl (.sl C (o+2) D l))=>bif Nat.beq s (aE C)&&Nat.beq (full C) 0 then qG P (σ.drop q) t (x.drop q) (.lf (.v (.sl C 0 false ((l.take j).drop i)))) k else none
 |_=>none
section
variable {P:Program} {w w':World} {w0:Wd} {B N:Nat} {aj aD:bM} {ρ ρ':Nat->Loc} {σ:S} {a:Act} {X:Type} {d q:Nat} {r:X} {o:Oper} {y:V}
def arb(C:∀ b,aj b≠some []):Rel q aj (aj.un q):=
 ⟨C,λb h=>by simp[bM.un,h],λb k h D=>by simp[bM.un,h,D]⟩
def RV.ice{C:TC}{g:Nat}{Y:Bool}{l:aa (T C)}{A:ah Addr}{n c:Nat}(E:RV w B aj [q] (.sl C (g+2) Y l) (.slice A n c))(hf:full C=0):RV w B (aj.un q) [] (.sl C 0 false l) (.slice A n c)/\n=l.length:=by
 cases E with
 |eU=>exact⟨.eU _ _ _,rfl⟩
 |gd=>grind
 |gq=>grind
 |aF _ _ _ _ _ _ _ _ _ ho=>omega
 | own=>
  rename_i b cs u hl O hc E hs Z hm;have U:∀ (i:Nat) (h:i<l.length) (j:Nat) (x:V),(enc C 0 l[i])[j]?=some x -> (enc C g l[i])[j]?=some x/\x.plain=true:=by
   intro i h j x D;obtain⟨y,L,rfl⟩:=xH C g l[i] j x D;have hp:=O0 C g l[i] y (iq L);cases y with
   | sl t' o' q' l'=>
    have:=cX (show Nat.ble _ _=true from hp);omega
   | nil=>
    have:=Vx C g l[i] _ (iq L);cases this
   |_=>exact⟨L,rfl⟩
  refine⟨.aF _ _ _ _ _ b 0 c u (by omega) (by simp[bM.un,hl,dc]) (jj.1 O).1 (by omega) Z (λi h j x D=>?_) (λi h j x D=>?_),rfl⟩
  ·rw[fT,cell_of_row w b _ cs _ _ O];simp_all
  ·exact(E i h j x (U i h j x D).1).ud (U i h j x D).2
def arc{s i j:Nat}{t:TypeId}{x:A}{k:S -> ah X}(h:JF P σ q s i j t x k=some r):∃ E,k E=some r /\ ∀ aj ρ a w,Rl w0 N aj ρ σ a w -> ∀ u v,RA w w0.heap.size aj ρ x u -> RA w w0.heap.size aj ρ (.view [q] s i j) v ->
  ∃w' aD,(Instr.storeAt t u v).run P w = .ok () w'/\Rl w0 N aD ρ E a w':=by
 unfold JF at h;split at h
 ·rename_i L g qn l hm;cases hb:(Nat.beq s (aE L)&&Nat.beq (full L) 0)with
  |false=>rw[hb]at h;cases h
  | true=>
   rw[hb,au]at h;rw[aS]at hb;obtain rfl:=cK hb.1;have hf:=cK hb.2;obtain⟨E,h1,hs⟩:=acL (w0:=w0) (N:=N) h
   refine⟨E,h1,λaj ρ a w hR u v hu hv=>?_⟩
   have O:Rel q aj (aj.un q):=arb hR.xR;have wu:=hR.rel O (λb k C=>by
    unfold bM.un at C;cases hl:aj b with
    |none=>rw[hl]at C;cases C
    | some T=>
     rw[hl]at C;simp only at C;cases U:dc q T with
     |true=>rw[U]at C;cases C
     | false=>
      rw[U]at C;injection C with C;subst C;exact⟨⟨_,rfl⟩,(hR.dD b T hl).2.2⟩)
   obtain⟨A,n,c,Y,h3,h4,rfl⟩:=hv;have Z:=hR.root q _ hm;generalize D:bu.sl (.sl L (g+2) qn l)=z at Z;cases Z with
   |aB=>cases D
   |mp=>cases D
   |gh=>cases D
   | sl vq y cG hr=>
    injection D with D;subst D;have hvq:vq = .slice A n c:=by
     simp only[dm,cG]at Y;injection Y
    subst hvq;obtain⟨h5,h6⟩:=hr.ice hf;have h7:=(h5.part (by omega) h3 (by omega)).1;obtain⟨w',dZ,kg⟩:=hs _ _ _ _ wu u _ (hu.rel O) (show RA _ _ _ _ (.lf (.v _)) _ from ⟨rfl,h7⟩);exact⟨w',_,dZ,kg⟩
 ·cases h
def ard{q s i j:Nat}{t:TypeId}{x:A}:cS λX k=>JF (X:=X) P σ q s i j t x k:=λX Y k g=>by
 unfold JF
 repeat' first|rfl|exact adP _ _ _ _|refine dI ?_ ?_|split
def FF{X:Type}(P:Program)(σ:S)(t:TypeId)(x lo hi C:A)(k:ah X):ah X:=
 match x,lo,hi,C with
 | .lf (.own q),.lf (.v (.int _ a)),.lf (.v (.int _ b)),.lf (.v (.int _ c))=>(match qD P t with
  | some e=>(match jN P e with
   | some _=>jA σ.m q λy=>(match y with
    |.sl _ _ _ l=>if 0<=a/\a<=b/\b<=c/\c<=(l.length:Int)then k else none
    |_=>none)
   |none=>none)
  |none=>none)
 |_,_,_,_=>none
def arf{t:TypeId}{x lo hi Y:A}{k:ah X}(h:FF P σ t x lo hi Y k=some r):k=some r /\
  ∀aj ρ a w,Rl w0 N aj ρ σ a w -> ∀u L O T,RA w w0.heap.size aj ρ x u -> RA w w0.heap.size aj ρ lo L -> RA w w0.heap.size aj ρ hi O -> RA w w0.heap.size aj ρ Y T -> ∃v,(Instr.sliceAt t u (some L) (some O) (some T)).run P w = .ok v w:=by
 unfold FF at h;split at h
 ·rename_i q kl a kh b km c;split at h
  ·rename_i e U;split at h
   ·rename_i n Z;obtain⟨y0,Wa,C⟩:=sU q _ h;split at C
    ·rename_i tc g qn xs;split at C
     ·rename_i hb
      refine⟨C,λaj ρ ac w hR u L O T hu hl hh hm=>?_⟩
      rw[hl.2.iI,hh.2.iI,hm.2.iI];have gH:P.underlying t=some (.slice e):=by
       unfold qD at U;split at U
       ·grind
       ·cases U
      have iQ:P.elem t=e:=by simp[Program.elem,gH]
      have ad2:P.underlying t=some (.slice (P.elem t)):=by rw[iQ];exact gH
      have hss:(sizeOf (P.elem t)).run P w = .ok n w:=by
       unfold jN at Z;cases hi:P.info? e with
       |none=>grind
       | some i=>
        have:i.size=n:=by simpa [hi]using Z
        simp[sizeOf,typeInfo,iQ,hi,this]
      obtain⟨v0,CA,iZ⟩:=Wa.ok hR.root;have gG:∃ D n c,u = .slice D n c:=by
       have:=hu.1;cases u<;>first|cases this;done|exact⟨_,_,_,rfl⟩
      obtain⟨D,n',c',rfl⟩:=gG;have E:=hu.2;rw[CA]at E;injection E with E;subst E;have hf:RV w 0 (λ_=>none) [] (.sl tc 0 qn xs) (.slice D n' c'):=iZ.gN;obtain⟨_,Am,V9⟩:=RV.part (w:=w) hf (a:=0) (h:=xs.length) (by omega) (by omega) (by omega);refine⟨sliced D a.toNat b.toNat c.toNat n,?_⟩;rw[run_sliceAt_slice w t _ _ _ _ ad2,run_slice_lhm w t D n' c' ad2 kl kh km a b c hb.1 hb.2.1 hb.2.2.1 (by omega),hss];rfl
     ·cases C
    ·cases C
   ·cases h
  ·cases h
 ·cases h
end
section
variable {P:Program} (w:World)
end
section
variable {P:Program} {w w':World} {w0:Wd} {B N:Nat} {aj aD:bM} {ρ ρ':Nat->Loc} {σ:S} {a:Act} {X:Type} {d:Nat} {r:X}
end
def nj(l:aa (Int×Bool))(k:Int):Bool:=match l with
 |[]=>false
 |p::ps=>bif k==p.1 then p.2 else nj ps k
def om(l:aa (Int×Bool))(k:Int)(v:Bool):aa (Int×Bool):=match l with
 |[]=>[(k,v)]
 |p::ps=>bif k==p.1 then (k,v)::ps else p::om ps k v
def FG(P:Program)(t:TypeId):Bool:=match P.underlying t with
 | some (.map k e)=>(match P.underlying k with
  |some (.int .i64)=>true
  |_=>false)&&(match zeroOf P e with
  |some (.bool false)=>true
  |_=>false)
 |_=>false
def Xn{X:Type}(N:Nat)(σ:S)(d:Nat)(k:S->ah X):ah X:=iK N σ d (.mp []) (.pk d rI) k
def CX{X:Type}(P:Program)(σ:S)(t:TypeId)(x i:A)(k:A->ah X):ah X:=
 match x,i with
 | .pk r n,.lf (.v (.int .i64 key))=>bif Nat.beq n rI&&FG P t then (match σ.m r with
  |some (.mp l)=>k (.lf (.v (.bool (nj l key))))
  |_=>none)else none
 |_,_=>none
def CY{X:Type}(P:Program)(σ:S)(t:TypeId)(x i v:A)(k:S->ah X):ah X:=
 match x,i,v with
 | .pk r n,.lf (.v (.int .i64 key)),.lf (.v (.bool b))=>bif Nat.beq n rI&&FG P t then (match σ.m r with
  |some (.mp l)=>k ⟨σ.t,ck σ.m r (some (.mp (om l key b)))⟩
  |_=>none)else none
 |_,_,_=>none
section
variable {P:Program} {w w':World} {w0:Wd} {B N:Nat} {aj aD:bM} {ρ ρ':Nat->Loc} {σ:S} {a:Act} {X:Type} {d:Nat} {r:X} {o:Oper}
def ad3{t:TypeId}(h:FG P t=true):∃ k e i,P.underlying t=some (.map k e)/\P.underlying k=some (.int .i64)/\P.info? e=some i/\i.zero=some (.bool false):=by
 unfold FG at h;split at h
 ·rename_i k e D;rw[aS]at h;obtain⟨E,L⟩:=h;have O:P.underlying k=some (.int .i64):=by
   grind
  have C:zeroOf P e=some (.bool false):=by
   grind
  unfold zeroOf at C;cases hi:P.info? e with
  |none=>simp_all
  |some i =>grind
 ·cases h
def Rl.newObj{D:Obj}{x:bu}{ρ':Nat -> Loc}(h:Rl w0 N aj ρ σ a w)(E:w0.F d=none)(L:∀ r,r≠d -> ρ' r=ρ r)
  (O:eH (w.alloc D) w0.heap.size (ck aj w.heap.size (some [d])) ρ' d x):Rl w0 N (ck aj w.heap.size (some [d])) ρ' ((σ.drop d).root d x) a (w.alloc D):=by
 refine h.Ac E (jz.acS w0 w _ h.below.size) ⟨by simp,λb hb _=>Below.heap_alloc w _ b hb,λb hb=>cU _ _ _ (by omega),λb hb=>(h.dD b [] hb).2.2 rfl⟩ (λb k hb C=>?_) L O
 by_cases e:b=w.heap.size
 ·subst e;rw[cu]at C;injection C with C;subst C;simp_all
 ·rw[cU _ _ _ e]at C;have:=(h.dD b k C).2.1;omega
def arh{t:TypeId}{k:S -> ah X}(h:Xn N σ d k=some r):∃ C,k C=some r /\ ∀ aj ρ a w,Rl w0 N aj ρ σ a w -> ∃ w' aD ρ' v,(Instr.makeMap t none).run P w = .ok v w'/\Rl w0 N aD ρ' C (a.put (some d) v) w':=by
 obtain⟨D,h⟩:=pY h
 refine⟨_,h,λaj ρ a w hR=>?_⟩
 have E:(Instr.makeMap t none).run P w = .ok _ _:=rfl
 refine⟨_,ck aj _ _,ck ρ d _,_,E,(hR.newObj (hR.dN d (.inl D)) (λr L=>cU _ _ _ L) ?_).set ⟨w.heap.size,cu _ _ _,(VB _).symm⟩ D⟩
 exact .mp _ 0 #[] [] (cu _ _ _) (cu _ _ _) (heap_alloc_new w _) rfl
def ari:cS λX k=>Xn (X:=X) N σ d k:=PW
def arj{t:TypeId}{x i:A}:cS λX k=>CX (X:=X) P σ t x i k:=λX Y k g=>by
 unfold CX
 repeat' first|rfl|refine dI ?_ ?_|split
def ark{t:TypeId}{x i v:A}:cS λX k=>CY (X:=X) P σ t x i v k:=λX Y k g=>by
 unfold CY
 repeat' first|rfl|refine dI ?_ ?_|split
def CZ(l:aa (Int×Bool)):aa (Value×Value):=l.map λp=>(.int .i64 p.1,.bool p.2)
def Xo:∀ (C:aa MapEntry) (l:aa (Int×Bool)) (k:Int) (n:Nat),C.map (λe=>(e.key,e.val))=CZ l ->
  (Instr.findNow (.int .i64) (.int .i64 k) C n=some none/\nj l k=false /\ ∀v,om l k v=l++[(k,v)]) \/
  (∃i b,Instr.findNow (.int .i64) (.int .i64 k) C n=some (some (n+i,.bool b))/\nj l k=b /\ ∃h:i<C.length,C[i].key = .int .i64 k /\ ∀v,CZ (om l k v)=(C.modify i λe=>{ e with key:=.int .i64 k,val:=.bool v }).map (λe=>(e.key,e.val)))
 |[],[],k,n,_=>.inl ⟨rfl,rfl,λv=>rfl⟩
 |[],_::_,k,n,h=>by cases h
 |_::_,[],k,n,h=>by cases h
 | e :: C,p :: l,k,n,h=>by
  have h:(e.key,e.val) :: C.map (λe=>(e.key,e.val))=(.int .i64 p.1,.bool p.2) :: CZ l:=h;injection h with Y O;injection Y with T Z;have D:Instr.sameNow (.int .i64) (.int .i64 k) e.key=some (k==p.1):=by
   rw[T];simp[Instr.sameNow]
  cases hb:(k==p.1)with
  | true=>
   have hkp:k=p.1:=by simpa using hb
   refine .inr ⟨0,p.2,?_,by simp only[nj,hb,au],by simp,by simp[T,hkp],λv=>?_⟩
   ·simp only[Instr.findNow,D,hb,Z];rfl
   ·simp only[om,hb];simp;show _::CZ l=_;rw[O]
  | false=>
   rcases Xo C l k (n+1) O with ⟨U,E,L⟩|⟨i,b,U,E,hi,L,a4⟩
   ·refine .inl ⟨?_,by simp[nj,hb,aq,E],λv=>by simp only[om,hb,L];rfl⟩
    simp[Instr.findNow,D,hb];exact U
   ·refine .inr ⟨i+1,b,?_,by simp only[nj,hb,aq,E],by simpa using hi,by simpa using L,λv=>?_⟩
    ·simp[Instr.findNow,D,hb]
     grind
    ·simp only[om,hb];simp;show _ :: CZ _=_
     grind
def P6{kt:TypeId}{k:Int}{C:aa MapEntry}{z:ah (Nat×Value)}(D:P.underlying kt=some (.int .i64))(h:Instr.findNow (.int .i64) (.int .i64 k) C 0=some z):(Instr.findKey kt (.int .i64 k) C).run P w = .ok z w:=by
 unfold Instr.findKey;simp only[gF,ir D,mX,h];rfl
def arl{t:TypeId}{x i:A}{k:A -> ah X}(h:CX P σ t x i k=some r):∃ v,k v=some r/\nc (λX k=>CX (X:=X) P σ t x i k) v /\ ∀ aj ρ a w,Rl w0 N aj ρ σ a w -> ∀ u z,RA w w0.heap.size aj ρ x u -> RA w w0.heap.size aj ρ i z ->
  ∃y,(Instr.lookup t u z false).run P w = .ok y w/\RA w w0.heap.size aj ρ v y:=by
 unfold CX at h;split at h
 ·rename_i rr n key;cases hb:(Nat.beq n rI&&FG P t)with
  |false=>grind
  | true=>
   rw[hb,au]at h;split at h
   ·rename_i l O
    refine⟨_,h,λX k=>by simp only[CX,hb,au,O],λaj ρ a w hR u z Z D=>?_⟩
    rw[aS]at hb;obtain⟨kt,et,ti,ht,E,hi,hz0⟩:=ad3 hb.2;have hn:=cK hb.1;subst hn;obtain⟨b,cG,rfl⟩:=Z;have D:z = .int .i64 key:=by
     have h2:=D.2;cases h2;rfl
    subst D;have T:=hR.root rr _ O;generalize C:bu.mp l=y at T;cases T with
    |aB=>cases C
    |sl=>cases C
    |gh=>cases C
    | mp b' c es l' U hl hh P7=>
     injection C with C;subst C;rw[cG]at U;injection U with e1 _;subst e1;refine⟨.bool (nj l key),?_,rfl,.bool _ _⟩;rw[VB];unfold Instr.lookup;simp only[gF,ir ht,mX,MapKept.run_getObj_map hh,Sem.run_pure];rw[MapKept.run_checkKey (k:=.int .i64 key) E rfl];simp only[mX];rcases Xo es.toList l key 0 P7 with ⟨L,Y,_⟩|⟨i,v,L,Y,_⟩
     ·rw[P6 E L];have Ff:(zeroValue et).run P w = .ok (.bool false) w:=by simp[zeroValue,typeInfo,hi,hz0]
      simp_all
     ·rw[P6 E L];simp only[ Y,gF];rfl
   ·cases h
 ·cases h
def arn{t:TypeId}{x i v:A}{k:S -> ah X}(h:CY P σ t x i v k=some r):∃ T,k T=some r/\nc (λX k=>CY (X:=X) P σ t x i v k) T /\ ∀ aj ρ a w,Rl w0 N aj ρ σ a w -> ∀ u z y,RA w w0.heap.size aj ρ x u -> RA w w0.heap.size aj ρ i z -> RA w w0.heap.size aj ρ v y ->
  ∃w',(Instr.mapUpdate t u z y).run P w = .ok () w'/\Rl w0 N aj ρ T a w':=by
 unfold CY at h;split at h
 ·rename_i rr n key U;cases hb:(Nat.beq n rI&&FG P t)with
  |false=>grind
  | true=>
   rw[hb,au]at h;split at h
   ·rename_i l hm
    refine⟨_,h,λX k=>by simp only[CY,hb,au,hm],λaj ρ a w hR u z y hu Y C=>?_⟩
    rw[aS]at hb;obtain⟨kt,et,ti,ht,Z,hi,hz0⟩:=ad3 hb.2;have hn:=cK hb.1;subst hn;obtain⟨b,cG,rfl⟩:=hu;have Y:z = .int .i64 key:=by
     have h2:=Y.2;cases h2;rfl
    subst Y;have C:y = .bool U:=by
     have h2:=C.2;cases h2;rfl
    subst C;have fo:=hR.root rr _ hm;generalize D:bu.mp l=y at fo;cases fo with
    |aB=>cases D
    |sl=>cases D
    |gh=>cases D
    | mp b' c es l' hJ hl O P7=>
     injection D with D;subst D;rw[cG]at hJ;injection hJ with e1 _;subst e1;have Xc:b<w.heap.size:=(jj.1 O).1;have wq:∀ (E:Array MapEntry) (L:Nat),E.toList.map (λe=>(e.key,e.val))=CZ (om l key U) -> Rl w0 N aj ρ ⟨σ.t,ck σ.m rr (some (.mp (om l key U)))⟩ a { w with heap:=w.heap.setIfInBounds b (.map E L) }:=by
      intro E L aro;have hW:vR w { w with heap:=w.heap.setIfInBounds b (.map E L) } b:=by
       refine⟨by simp,rfl,rfl,rfl,λk hk=>?_⟩
       show _[k]?=_;rw[Array.getElem?_setIfInBounds_ne (Ne.symm hk)]
      have hC:rL w { w with heap:=w.heap.setIfInBounds b (.map E L) } aj ρ:=by
       intro k ad v ha hv gG;obtain⟨j',i',s',q,rfl,hq,_,_,hh'⟩:=Co k ad ha;have dH:ad.block≠b:=by
        grind
       exact(World.cell?_of_block (hW.block _ dH)).trans hv
      refine hR.wrote hW hl hC λr' y C=>?_
      by_cases oa:r'=rr
      ·subst oa;rw[cu]at C;injection C with C;subst C;refine .mp b L E _ cG hl ?_ aro;simp_all
      ·rw[cU _ _ _ oa]at C;exact(hR.root r' y C).wrote hW hl hC (acD oa)
     rw[VB];unfold Instr.mapUpdate;simp only[gF,ir ht,mX,MapKept.run_getObj_map O,Sem.run_pure];rw[MapKept.run_checkKey (k:=.int .i64 key) Z rfl];simp only[mX];rcases Xo es.toList l key 0 P7 with ⟨a1,a2,a3⟩|⟨i,v,a1,a2,th,a3,a4⟩
     ·rw[P6 Z a1];simp;rw[MapKept.run_setObj_map _ O];refine⟨_,rfl,wq _ _ ?_⟩;rw[a3];simp only[Array.toList_push,List.map_append,P7,CZ];rfl
     ·rw[P6 Z a1];simp only[mX,fT];have W3:(es[i]?.map (·.key)).getD (.int .i64 key) = .int .i64 key:=by
       grind
      rw[W3];have kP:(Instr.keyThatStays (.int .i64 key) (.int .i64 key)).run P w = .ok (.int .i64 key) w:=by
       unfold Instr.keyThatStays;simp[Instr.sameBits]
      simp only[gF];rw[kP];simp only[mX];rw[MapKept.run_setObj_map _ O];refine⟨_,rfl,wq _ _ ?_⟩;rw[a4];simp
   ·cases h
 ·cases h
end
def P8(t:TypeId)(d:Nat)(x:Operand):Bool:=[(89,26,22)].any λ(p:Nat×Nat×Nat)=>Nat.beq p.1 t&&Nat.beq p.2.1 d&&(match x with
 |.tmp n=>Nat.beq n p.2.2 ||Nat.beq p.2.2 1000000
 |_=>false)
def C0(C:ah Tmp)(t:TypeId)(x:Operand):Bool:=match C with
 |some d=>P8 t d x
 |none=>false
def JG{X:Type}(P:Program)(N:Nat)(σ:S)(d:Nat)(t:TypeId)(x y:A)(k:S->ah X):ah X:=
 match vY P t with
 | some (e,C)=>bif Nat.beq (full C) 0&&(zeroOf P e).any (λz=>Nat.beq z.cells.size (aE C))then sV σ y λD=>(match D.Pg C with
  |none=>none
  | some l2=>match x with
   | .lf (.own [r])=>(match σ.m r with
    |some (.sl (.sl E (o+2) true l))=>if h:E=C then (bif !ke l2&&bI (l.length+l2.length)then iK N σ d (.sl (.sl C (o+2) false ((h ▸ l)++l2))) (.lf (.own [d])) k else none)else none
    |_=>none)
   |_=>none)else none
 |none=>none
section
variable {P:Program} {w w':World} {w0:Wd} {B N:Nat} {aj aD:bM} {ρ ρ':Nat->Loc} {σ:S} {a:Act} {X:Type} {d:Nat} {r:X}
def Rl.arp{t e ty:TypeId}{C:TC}{i:TypeInfo}{z:Value}{rr o g:Nat}{qn:Bool}{l l2:aa (T C)}{u v:Value}{q':aa Nat}{Bx:Nat}{VX:bM}(h:Rl w0 N aj ρ σ a w)(hF:w0.F d=none)(gH:P.underlying t=some (.slice e))(ht:tid C=e)(hi:P.info? e=some i)(hz:i.zero=some z)
  (Z:i.size=aE C) (kD:i.bytes <= 65536) (nS:z.cells.size=aE C) (hf:full C=0) (hd:RV w w0.heap.size aj [rr] (.sl C (o+2) true l) u) (hs:RV w Bx VX q' (.sl C g qn l2) v) (dH:l2≠[]) (hlen:l.length+l2.length<1073741824):
  ∃E w' aD,(Builtin.append_ #[t,t] ty #[u,v]).run P w = .ok E w'/\Rl w0 N aD (ck ρ d (.eG E)) ((σ.drop d).root d (.sl (.sl C (o+2) false (l++l2)))) a w'/\n7 E=true:=by
 subst ht;obtain⟨xs,L,Pu,IP,iQ⟩:=hd.acV hf (B':=0) (λb _=>fz b);obtain⟨A,c,news,rfl,rQ,mI,IQ⟩:=hs.reads hf;have gO:(l.length+l2.length)*i.bytes <= 140737488355328:=by
  have h1:(l.length+l2.length)*i.bytes <= 1073741824*65536:=Nat.mul_le_mul (by omega) kD;omega
 have ug:0<l2.length:=List.length_pos_iff.2 dH;obtain⟨E,w',dZ,ad4,hgr,kO⟩:=Vl (P:=P) w 0 t ty (tid C) i z (aE C) i.bytes gH hi hz Z rfl nS (pQ C) u l.length xs L _ A l2.length c news rQ mI (by unfold maxLen;omega) gO (fz _);have IS:(l++l2).length=l.length+l2.length:=pM;have hex:∃ b,u = .slice (some ⟨b,0,none⟩) l.length l.length:=by
  cases hd with
  |aF _ _ _ _ _ _ _ _ _ ho=>omega
  |gq _ _ _ _ _ ho=>omega
  |own _ _ _ _ _ b cap cs us hl hh hs hn hm hc hr=>exact⟨b,by rw[hm.2 rfl]⟩
 obtain⟨b,rfl⟩:=hex;obtain⟨O,U,rfl,_,gP⟩:=rQ.2 ug;have arq:∀ j x,news[j]?=some x -> w.cell? ((⟨O,U,none⟩:Addr).add j)=some x:=by
  intro j x hx;have OZ:(⟨O,U,none⟩:Addr).add j=⟨O,U+j,none⟩:=by unfold Addr.add;split<;>simp_all
  grind
 have ad5:=run_append_grow (P:=P) w t ty (tid C) i z gH hi hz ⟨b,0,none⟩ l.length l.length xs (by rw[Z];exact L.1) (L.cells (g:=b) rfl) ⟨O,U,none⟩ l2.length c news (by rw[Z];exact rQ.1) arq (by omega) (by omega) (growslice_fits (by omega) gO);rw[dZ]at ad5;injection ad5 with e1 e2;have hold:∀ k,k<w.heap.size -> w'.heap[k]?=w.heap[k]?:=by
  intro k D;rw[e2];exact heap_alloc_old _ _ D
 have hvb:E.ownBlock=some w.heap.size:=by rw[e1];rfl
 have dQ:w.heap.size<w'.heap.size:=by rw[e2];simp
 rw[<- IS]at ad4;have Cz:=iQ.append IQ L.1;have gG:n7 E=true:=by rw[e1];rfl
 have Y:Below 0 w w':=(Below.refl 0 w).grown hgr (fz _) (λ_ _=>fz _);have sX:jz w0 w w':=⟨Y.os,Y.tape,Y.output,Y.size,λk D hL=>hold k (Nat.lt_of_lt_of_le D h.below.size)⟩
 refine⟨E,w',ck aj w.heap.size (some [d]),dZ,h.Ac hF sX ⟨hgr.size,λb hb _=>hold b hb,λb hb=>cU _ _ _ (by omega),λb hb=>(h.dD b [] hb).2.2 rfl⟩ (λb k hb D=>?_) (λr hr=>cU _ _ _ hr) (.sl E _ (cu _ _ _) (VW ad4 Cz (λb hb=>?_))),gG⟩
 ·by_cases e:b=w.heap.size
  ·subst e;rw[cu]at D;injection D with D
   grind
  ·rw[cU _ _ _ e]at D;have:=(h.dD b k D).2.1;omega
 ·rw[hvb]at hb;injection hb with hb;subst hb;exact cu _ _ _
def ars{t ty:TypeId}{x y:A}{k:S -> ah X}(h:JG P N σ d t x y k=some r):∃ U,k U=some r /\ ∀ aj ρ a w,Rl w0 N aj ρ σ a w -> ∀ u v,RA w w0.heap.size aj ρ x u -> RA w w0.heap.size aj ρ y v ->
  ∃w' aD ρ' z,(Builtin.append_ #[t,t] ty #[u,v]).run P w = .ok z w'/\Rl w0 N aD ρ' U (a.put (some d) z) w':=by
 unfold JG at h;split at h
 ·rename_i e Y pZ;obtain⟨gH,ht,i,hi,iU,kD⟩:=Ae pZ;cases E:(Nat.beq (full Y) 0&&(zeroOf P e).any (λz=>Nat.beq z.cells.size (aE Y)))with
  |false=>grind
  | true=>
   rw[E,au]at h;rw[aS]at E;have hf:=cK E.1;obtain⟨z,Z,O⟩:=(Option.any_eq_true _ _).1 E.2;have O:=cK O;have p6:i.zero=some z:=by unfold zeroOf at Z;simpa [hi]using Z
   obtain⟨yv,Pm,C⟩:=acW (w0:=w0) (N:=N) h;clear h;split at C
   ·cases C
   ·rename_i l2 kN;split at C
    ·rename_i rr;split at C
     ·rename_i t' o l hm;split at C
      ·rename_i od;subst od;cases L:(!ke l2&&bI (l.length+l2.length))with
       |false=>grind
       | true=>
        rw[L,au]at C;rw[aS]at L;have dH:l2≠[]:=by rintro rfl;cases L.1
        have IU:l.length+l2.length<1073741824:=by simpa [bI]using L.2
        obtain⟨hd,h3⟩:=pY C
        refine⟨_,h3,λaj ρ a w hR u v hu hv=>?_⟩
        obtain⟨q',_,_,T⟩:=Pm aj ρ a w hR v hv;obtain⟨g,qn,T⟩:=VZ kN T;have fo:=hR.root rr _ hm;generalize D:bu.sl (.sl t' (o+2) true l)=x at fo;cases fo with
        |aB=>cases D
        |mp=>cases D
        |gh=>cases D
        | sl uu y cG hr=>
         injection D with D;subst D;have IM:uu=u:=by
          have h4:=hu.2;simp only[dm,cG]at h4;simp_all
         subst IM;obtain⟨v',w',aD,dZ,dR,gG⟩:=hR.arp (ty:=ty) (d:=d) (hR.dN d (.inl hd)) gH ht hi p6 iU kD O hf hr T dH IU;exact⟨w',aD,_,v',dZ,dR.set ⟨gG,by simp[dm,cu]⟩ hd⟩
      ·cases C
     ·cases C
    ·cases C
 ·cases h
def art{t:TypeId}{x y:A}:cS λX k=>JG (X:=X) P N σ d t x y k:=λX Y k g=>by
 unfold JG;split
 ·refine dI ((W4 _ _ _ _).trans (bf _ (funext λC=>?_))) rfl
  repeat' first|rfl|exact PW _ _ _ _|refine dI ?_ ?_|split
 ·rfl
def JH{X:Type}(P:Program)(N:Nat)(σ:S)(d:Nat)(t:TypeId)(x y:A)(k:S->ah X):ah X:=
 match x with
 |.view q s i j=>IV P N σ d t (.view q s i j) y k
 |x=>JG P N σ d t x y k
def aru{t ty:TypeId}{x y:A}{k:S->ah X}(h:JH P N σ d t x y k=some r):∃ C,k C=some r/\∀ aj ρ a w,Rl w0 N aj ρ σ a w->∀ u v,RA w w0.heap.size aj ρ x u->RA w w0.heap.size aj ρ y v->
  ∃w' aD ρ' z,(Builtin.append_ #[t,t] ty #[u,v]).run P w = .ok z w'/\Rl w0 N aD ρ' C (a.put (some d) z) w':=by
 unfold JH at h;split at h
 ·exact apn h
 ·exact ars h
def arv{t:TypeId}{x y:A}:cS λX k=>JH (X:=X) P N σ d t x y k:=λX Y k g=>by
 unfold JH;split
 ·exact apo _ _ _ _
 ·exact art _ _ _ _
end
abbrev eX:=Nat->ah qP
def gu(P:Program)(Φ:eX):Prop:=∀f c,Φ f=some c->enters P f/\Xg P f c
def hU{X:Type}(o:Oper)(k:Nat->ah X):ah X:=
 match o.dst with
 |some d=>k d
 |none=>none
def gv:Op->Bool
 |.move _|.assign _|.pick .. |.build .. |.load .. |.binOp .. |.unOp .. |.convert .. |.fieldAddr .. |.field .. |.indexAddr .. |.index .. |.extract .. |.nilCheck _=>true
 |.call ⟨.builtin .len,_,_⟩|.call ⟨.builtin .max,_,_⟩|.call ⟨.builtin .min,_,_⟩=>true
 |.slice _ _ _ _ none=>true
 |_=>false
def nq{X:Type}(P:Program)(σ:S)(C:Op)(k:A->ah X):ah X:=
 match C with
 |.move x=>k (aP σ x)
 |.assign x=>k (aP σ x)
 | .pick c x y=>(match aP σ c with
  |.lf (.v (.bool b))=>bif b then k (aP σ x)else k (aP σ y)
  |_=>none)
 |.build t parts=>Fi P σ t parts.toList k
 |.load t x=>oO P σ t (aP σ x) k
 |.binOp C t x y _=>Al P σ C t (aP σ x) (aP σ y) k
 |.unOp C _ x=>vK (aP σ x) λa=>IE C a λz=>k (.lf (.v z))
 |.convert s d x=>Ai P σ s d (aP σ x) k
 |.fieldAddr s x f=>Fb P s (aP σ x) f k
 |.field s x f=>I1 P s (aP σ x) f k
 |.indexAddr t x i=>Aa P σ t (aP σ x) (aP σ i) k
 |.index t x i=>I2 P t (aP σ x) (aP σ i) k
 |.extract x i=>Cv (aP σ x) i k
 |.nilCheck x=>PZ (aP σ x) k
 |.call ⟨.builtin .len,⟨[x]⟩,⟨[t]⟩⟩=>Cu P σ t (aP σ x) k
 |.call ⟨.builtin .max,⟨[x,y]⟩,⟨[_,_]⟩⟩=>Fj true (aP σ x) (aP σ y) k
 |.call ⟨.builtin .min,⟨[x,y]⟩,⟨[_,_]⟩⟩=>Fj false (aP σ x) (aP σ y) k
 |.slice t x lo hi none=>An P σ t (aP σ x) (lo.map (aP σ)) (hi.map (aP σ)) k
 |_=>none
def jb{X:Type}(P:Program)(N:Nat)(Φ:eX)(σ:S)(o:Oper)(k:S->ah X):ah X:=
 match o.op with
 |.alloc e=>hU o λd=>rP P N σ d e k
 |.box e x=>hU o λd=>AF N σ d (aP σ x) k
 |.buildSlice t len parts=>hU o λd=>bif qO t then ye P N σ d t len parts.toList k else Ah P N σ d t len parts.toList k
 | .store t x y=>(match o.dst with
  |none=>bif yf (aP σ x) (aP σ y)then uD P σ t (aP σ x) (aP σ y) k else qG P σ t (aP σ x) (aP σ y) k
  |some _=>none)
 |.makeSlice t l c=>hU o λd=>Ad P N σ d t (aP σ l) (aP σ c) k
 | .call ⟨.value (.func f),args,_⟩=>(match Φ f with
  |some (.p c)=>hU o λd=>apM N σ d c args.toList k
  |some (.m c)=>td N σ o.dst c args.toList k
  |some (.v c)=>hU o λd=>Jz N σ d c args.toList k
  |some (.n F)=>none
  |some (.i c)=>JB N σ o.dst c (args.toList.map (aP σ)++[]) k
  |some (.d c)=>Jv N σ o.dst c args.toList k
  |some (.q c)=>hU o λd=>apL N σ d c args.toList k
  |some (.c c)=>JE N σ o.dst c args.toList k
  |none=>none)
 |.call ⟨.builtin .append,⟨[x,y]⟩,⟨[t,C]⟩⟩=>bif Nat.beq t C then hU o λd=>bif qO t then Jx P N σ d t (aP σ x) (aP σ y) k else bif P8 t d x then JH P N σ d t (aP σ x) (aP σ y) k else uf P N σ d t (aP σ x) (aP σ y) k else none
 |.makeMap _ none=>hU o λd=>Xn N σ d k
 |.lookup t x i false=>CX P σ t (aP σ x) (aP σ i) λv=>iH N σ o.dst v k
 | .mapUpdate t x i v=>(match o.dst with
  |none=>CY P σ t (aP σ x) (aP σ i) (aP σ v) k
  |some _=>none)
 | .call ⟨.value (.tmp t),args,_⟩=>(match P3 (aP σ (.tmp t))with
  | some (f,ex)=>(match Φ f with
   |some (.i c)=>JB N σ o.dst c (args.toList.map (aP σ)++ex) k
   |_=>none)
  |none=>none)
 | .makeFunc (.func f) ⟨[]⟩ D=>(match JC σ D.toList with
  |some ps=>iH N σ o.dst (.fn f ps) k
  |none=>none)
 |.call ⟨.builtin .clear,⟨[x]⟩,⟨[t]⟩⟩=>IW P σ t (aP σ x) λE=>iH N E o.dst .undef k
 |_=>none
def eA{X:Type}(P:Program)(N:Nat)(Φ:eX)(σ:S)(o:Oper)(k:S->ah X):ah X:=
 bif gv o.op then nq P σ o.op λv=>iH N σ o.dst v k else jb P N Φ σ o k
def JI{X:Type}(P:Program)(N:Nat)(Φ:eX)(σ:S)(o:Oper)(k:S->ah X):ah X:=
 match o.op,o.dst with
 | .store t x y,none=>(match aP σ y with
  |.view [q] s i j=>JF P σ q s i j t (aP σ x) k
  |_=>eA P N Φ σ o k)
 |.slice t x (some lo) (some hi) (some C),some d=>FF P σ t (aP σ x) (aP σ lo) (aP σ hi) (aP σ C) (bif Nat.blt d N then k (σ.set d .undef)else none)
 |_,_=>eA P N Φ σ o k
def gw(σ:S)(ops:Array Oper)(o:Oper):ah Bool:=
 match o.guard with
 |none=>some true
 | some (j,want)=>match (ops[j]?).bind (·.dst)with
  | some t=>(match σ.t t with
   |.lf (.v (.bool b))=>some (b==want)
   |.skip=>some false
   |_=>none)
  |none=>none
def JJ(ops:Array Oper)(j:Nat):Bool:=ops.toList.any λo=>match o.guard with
 |some (i,_)=>Nat.beq i j
 |none=>false
def tj{X:Type}(σ:S)(C:ah Tmp)(g:Bool)(k:S->ah X):ah X:=
 bif g then (match C with
  | some d=>(match σ.t d with
   |.lf (.v (.bool b))=>bif b then k (σ.set d (.lf (.v (.bool true))))else k (σ.set d (.lf (.v (.bool false))))
   |_=>k σ)
  |none=>k σ)else k σ
def C1{X:Type}(P:Program)(N:Nat)(Φ:eX)(ops:Array Oper):Nat->aa Oper->S->(S->ah X)->ah X
 |_,[],σ,k=>k σ
 | j,o :: rest,σ,k=>match gw σ ops o with
  |some true=>JI P N Φ σ o λC=>tj C o.dst (JJ ops j) λD=>C1 P N Φ ops (j+1) rest D k
  |some false=>iH N σ o.dst .skip λC=>C1 P N Φ ops (j+1) rest C k
  |none=>none
/-! Regions whose order is open: what is listed is a set of bits. -/
def dU{X:Type}(P:Program)(N:Nat)(Φ:eX)(ops:Array Oper)(σ:S)(o:Oper)(k:S->ah X):ah X:=
 match gw σ ops o with
 |some true=>eA P N Φ σ o k
 |some false=>iH N σ o.dst .skip k
 |none=>none
def mM(ops:Array Oper)(L j:Nat):Bool:=!L.testBit j&&(match ops[j]? with
 |some o=>o.after.toList.all λe=>!Region.binds .any e ||L.testBit e.on
 |none=>false)
def JK(ops:Array Oper)(i W j:Nat):Bool:=(match ops[j]? with
 |some o=>o.after.toList.any λe=>Region.binds .any e&&(Nat.beq e.on i ||W.testBit e.on)
 |none=>false)
def waits(ops:Array Oper)(i:Nat):Nat->Nat->Nat->Nat
 |0,_,W=>W
 |n+1,j,W=>waits ops i n (j+1) (bif JK ops i W j then W |||2 ^ j else W)
def gi(o:Oper)(n:Nat):Bool:=match o.dst with
 | some d=>(match o.op with
  |.alloc _|.box .. |.buildSlice .. |.makeSlice ..=>Nat.beq n d
  |.call ⟨.value (.func _),_,_⟩=>Nat.ble (1000000000100000+1000*d) n
  |.call ⟨.builtin .append,_,_⟩=>Nat.beq n d
  |_=>false)
 |none=>false
def P9(Φ:eX)(C:Op):Bool:=gv C || (match C with
 |.alloc _|.box .. |.buildSlice .. |.makeSlice ..=>true
 | .call ⟨.value (.func f),_,_⟩=>(match Φ f with
  |some (.p _)=>true
  |some (.q _)=>true
  |_=>false)
 |_=>false)
def ko(g:Oper->Bool)(ops:Array Oper)(i L W:Nat):Nat->Nat->Bool
 |0,_=>false
 | f+1,j=>(!(Nat.beq j i || L.testBit j || W.testBit j)&&(match ops[j]? with
  |some C=>g C
  |none=>false)) ||ko g ops i L W f (j+1)
def JL(g:Oper->Bool)(ops:Array Oper)(C:Oper)(i L W:Nat):Nat->Nat->Bool
 |0,_=>true
 | n+1,j=>(Nat.beq j i || L.testBit j || (bif W.testBit j then JK ops i W j else (match ops[j]? with
  |some D=>g D&&C.apart ops D
  |none=>true)))&&JL g ops C i L W n (j+1)
def ad6(ok:Nat->Nat->Bool)(σ:S):aa PK->aa Operand->Bool
 | .p _ _ _ :: ps,.tmp t :: xs=>(match σ.t t with
  |.aG r _=>ok t r
  |_=>false)&&ad6 ok σ ps xs
 |.v _ _::ps,_::xs=>ad6 ok σ ps xs
 |[],[]=>true
 |_,_=>false
def o6(σ:S):aa PK->aa Operand->aa Nat
 | .p _ _ _ :: ps,x :: xs=>(match aP σ x with
  |.aG r _=>r::o6 σ ps xs
  |_=>o6 σ ps xs)
 |_::ps,_::xs=>o6 σ ps xs
 |_,_=>[]
def tq(Φ:eX)(σ:S)(o:Oper):aa Nat:=match o.op with
 | .call ⟨.value (.func f),args,_⟩=>(match Φ f with
  |some (.m c)=>o6 σ c.ps args.toList
  |_=>[])
 |_=>[]
def lZ(t:Nat)(o:Oper):Bool:=match o.dst with
 |some d=>Nat.beq d t
 |none=>false
def wB(o:Oper):Bool:=(match o.op with
 |.alloc _=>true
 |_=>false)&&o.guard.isNone&&(match o.dst with
 |some d=>Nat.blt d 20000
 |none=>false)
def o7(o:Oper):Bool:=(match o.op with
 |.alloc _=>true
 |.buildSlice t _ _=>!qO t
 |.makeSlice ..=>true
 |_=>false)&&(match o.dst with
 |some d=>Nat.blt d 20000
 |none=>false)
def isApp(o:Oper):Bool:=match o.op with
 |.call ⟨.builtin .append,⟨[x,_]⟩,⟨[t,C]⟩⟩=>!qO t&&Nat.beq t C && !C0 o.dst t x
 |_=>false
def A.qh(p pb:Nat->Bool):A->Bool:=A.fr (wz p pb)
def C2(σ:S)(o:Oper):aa Nat:=match o.op with
 | .store _ (.tmp t) _=>(match σ.t t with
  |.aG r _=>[r]
  |_=>[])
 | .call ⟨.builtin .append,⟨[.tmp t,_]⟩,⟨[_,_]⟩⟩=>(match σ.t t with
  |.lf (.own [r])=>[r]
  |_=>[])
 |_=>[]
def Qa(σ:S)(o:Oper):aa Nat:=match o.op with
 | .call ⟨.builtin .append,⟨[.tmp t,_]⟩,⟨[_,_]⟩⟩=>(match σ.t t with
  |.lf (.own [r])=>[r]
  |_=>[])
 |_=>[]
def arw(t:Nat)(o:Oper):Bool:=match o.op with
 |.store _ (.tmp C) _=>Nat.beq C t
 |_=>false
def faR(ops:Array Oper)(i L W:Nat)(σ:S)(o:Oper):aa Nat:=match o.op,o.dst with
 | .fieldAddr _ (.tmp x) _,some t=>bif ko (arw t) ops i L W ops.size 0 then (match σ.t x with
  |.aG r _=>[r]
  |_=>[])else []
 |_,_=>[]
def C3(Φ:eX)(ops:Array Oper)(i L W:Nat)(σ:S)(n:Nat):Bool:=
 ko (λo=>gi o n) ops i L W ops.size 0 ||ko (λo=>dS n (tq Φ σ o) ||dS n (C2 σ o)) ops i L W ops.size 0
def AH(Φ:eX)(ops:Array Oper)(i L W:Nat)(σ:S)(n:Nat):Bool:=
 C3 Φ ops i L W σ n ||ko (λo=>dS n (faR ops i L W σ o)) ops i L W ops.size 0
def C4(σ:S)(ops:Array Oper)(i L W n:Nat):Bool:=ko (λo=>gi o n) ops i L W ops.size 0 ||ko (λo=>dS n (Qa σ o)) ops i L W ops.size 0
def AI(Φ:eX)(o:Oper):Bool:=match o.op with
 | .call ⟨.value (.func f),_,_⟩=>(match Φ f with
  |some (.p _)=>true
  |_=>false)
 |_=>false
def nt(Φ:eX)(ops:Array Oper)(i L W t:Nat):Bool:=!ko (λok=>lZ t ok && !(o7 ok ||isApp ok ||AI Φ ok)) ops i L W ops.size 0
def Xp(Φ:eX)(ops:Array Oper)(i L W:Nat)(o:Oper):Bool:=match o.op with
 |.call ⟨.builtin .append,⟨[.tmp t,_]⟩,⟨[ty,C]⟩⟩=>nt Φ ops i L W t&&(!qO ty&&Nat.beq ty C && !C0 o.dst ty (.tmp t))
 |_=>false
def nu(Φ:eX)(ops:Array Oper)(i L W:Nat)(σ:S)(x:Nat):Bool:=!ko (lZ x) ops i L W ops.size 0&&(match σ.t x with
 |.aG r _=>AH Φ ops i L W σ r
 |.jy _=>true
 |_=>false)
def Qb(Φ:eX)(ops:Array Oper)(i L W:Nat)(σ:S)(o:Oper):Bool:=match o.op with
 |.fieldAddr _ (.tmp x) _=>nu Φ ops i L W σ x
 |_=>false
def Qc(Φ:eX)(ops:Array Oper)(i L W:Nat)(σ:S)(t:Nat):Bool:=!ko (λok=>lZ t ok && !(wB ok ||Qb Φ ops i L W σ ok)) ops i L W ops.size 0
def IA(Φ:eX)(ops:Array Oper)(i L W:Nat)(σ:S)(o:Oper):Bool:=match o.op with
 | .store _ (.tmp t) _=>o.dst.isNone&&Qc Φ ops i L W σ t&&(match σ.t t with
  |.ptr _=>false
  |_=>true)
 |_=>false
def Xq(σ:S)(p:Nat->Bool)(o:Oper):Bool:=o.op.operands.toList.all λx=>(aP σ x).nr p
def Xr(σ:S)(p pb:Nat->Bool)(o:Oper):Bool:=(o.op.operands.toList.all λx=>(aP σ x).qh p pb)&&(match o.op with
 | .load _ x=>(match aP σ x with
  |.aG r _=>!p r
  |_=>true)
 |_=>true)
def ad7(Φ:eX)(ops:Array Oper)(L:Nat)(σ:S)(i:Nat):Bool:=match ops[i]? with
 | some C=>(gv C.op || (match gw σ ops C with
  |some b=>!b
  |none=>false))&&Nat.beq ((L |||2 ^ i) &&& waits ops i ops.size 0 0) 0&&JL (λD=>P9 Φ D.op ||false ||IA Φ ops i L (waits ops i ops.size 0 0) σ D ||Xp Φ ops i L (waits ops i ops.size 0 0) D) ops C i L (waits ops i ops.size 0 0) ops.size 0&&Xr σ (AH Φ ops i L (waits ops i ops.size 0 0) σ) (C4 σ ops i L (waits ops i ops.size 0 0)) C
 |none=>false
def JM{X:Type}(P:Program)(N:Nat)(Φ:eX)(ops:Array Oper)(L i:Nat)(σ:S)(o:Oper)(k:S->ah X):ah X:=
 match gw σ ops o with
 |some true=>nq P σ o.op λv=>bif v.qh (AH Φ ops i L (waits ops i ops.size 0 0) σ) (C4 σ ops i L (waits ops i ops.size 0 0))then iH N σ o.dst v k else none
 |some false=>iH N σ o.dst .skip k
 |none=>none
/-! A call may be taken first where all that is free beside it are new blocks. -/
def A.gv:A->Bool
 |.lf (.v _)=>true
 | .agg cs=>cs.all λl=>match l with
  |.v _=>true
  |_=>false
 |_=>false
def Xs(ops:Array Oper)(i L W:Nat)(σ:S)(o:Oper):Bool:=o7 o&&(match gw σ ops o with
 |some b=>b
 | none=>false)&&(o.op.operands.toList.all λx=>(aP σ x).gv&&(match x with
  |.tmp t=>!ko (lZ t) ops i L W ops.size 0
  |_=>true))&&(match o.guard with
 | some (g,_)=>(match (ops[g]?).bind (·.dst)with
  |some t=>!ko (lZ t) ops i L W ops.size 0
  |none=>true)
 |none=>true)
def oq(Φ:eX)(o:Oper):Bool:=match o.op with
 | .call ⟨.value (.func f),_,_⟩=>(match Φ f with
  |some (.p _)=>true
  |some (.m _)=>true
  |_=>false)
 |_=>false
def JN(o:Oper):Bool:=(match o.op with
 |.store _ (.tmp _) _=>true
 |_=>false)&&o.dst.isNone
def yg(σ:S)(o:Oper):Bool:=match o.op with
 | .store _ (.tmp t) _=>(match σ.t t with
  |.aG _ _=>true
  |_=>false)
 |_=>true
def JO(Φ:eX)(o:Oper):Bool:=oq Φ o ||o7 o ||isApp o ||JN o
def yh(σ:S)(p:Nat->Bool)(r:Nat):Bool:=match σ.m r with
 |some (.aB cs)=>cs.all (Lf.nr p)
 |_=>true
def FH(o:Oper)(n:Nat):Bool:=lZ n o
def ad8(Φ:eX)(ops:Array Oper)(L:Nat)(σ:S)(i:Nat):Bool:=match ops[i]? with
 | some C=>JO Φ C&&Nat.beq ((L ||| 2 ^ i) &&& waits ops i ops.size 0 0) 0&&JL (Xs ops i L (waits ops i ops.size 0 0) σ) ops C i L (waits ops i ops.size 0 0) ops.size 0 &&
   Xq σ (λn=>ko (λo=>FH o n) ops i L (waits ops i ops.size 0 0) ops.size 0) C&&(tq Φ σ C).all (yh σ (λn=>ko (λo=>FH o n) ops i L (waits ops i ops.size 0 0) ops.size 0))&&yg σ C
 |none=>false
def rW(x:A)(n:Nat):ah V:=match x with
 | .fB xs=>(match xs[n]? with
  |some (false,[.v z])=>some z
  |_=>none)
 |_=>none
def Xt(ops:Array Oper)(L:Nat)(σ:S)(i:Nat):Bool:=match ops[i]?,(List.range ops.size).filter (λj=>!(Nat.beq j i || L.testBit j))with
 | some C,[E]=>(match C.op,C.dst,C.guard,ops[E]? with
  | .extract (.tmp x) n,some _,none,some D=>(match D.op,D.dst,D.guard with
   |.store _ a b,none,none=>(rW (σ.t x) n).isSome&&yf (aP σ a) (aP σ b)&&C.apart ops D
   |_,_,_=>false)
  |_,_,_,_=>false)
 |_,_=>false
def rX{X:Type}(P:Program)(N:Nat)(Φ:eX)(ops:Array Oper):Nat->Nat->S->(S->ah X)->ah X
 | 0,L,σ,k=>(match (List.range ops.size).filter (mM ops L)with
  |[]=>k σ
  |_=>none)
 | f+1,L,σ,k=>(match (List.range ops.size).filter (mM ops L)with
  |[]=>k σ
  | [i]=>(match ops[i]? with
   |some o=>dU P N Φ ops σ o λC=>tj C o.dst (JJ ops i) λD=>rX P N Φ ops f (L |||2 ^ i) D k
   |none=>none)
  | rs=>(match rs.find? (ad7 Φ ops L σ)with
   | some i=>(match ops[i]? with
    |some o=>JM P N Φ ops L i σ o λC=>tj C o.dst (JJ ops i) λD=>rX P N Φ ops f (L |||2 ^ i) D k
    |none=>none)
   | none=>(match rs.find? (ad8 Φ ops L σ)with
    | some i=>(match ops[i]? with
     |some o=>dU P N Φ ops σ o λC=>tj C o.dst (JJ ops i) λD=>rX P N Φ ops f (L |||2 ^ i) D k
     |none=>none)
    | none=>(match rs.find? (Xt ops L σ)with
     | some i=>(match ops[i]? with
      |some o=>dU P N Φ ops σ o λC=>tj C o.dst (JJ ops i) λD=>rX P N Φ ops f (L |||2 ^ i) D k
      |none=>none)
     |none=>none))))
/-! A new slice of constants may come first,beside values and calls of contents. -/
structure tu where
 run:(X:Type)->S->(Exit->S->Option X)->Option X
abbrev ot:=Nat->ah tu
def mN{X:Type}(P:Program)(N:Nat)(Φ:eX)(Λ:ot):Code->S->(Exit->S->ah X)->ah X
 |.skip,σ,k=>k .normal σ
 |.label _,σ,k=>k .normal σ
 |.ret,σ,k=>k .ret σ
 |.exit id,σ,k=>k (.exit id) σ
 |.region _ ops false,σ,k=>C1 P N Φ ops 0 ops.toList σ λC=>k .normal C
 |.region _ ops true,σ,k=>bif P.follows .mixedOrders then rX P N Φ ops ops.size 0 σ λC=>k .normal C else none
 | .seq x y,σ,k=>mN P N Φ Λ x σ λe C=>match e with
  |.normal=>mN P N Φ Λ y C k
  |e=>k e C
 | .cond c x y,σ,k=>match aP σ c with
  |.lf (.v (.bool b))=>bif b then mN P N Φ Λ x σ k else mN P N Φ Λ y σ k
  |_=>none
 | .block id c,σ,k=>match Λ id with
  |some b=>b.run X σ k
  | none=>mN P N Φ Λ c σ λe C=>match e with
   |.exit D=>if D=id then k .normal C else k (.exit D) C
   |e=>k e C
 |_,_,_=>none
def AW(P:Program)(w0:Wd)(N:Nat)(c:Code)(σ:S)(K:Exit->S->Prop):Prop:=
 ∀a w,R w0 N σ a w->c.wp P (λe D w'=>∃C,K e C/\R w0 N C D w') a w
def occs:Code->aa (Nat×Code)
 |.seq x y=>occs x++occs y
 |.cond _ x y=>occs x++occs y
 |.block id c=>(id,c)::occs c
 |_=>[]
def C5(P:Program)(N:Nat)(c:Code)(b:tu):Prop:=∀(X:Type) σ k (r:X) w0,b.run X σ k=some r->AW P w0 N c σ λe C=>k e C=some r
def qQ(P:Program)(N:Nat)(Λ:ot)(l:aa (Nat×Code)):Prop:=∀p∈l,∀b,Λ p.1=some b->C5 P N (.block p.1 p.2) b
section
variable {P:Program} {w w':World} {w0:Wd} {B N:Nat} {aj aD:bM} {ρ ρ':Nat->Loc} {σ:S} {a:Act} {X:Type} {d:Nat} {r:X} {o:Oper} {Φ:eX} {Λ:ot}
def mG.mem{C:S}(D:o.dst=some d)(h:∀ aj ρ a w,Rl w0 N aj ρ σ a w->∃ w' aD ρ' v,(execOp a.eval o).run P w = .ok (.value v) w'/\Rl w0 N aD ρ' C (a.put (some d) v) w'):mG P w0 N o σ C:=by
 intro a w K Q hR E;obtain⟨aj,ρ,hR⟩:=hR;obtain⟨w',aD,ρ',v,L,O⟩:=h aj ρ a w hR;unfold Oper.wp;rw[L,Oper.upon_value,D];exact E _ _ ⟨aD,ρ',O⟩
def kS{k:Nat -> ah X}(h:hU o k=some r):∃ d,o.dst=some d/\k d=some r:=by
 unfold hU at h
 grind
def jQ{s:Sem Value}{v:Value}(h:s.run P w = .ok v w'):(do pure (.value (<-s)):Sem Next).run P w = .ok (.value v) w':=by
 rw[gF,h];rfl
def ad9{b:Go.Builtin}{x:Operand}{t:TypeId}{v:Value}(C:o.op = .call ⟨.builtin b,⟨[x]⟩,⟨[t]⟩⟩)(h:∀ cs,(builtin b #[t] o.type cs #[a.eval x]).run P w = .ok (.value v) w'):(execOp a.eval o).run P w = .ok (.value v) w':=by
 simp only[execOp,C,resolve,gF,Sem.run_pure,mX,invoke,List.map_toArray,List.map_cons,List.map_nil];exact h _
def Xu{b:Go.Builtin}{x y:Operand}{t C:TypeId}{v:Value}(D:o.op = .call ⟨.builtin b,⟨[x,y]⟩,⟨[t,C]⟩⟩)(h:∀ cs,(builtin b #[t,C] o.type cs #[a.eval x,a.eval y]).run P w = .ok (.value v) w'):(execOp a.eval o).run P w = .ok (.value v) w':=by
 simp only[execOp,D,resolve,gF,Sem.run_pure,mX,invoke,List.map_toArray,List.map_cons,List.map_nil];exact h _
def Xv{C:Op}:cS λX k=>nq (X:=X) P σ C k:=λX Y k g=>by
 unfold nq;split
 ·rfl
 ·rfl
 ·repeat' first|rfl|refine dI ?_ ?_|split
 ·exact aqD _ _ _ _
 ·exact adJ _ _ _ _
 ·exact aqx _ _ _ _
 ·exact(W5.comp λa=>aqy.comp (b:=λX k z=>k (.lf (.v z))) λz _ _ _ _=>rfl) X Y k g
 ·exact aqG _ _ _ _
 ·exact aqz _ _ _ _
 ·exact aqE _ _ _ _
 ·exact aqA _ _ _ _
 ·exact aqF _ _ _ _
 ·exact aqC _ _ _ _
 ·unfold PZ;split<;>rfl
 ·exact aqB _ _ _ _
 ·exact adK _ _ _ _
 ·exact adK _ _ _ _
 ·exact aqH _ _ _ _
 ·rfl
def Xw{op:Op}{k:A->ah X}(h:nq P σ op k=some r):∃ v,k v=some r/\nc (λX k=>nq (X:=X) P σ op k) v/\∀ aj ρ a w (o:Oper),o.op=op->Rl w0 N aj ρ σ a w->∃ u,(execOp a.eval o).run P w = .ok (.value u) w/\RA w w0.heap.size aj ρ v u:=by
 obtain⟨z,O,Y⟩:=Xv.oc h
 refine⟨z,O,Y,λaj ρ a w o L hR=>?_⟩
 replace h:nq P σ op some=some z:=Y A some;clear Y O;unfold nq at h;split at h
 ·cases h;exact⟨_,by simp[execOp,L],hR.aP _⟩
 ·cases h;exact⟨_,by simp[execOp,L],hR.aP _⟩
 ·rename_i c x y;split at h
  ·rename_i b hb;have hc:=hR.aP c;rw[hb]at hc;have hv:=hc.2.zZ;cases b with
   |true=>cases h;exact⟨a.eval x,by simp[execOp,L,hv,asBool],hR.aP x⟩
   |false=>cases h;exact⟨a.eval y,by simp[execOp,L,hv,asBool],hR.aP y⟩
  ·cases h
 next t parts=>obtain⟨_,⟨⟩,C⟩:=apu (w0:=w0) (N:=N) h;obtain⟨v,D,E⟩:=C aj ρ a w hR;exact⟨v,by simp only[execOp,L];exact jQ D,E⟩
 next t x=>obtain⟨_,⟨⟩,C⟩:=acJ (w0:=w0) (N:=N) h;obtain⟨v,D,E⟩:=C aj ρ a w hR _ (hR.aP x);exact⟨v,by simp only[execOp,L];exact jQ D,E⟩
 next op t x y yt=>obtain⟨_,⟨⟩,C⟩:=apF (w0:=w0) (N:=N) h;obtain⟨v,D,E⟩:=C aj ρ a w hR x y _ _ (hR.aP x) (hR.aP y);exact⟨v,by simp only[execOp,L];exact jQ D,E⟩
 next op t x=>obtain⟨u,hx,h⟩:=VI h;obtain⟨_,⟨⟩,hp,C⟩:=ao8 (P:=P) h;have O:=hR.aP x;rw[hx]at O;obtain⟨T,D,Z⟩:=C w _ aj [] _ O.2;exact⟨T,by simp only[execOp,L];exact jQ D,V.IF hp,Z⟩
 next s d' x=>obtain⟨_,⟨⟩,C⟩:=apB (w0:=w0) (N:=N) h;obtain⟨v,D,E⟩:=C aj ρ a w hR _ (hR.aP x);exact⟨v,by simp only[execOp,L];exact jQ D,E⟩
 next s x f=>obtain⟨_,⟨⟩,C⟩:=apb h;obtain⟨v,D,E⟩:=C w _ aj ρ _ (hR.aP x);exact⟨v,by simp only[execOp,L];exact jQ D,E⟩
 next s x f=>obtain⟨_,⟨⟩,C⟩:=apC h;obtain⟨v,D,E⟩:=C w _ aj ρ _ (hR.aP x);exact⟨v,by simp only[execOp,L];exact jQ D,E⟩
 next t x i=>obtain⟨_,⟨⟩,C⟩:=apc (w0:=w0) (N:=N) h;obtain⟨v,D,E⟩:=C aj ρ a w hR _ _ (hR.aP x) (hR.aP i);exact⟨v,by simp only[execOp,L];exact jQ D,E⟩
 next t x i=>obtain⟨_,⟨⟩,C⟩:=apA h;obtain⟨v,D,E⟩:=C w _ aj ρ _ _ (hR.aP x) (hR.aP i);exact⟨v,by simp only[execOp,L];exact jQ D,E⟩
 next x i=>obtain⟨_,⟨⟩,C⟩:=ape (P:=P) h;obtain⟨v,D,E⟩:=C w _ aj ρ _ (hR.aP x);exact⟨v,by simp only[execOp,L];exact jQ D,E⟩
 next x=>obtain⟨h,C⟩:=aqO (w:=w) (B:=w0.heap.size) (aj:=aj) (ρ:=ρ) h;cases h;obtain⟨ad,hu⟩:=C _ (hR.aP x);refine⟨a.eval x,?_,hR.aP x⟩;simp only[execOp,L,hu];rfl
 next x t=>obtain⟨_,⟨⟩,C⟩:=apd (w0:=w0) (N:=N) (ty:=o.type) h;obtain⟨v,D,E⟩:=C aj ρ a w hR _ (hR.aP x);exact⟨v,ad9 L λ_=>jQ D,E⟩
 next x y t T=>obtain⟨_,⟨⟩,C⟩:=ac4 (P:=P) h;obtain⟨v,D,E⟩:=C w _ aj ρ t o.type _ _ (hR.aP x) (hR.aP y);exact⟨v,Xu L λ_=>jQ (s:=Builtin.max_ #[t,T] o.type #[a.eval x,a.eval y]) D,E⟩
 next x y t T=>obtain⟨_,⟨⟩,C⟩:=ac4 (P:=P) h;obtain⟨v,D,E⟩:=C w _ aj ρ t o.type _ _ (hR.aP x) (hR.aP y);exact⟨v,Xu L λ_=>jQ (s:=Builtin.min_ #[t,T] o.type #[a.eval x,a.eval y]) D,E⟩
 ·rename_i t x lo hi;obtain⟨_,⟨⟩,C⟩:=apK (w0:=w0) (N:=N) h;have U:∀ z:ah Operand,(∀ b,z.map (aP σ)=some b->∃ v,z.map a.eval=some v/\RA w w0.heap.size aj ρ b v)/\(z.map (aP σ)=none->z.map a.eval=none):=by
   intro z;cases z with
   |none=>exact⟨λb hb=>(by cases hb),λ_=>rfl⟩
   |some z=>exact⟨λb hb=>(by cases hb;exact⟨_,rfl,hR.aP z⟩),λhb=>(by cases hb)⟩
  obtain⟨v,D,Z⟩:=C aj ρ a w hR _ _ _ (hR.aP x) (U lo).1 (U lo).2 (U hi).1 (U hi).2;exact⟨v,by simp only[execOp,L];exact jQ D,Z⟩
 ·cases h
def mG.skip{C:S}(D:o.dst=none)(h:∀ aj ρ a w,Rl w0 N aj ρ σ a w->∃ w' aD,(execOp a.eval o).run P w = .ok .skip w'/\Rl w0 N aD ρ C a w'):mG P w0 N o σ C:=by
 intro a w K Q hR E;obtain⟨aj,ρ,hR⟩:=hR;obtain⟨w',aD,L,O⟩:=h aj ρ a w hR;unfold Oper.wp;rw[L,Oper.upon_skip,D];exact E _ _ ⟨aD,ρ,O⟩
def Qd{s:Sem af}(h:s.run P w = .ok () w'):(do s;pure .skip:Sem Next).run P w = .ok .skip w':=by
 rw[gF,h];rfl
def arx{k:S->ah X}(eP:gu P Φ)(h:jb P N Φ σ o k=some r):∃ O,k O=some r/\mG P w0 N o σ O:=by
 unfold jb at h;split at h
 ·rename_i e C;obtain⟨d,D,h⟩:=kS h;obtain⟨O,h,T⟩:=apk (w0:=w0) h
  refine⟨O,h,.mem D λaj ρ a w hR=>?_⟩
  obtain⟨w',aD,ρ',v,E,L⟩:=T aj ρ a w hR;exact⟨w',aD,ρ',v,by simp only[execOp,C];exact jQ E,L⟩
 ·rename_i e x C;obtain⟨d,D,h⟩:=kS h;obtain⟨O,h,T⟩:=aqM (w0:=w0) (e:=e) h
  refine⟨O,h,.mem D λaj ρ a w hR=>?_⟩
  obtain⟨w',aD,ρ',v,E,L⟩:=T aj ρ a w hR _ (hR.aP x);exact⟨w',aD,ρ',v,by simp only[execOp,C];exact jQ E,L⟩
 ·rename_i t len parts C;obtain⟨d,D,h⟩:=kS h;cases hn:qO t with
  | true=>
   rw[hn,au]at h;obtain⟨O,h,T⟩:=aqP (w0:=w0) h
   refine⟨O,h,.mem D λaj ρ a w hR=>?_⟩
   obtain⟨w',aD,ρ',v,E,L⟩:=T aj ρ a w hR;exact⟨w',aD,ρ',v,by simp only[execOp,C];exact jQ E,L⟩
  | false=>
   rw[hn,aq]at h;obtain⟨O,h,T⟩:=apy (w0:=w0) h
   refine⟨O,h,.mem D λaj ρ a w hR=>?_⟩
   obtain⟨w',aD,ρ',v,E,L⟩:=T aj ρ a w hR;exact⟨w',aD,ρ',v,by simp only[execOp,C];exact jQ E,L⟩
 ·rename_i t x y C;split at h
  ·rename_i D;cases hn:yf (aP σ x) (aP σ y)with
   | true=>
    rw[hn,au]at h;obtain⟨O,h,T⟩:=aqX (w0:=w0) (N:=N) h
    refine⟨O,h,.skip D λaj ρ a w hR=>?_⟩
    obtain⟨w',aD,E,L⟩:=T aj ρ a w hR _ _ (hR.aP x) (hR.aP y);exact⟨w',aD,by simp only[execOp,C];exact Qd E,L⟩
   | false=>
    rw[hn,aq]at h;obtain⟨O,h,T⟩:=acL (w0:=w0) (N:=N) h
    refine⟨O,h,.skip D λaj ρ a w hR=>?_⟩
    obtain⟨w',E,L⟩:=T aj ρ a w hR _ _ (hR.aP x) (hR.aP y);exact⟨w',aj,by simp only[execOp,C];exact Qd E,L⟩
  ·cases h
 ·rename_i t l c C;obtain⟨d,D,h⟩:=kS h;obtain⟨O,h,T⟩:=apl (w0:=w0) h
  refine⟨O,h,.mem D λaj ρ a w hR=>?_⟩
  obtain⟨w',aD,ρ',v,E,L⟩:=T aj ρ a w hR _ _ (hR.aP l) (hR.aP c);exact⟨w',aD,ρ',v,by simp only[execOp,C];exact jQ E,L⟩
 ·rename_i f args oe C;split at h
  next c U=>obtain⟨d,D,h⟩:=kS h;obtain⟨Y,Z⟩:=eP f _ U;exact adh C D Y Z (adf (w0:=w0) (N:=N) _) h
  next c U=>obtain⟨Y,Z⟩:=eP f _ U;exact aqc C Y Z h
  next c U=>obtain⟨d,D,h⟩:=kS h;obtain⟨Y,Z⟩:=eP f _ U;exact aq2 C D Y Z h
  ·cases h
  next c U=>obtain⟨Y,Z⟩:=eP f _ U;exact adZ (ex:=[]) C rfl Y Z h
  next c U=>obtain⟨Y,Z⟩:=eP f _ U;exact aqi C Y Z h
  next c U=>obtain⟨d,D,h⟩:=kS h;obtain⟨Y,Z⟩:=eP f _ U;exact adh C D Y Z (apP (w0:=w0) (N:=N) _) h
  next c U=>obtain⟨Y,Z⟩:=eP f _ U;exact aq9 C Y Z h
  ·cases h
 ·rename_i x y t t' C;cases od:Nat.beq t t' with
  |false=>rw[od]at h;cases h
  | true=>
   rw[od,au]at h;obtain rfl:=cK od;obtain⟨d,D,h⟩:=kS h;have hh:∃ O,k O=some r/\∀ aj ρ a w,Rl w0 N aj ρ σ a w->∀ u v,RA w w0.heap.size aj ρ (aP σ x) u->RA w w0.heap.size aj ρ (aP σ y) v->
     ∃w' aD ρ' z,(Builtin.append_ #[t,t] o.type #[u,v]).run P w = .ok z w'/\Rl w0 N aD ρ' O (a.put (some d) z) w':=by
    cases hn:qO t with
    |true=>rw[hn,au]at h;exact aqV h
    | false=>
     rw[hn,aq]at h;cases hk:P8 t d x with
     |true=>rw[hk,au]at h;exact aru h
     |false=>rw[hk,aq]at h;exact apm h
   obtain⟨O,h,T⟩:=hh
   refine⟨O,h,.mem D λaj ρ a w hR=>?_⟩
   obtain⟨w',aD,ρ',v,E,L⟩:=T aj ρ a w hR _ _ (hR.aP x) (hR.aP y);exact⟨w',aD,ρ',v,Xu C λ_=>jQ E,L⟩
 ·rename_i t C;obtain⟨d,D,h⟩:=kS h;obtain⟨O,h,T⟩:=arh (w0:=w0) (t:=t) (P:=P) h
  refine⟨O,h,.mem D λaj ρ a w hR=>?_⟩
  obtain⟨w',aD,ρ',v,E,L⟩:=T aj ρ a w hR;exact⟨w',aD,ρ',v,by simp only[execOp,C];exact jQ E,L⟩
 ·rename_i t x i C;obtain⟨v,h1,_,T⟩:=arl (w0:=w0) (N:=N) h
  refine mG.val h1 λaj ρ a w hR=>?_
  obtain⟨y,E,L⟩:=T aj ρ a w hR _ _ (hR.aP x) (hR.aP i);exact⟨y,by simp only[execOp,C];exact jQ E,L⟩
 ·rename_i t x i v C;split at h
  ·rename_i D;obtain⟨O,h,_,T⟩:=arn (w0:=w0) (N:=N) h
   refine⟨O,h,.skip D λaj ρ a w hR=>?_⟩
   obtain⟨w',E,L⟩:=T aj ρ a w hR _ _ _ (hR.aP x) (hR.aP i) (hR.aP v);exact⟨w',aj,by simp only[execOp,C];exact Qd E,L⟩
  ·cases h
 ·rename_i t args oe C;split at h
  ·rename_i f cap vZ;split at h
   next c U=>obtain⟨Y,Z⟩:=eP f _ U;exact adZ C vZ Y Z h
   ·cases h
  ·cases h
 ·rename_i f aea C;split at h
  ·rename_i ps rU;obtain⟨h1,h2⟩:=ad0 (w0:=w0) (N:=N) _ _ rU
   refine mG.val h λaj ρ a w hR=>⟨.func (.func f) #[] (aea.map a.eval),by simp[execOp,C,Instr.makeFunc],_,rfl,by simp[h1],λj p hp=>?_⟩
   obtain⟨b,off,e1,e2⟩:=h2 aj ρ a w hR j p hp;exact⟨b,off,e1,by simpa using e2⟩
  ·cases h
 ·rename_i x t C;obtain⟨qN,h1,T⟩:=apq (w0:=w0) (N:=N) (ty:=o.type) h;have run:∀ aj ρ a w,Rl w0 N aj ρ σ a w->∃ w',(execOp a.eval o).run P w = .ok (.value (.tuple #[])) w'/\Rl w0 N aj ρ qN a w':=by
   intro aj ρ a w hR;obtain⟨w',E,L⟩:=T aj ρ a w hR _ (hR.aP x);exact⟨w',ad9 C λ_=>jQ E,L⟩
  unfold iH at h1;split at h1
  ·rename_i D
   refine⟨_,h1,λa w K Q hR hK=>?_⟩
   obtain⟨aj,ρ,hR⟩:=hR;obtain⟨w',E,L⟩:=run aj ρ a w hR;unfold Oper.wp;rw[E,Oper.upon_value,D];exact hK _ _ ⟨aj,ρ,L⟩
  ·rename_i d D;cases hN:Nat.blt d N with
   |false=>rw[hN]at h1;cases h1
   | true=>
    rw[hN,au]at h1
    refine⟨_,h1,.mem D λaj ρ a w hR=>?_⟩
    obtain⟨w',E,L⟩:=run aj ρ a w hR;exact⟨w',aj,ρ,_,E,L.set trivial (by have:=cX hN;omega)⟩
 ·cases h
def Xx{k:S -> ah X}(E:gu P Φ)(h:eA P N Φ σ o k=some r):∃ C,k C=some r/\mG P w0 N o σ C:=by
 unfold eA at h;cases D:gv o.op with
 | true=>
  rw[D,au]at h;obtain⟨v,L,_,O⟩:=Xw h;exact mG.val L λaj ρ a w hR=>O aj ρ a w o rfl hR
 | false=>
  rw[D]at h;exact arx E h
def ary{k:S->ah X}(Y:gu P Φ)(h:JI P N Φ σ o k=some r):∃ D,k D=some r/\mG P w0 N o σ D:=by
 unfold JI at h;split at h
 ·rename_i t x y E L;split at h
  ·rename_i q s i j hy;obtain⟨D,C,O⟩:=arc (w0:=w0) (N:=N) h
   refine⟨D,C,.skip L λaj ρ a w hR=>?_⟩
   have Z:=hR.aP y;rw[hy]at Z;obtain⟨w',aD,T,dR⟩:=O aj ρ a w hR _ _ (hR.aP x) Z;exact⟨w',aD,by simp only[execOp,E];exact Qd T,dR⟩
  ·exact Xx Y h
 ·rename_i t x lo hi mx d E L;obtain⟨C,O⟩:=arf (w0:=w0) (N:=N) h;cases U:Nat.blt d N with
  |false=>rw[U]at C;cases C
  | true=>
   rw[U,au]at C
   refine⟨_,C,.mem L λaj ρ a w hR=>?_⟩
   obtain⟨v,T⟩:=O aj ρ a w hR _ _ _ _ (hR.aP x) (hR.aP lo) (hR.aP hi) (hR.aP mx);refine⟨w,aj,ρ,v,?_,hR.set trivial (by have:=cX U;omega)⟩;simp only[execOp,E,Option.map_some];exact jQ T
 ·exact Xx Y h
/-! What an operation gives hangs on its operands and on the roots that they name. -/
def A.key:A->ah (aa Nat)
 |.lf (.own q)=>some q
 |.view q _ _ _=>some q
 |.ptr (_::_::_::q)=>some q
 |_=>none
def Sm(σ2 σ:S)(x:A):Prop:=∀q,x.key=some q->∀(X:Type) (k:V->ah X),jA σ2.m q k=jA σ.m q k
def Sm.eq{σ2:S}(C:σ2.m=σ.m)(x:A):Sm σ2 σ x:=λq _ X k=>by rw[C]
def Sm.lf{σ2:S}{l:Lf}(h:Sm σ2 σ (.lf l))(k:V->ah X):pW σ2 l k=pW σ l k:=by
 cases l with
 |own q=>exact h q rfl X k
 |_=>rfl
def Sm.bin{σ2:S}{C:BinOp}{t:TypeId}{x y:A}(h:Sm σ2 σ x)(k:A->ah X):Al P σ2 C t x y k=Al P σ C t x y k:=by
 unfold Al;split
 ·rfl
 ·split
  ·exact h.lf _
  ·rfl
 ·rfl
def Sm.conv{σ2:S}{t C:TypeId}{x:A}(h:Sm σ2 σ x)(k:A->ah X):Ai P σ2 t C x k=Ai P σ t C x k:=by
 unfold Ai;split
 ·rfl
 ·exact h.lf _
 ·rfl
def Sm.idx{σ2:S}{t:TypeId}{x i:A}(h:Sm σ2 σ x)(k:A->ah X):Aa P σ2 t x i k=Aa P σ t x i k:=by
 unfold Aa;split
 ·rfl
 ·split
  ·split
   ·rfl
   ·exact h _ rfl _ _
   ·rfl
  ·rfl
def Sm.len{σ2:S}{t:TypeId}{x:A}(h:Sm σ2 σ x)(k:A->ah X):Cu P σ2 t x k=Cu P σ t x k:=by
 cases x with
 |lf l=>exact h.lf _
 |_=>rfl
def Sm.slc{σ2:S}{t:TypeId}{x:A}{lo hi:ah A}(h:Sm σ2 σ x)(k:A->ah X):An P σ2 t x lo hi k=An P σ t x lo hi k:=by
 unfold An CF;split
 ·simp only[h _ rfl]
 ·simp only[h _ rfl]
 ·rfl
def Sm.load{σ2:S}{t:TypeId}{x:A}(h:Sm σ2 σ x)(hb:∀ r j,x = .aG r j->σ2.m r=σ.m r)(k:A->ah X):oO P σ2 t x k=oO P σ t x k:=by
 unfold oO;split
 ·rfl
 ·split
  ·rw[hb _ _ rfl]
  ·rfl
  ·exact h _ rfl _ _
  ·rfl
def aeb{σ2:S}(C:Op)(h:∀ x∈C.operands,aP σ2 x=aP σ x/\Sm σ2 σ (aP σ x))(hl:∀ t x,C = .load t x->∀ k:A->ah X,oO P σ2 t (aP σ x) k=oO P σ t (aP σ x) k)(k:A->ah X):nq P σ2 C k=nq P σ C k:=by
 unfold nq;split
 case h_4 t parts=>
  have e:(parts.toList.map λp=>(p.1,aP σ2 p.2))=parts.toList.map λp=>(p.1,aP σ p.2):=List.map_congr_left λp L=>by rw[(h p.2 (by simp only[Op.operands];exact List.mem_toArray.2 (List.mem_map_of_mem (f:=(·.2)) L))).1]
  simp only[Fi,e]
 case h_18 t x lo hi=>
  have e:∀ z:ah Operand,(∀ y,z=some y->aP σ2 y=aP σ y)->z.map (aP σ2)=z.map (aP σ):=by
   intro z O;cases z with
   |none=>rfl
   |some z=>exact bf some (O z rfl)
  have E:=h x (by simp[Op.operands]);rw[E.1,e lo (λy D=>(h y (by subst D;simp[Op.operands])).1),e hi (λy D=>(h y (by subst D;simp[Op.operands])).1)];exact E.2.slc k
 all_goals simp[Op.operands,Call.operands]at h
 case h_5=>rw[h.1];exact hl _ _ rfl k
 case h_6=>rw[h.1.1,h.2.1];exact h.1.2.bin k
 case h_8=>rw[h.1];exact h.2.conv k
 case h_11=>rw[h.1.1,h.2.1];exact h.1.2.idx k
 case h_15=>rw[h.1];exact h.2.len k
 all_goals first|rfl|simp only[h]
def aec{σ2:S}(C:Op)(D:σ2.m=σ.m)(h:∀ x∈C.operands,aP σ2 x=aP σ x)(k:A->ah X):nq P σ2 C k=nq P σ C k:=
 aeb C (λx E=>⟨h x E,.eq D _⟩) (λt x _ k=>(Sm.eq D _).load (λr _ _=>by rw[D]) k) k
def aed{σ2:S}(C:σ2.m=σ.m)(q:aa Nat)(s i j:Nat)(k:V->ah X):vU σ2 q s i j k=vU σ q s i j k:=by
 simp only[vU,C]
def aee{σ2:S}(C:σ2.m=σ.m)(x:Lf)(k:V->ah X):pW σ2 x k=pW σ x k:=(Sm.eq C _).lf k
def arz{σ2:S}(C:σ2.m=σ.m)(x:A)(k:V->ah X):sV σ2 x k=sV σ x k:=by
 cases x<;>simp only[sV,aee C,aed C]
def Xy{σ2:S}(C:σ2.m=σ.m):∀ (xs:aa Lf) (k:aa V->ah X),rT σ2 xs k=rT σ xs k
 |[],k=>rfl
 | x :: xs,k=>by
  simp only[rT,aee C,Xy C xs]
def aef{σ2:S}(C:σ2.m=σ.m)(x:A)(k:Pt->ah X):oR σ2 x k=oR σ x k:=by
 unfold oR;simp only[Xy C,aed C]
def Xz{σ2:S}{f:A->(Pt->ah X)->ah X}:∀ (xs:aa Operand) (k:aa Pt->ah X),(∀ x∈xs,aP σ2 x=aP σ x)->we f σ2 xs k=we f σ xs k
 |[],k,_=>rfl
 | x :: xs,k,h=>by
  simp only[we,h x (.head _),Xz xs _ λy C=>h y (.tail _ C)]
def arB{σ2:S}(C:σ2.m=σ.m)(xs:aa Operand)(k:aa Pt->ah X)(h:∀ x∈xs,aP σ2 x=aP σ x):sY σ2 xs k=sY σ xs k:=by
 unfold sY;rw[show oR σ2=oR σ from funext λx=>funext λk=>aef C x k,Xz xs k h]
def arC{σ2:S}(C:σ2.m=σ.m)(x:A)(k:Pt->ah X):v9 σ2 x k=v9 σ x k:=by
 unfold v9;simp only[aef C,Xy C,C]
def arD{σ2:S}(C:σ2.m=σ.m)(xs:aa Operand)(k:aa Pt->ah X)(h:∀ x∈xs,aP σ2 x=aP σ x):CG σ2 xs k=CG σ xs k:=by
 unfold CG;rw[show v9 σ2=v9 σ from funext λx=>funext λk=>arC C x k,Xz xs k h]
/-! .. and a root that it does not name is of no account. -/
def JP(n:Nat)(x:bu)(m:Nat->ah bu):Nat->ah bu:=ck (λr=>bif Nat.beq r n then none else (m r).map (bu.drop n)) n (some x)
def aeg{n:Nat}{x:bu}{m:Nat->ah bu}{q:Nat}(h:q≠n):JP n x m q=(m q).map (bu.drop n):=by
 unfold JP;rw[cU _ _ _ h,pS h];rfl
def Qe{m m':Nat->ah bu}{p:Nat->Bool}(D:∀ r,p r=false->∀ y,m' r=some (.sl y) ↔ m r=some (.sl y)):∀ (q:aa Nat) (k:V->ah X),oZ p q=true->jA m' q k=jA m q k
 |[],_,_=>rfl
 | [r],k,h=>by
  have E:=D r (by simpa [oZ,jM]using h);simp only[jA];split
  next y C=>rw[(E y).1 C]
  ·rename_i L;split
   next y C=>exact absurd ((E y).2 C) (L y)
   ·rfl
 |[_,_],_,_=>rfl
 |[j,i,s],k,h=>rfl
 | j :: i :: s :: O :: q,k,h=>by
  simp only[jA];exact Qe D (O::q) _ (by simpa [oZ,O4]using h)
def arE{n:Nat}{q:aa Nat}(h:dc n q=false):oZ (λr=>Nat.beq r n) q=true:=by
 unfold oZ jM;unfold dc at h;split
 next r C=>rw[C]at h;show (!Nat.beq r n)=true;rw[pS (show r≠n by simpa using h)];rfl
 ·rfl
def bu.JQ(n:Nat)(cs:aa Lf):(bu.aB cs).drop n = .aB (cs.map (Lf.drop n)):=rfl
def arF{n:Nat}(z:ah bu)(y:V):z.map (bu.drop n)=some (.sl y) ↔ z=some (.sl y):=by
 cases z with
 |none=>simp
 |some z=>cases z<;>simp[bu.drop,bu.cL]
def aeh{n:Nat}{x:bu}{m:Nat->ah bu}{r:Nat}(h:r≠n)(y:V):JP n x m r=some (.sl y) ↔ m r=some (.sl y):=by
 rw[aeg h];exact arF _ y
def JR{p:Nat->Bool}{r n:Nat}(h:p r=false)(C:p n=true):r≠n:=by
 rintro rfl;rw[C]at h;cases h
def arG{n:Nat}{x:bu}{m:Nat->ah bu}(q:aa Nat)(k:V->ah X)(h:dc n q=false):jA (JP n x m) q k=jA m q k:=
 Qe (p:=λr=>Nat.beq r n) (λr C y=>aeh (JR (p:=λr=>Nat.beq r n) C (Nat.beq_refl n)) y) q k (arE h)
def arH{p:Nat->Bool}{r j n:Nat}(h:(A.aG r j).nr p=true)(C:p n=true):r≠n:=
 JR (by simpa [A.nr,A.fr,wz]using h) C
def aei{p pb:Nat->Bool}{x:A}{q:aa Nat}(h:x.qh p pb=true)(e:x.key=some q):oZ p q=true:=by
 unfold A.key at e;split at e
 ·injection e with e;subst e;exact h
 ·injection e with e;subst e;exact h
 ·rename_i j i s C;injection e with e;subst e;have h:oZ p (j :: i :: s :: C)=true:=h;cases C with
  |nil=>rfl
  |cons D q=>simpa [oZ,O4]using h
 ·cases e
def arI{p pb:Nat->Bool}{t:TypeId}{cs:aa Lf}{y:A}(h:xP P t cs some=some y)(C:y.qh p pb=true):∀ c∈cs,c.nr p=true:=by
 unfold xP at h;split at h
 ·split at h
  ·split at h
   ·injection h with h;subst h;exact cw.1 C
   ·split at h
    ·injection h with h;subst h;intro c D;rw[List.mem_singleton.1 D];exact C
    ·cases h
   ·cases h
  ·cases h
 ·cases h
def A.yj:A->Bool
 |.aG .. |.ptr _|.lf (.own _)=>true
 |_=>false
def A.arJ(x:A)(K:n9):x.cL K=x\/(x.cL K).yj=false:=by
 cases x with
 | lf l=>cases l with
  |own k=>cases h:K.l k<;>simp[A.cL,Lf.cL,h,A.yj]
  |_=>exact .inl rfl
 |ptr k=>cases h:K.p k<;>simp[A.cL,h,A.yj]
 |aG r j=>cases h:K.r r<;>simp[A.cL,h,A.yj]
 |pk r j=>cases h:K.r r<;>simp[A.cL,h,A.yj]
 |view k s i j=>cases h:K.p k<;>simp[A.cL,h,A.yj]
 |fn f cap=>cases h:(cap.any λp=>K.r p.1)<;>simp[A.cL,h,A.yj]
 |_=>exact .inr rfl
structure jn (p pb:Nat->Bool) (σ dz:S):Prop where
 t:∀{g},(σ.t g).qh p pb=true->dz.t g=σ.t g
 sl:∀r,p r=false->∀y,dz.m r=some (.sl y) ↔ σ.m r=some (.sl y)
 aB:∀r,p r=false->∀cs,σ.m r=some (.aB cs)->∃f:Lf->Lf,dz.m r=some (.aB (cs.map f))/\∀l,l.nr p=true->f l=l
 nw:∀g,dz.t g=σ.t g\/(dz.t g).yj=false
def jn.refl{p pb:Nat->Bool}(σ:S):jn p pb σ σ:=
 ⟨λ_=>rfl,λ_ _ _=>.rfl,λ_ _ cs h=>⟨id,by rw[List.map_id];exact h,λ_ _=>rfl⟩,λ_=>.inl rfl⟩
def jn.trans{p pb:Nat->Bool}{σ E L:S}(h:jn p pb σ E)(D:jn p pb E L):jn p pb σ L:=by
 refine⟨λ{g} O=>?_,λr C y=>(D.sl r C y).trans (h.sl r C y),λr C cs U=>?_,λg=>?_⟩
 ·have e:=h.t O;rw[D.t (by rw[e];exact O),e]
 ·obtain⟨f,Y,Z⟩:=h.aB r C cs U;obtain⟨T,h3,h4⟩:=D.aB r C _ Y;exact⟨T ∘ f,by rw[<-List.map_map];exact h3,λl hl=>by show T (f l)=l;rw[Z l hl,h4 l hl]⟩
 ·rcases D.nw g with e | e
  ·rw[e];exact h.nw g
  ·exact .inr e
def jn.root{p pb:Nat->Bool}{σ D:S}(n:Nat)(x:bu)(C:p n=true)(hb:pb n=true)(h:jn p pb σ D):jn p pb σ ((D.drop n).root n x):=by
 refine h.trans ⟨λL=>A.FD L C hb,λr E y=>aeh (JR E C) y,λr E cs O=>⟨Lf.drop n,?_,λl hl=>Lf.AE hl C⟩,λg=>A.arJ _ _⟩
 show JP n x D.m r=_;rw[aeg (JR E C),O];rfl
def jn.rt{p pb:Nat->Bool}{σ D:S}(n:Nat)(x:bu)(E:p n=true)(h:jn p pb σ D):jn p pb σ (D.root n x):=by
 have e:∀r,p r=false->(D.root n x).m r=D.m r:=λr C=>cU _ _ _ (JR C E)
 exact h.trans ⟨λ_=>rfl,λr C y=>by rw[e r C],λr C cs L=>⟨id,by rw[e r C,List.map_id];exact L,λ_ _=>rfl⟩,λ_=>.inl rfl⟩
end
end Go.Proofs.YtnilicojgkhpnaaGreat
