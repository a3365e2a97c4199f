/-
  Running the program over pure contents, and that it follows (part 3). Nothing here is a claim.
-/
import Derived.Lib.AppendStr
import Derived.MapKept
import Derived.Test.YtnilicojgkhpnaaGreatV2
set_option linter.unusedSimpArgs false
namespace Go.Proofs.YtnilicojgkhpnaaGreat
set_option linter.defProp false
open Go.RowKit
set_option linter.unusedVariables false
def dT:Nat:=89999
def qj(aj:bK)(k:aa Nat):bK:=λb=>match aj b with
 |some q=>bif k.isSuffixOf q then some (q.take (q.length-k.length)++[dT])else bif dc dT q then none else some q
 |none=>none
def Xf(σ:S)(c:ou)(args:aa Operand)(q:Nat):Bool:=match nO σ c.ps args with
 |some C=>!dK q ((ov 0 C).map (·.1))&&C.any λD=>Nat.beq D.root dT
 |none=>false
def IW{X:Type}(N:Nat)(σ:S)(E:ah Tmp)(c:ou)(args:aa Operand)(k:S->ah X):ah X:=
 match args with
 | .tmp t :: _=>(match σ.t t with
  | .lf (.own [j,i,s,q])=>(match σ.m q with
   | some (.sl (.sl C (o+2) L l))=>if s=aE C then (if hi:i<l.length then (match (enc C o l[i])[j]? with
    | some y=>bif Nat.ble N 20000&&Nat.ble 20000 q&&Nat.blt q 60000&&Xf ((σ.fo [q,dT] [dT] [(dT,.sl y)]).set t (.lf (.own [dT]))) c args q then sD N ((σ.fo [q,dT] [dT] [(dT,.sl y)]).set t (.lf (.own [dT]))) E c args λD=>(match D.m dT with
      | some (.sl O)=>(match dec C o (splice (enc C o l[i]) j [O])with
       |some e=>k ((D.drop dT).root q (.sl (.sl C (o+2) L (l.set i e))))
       |none=>none)
      |_=>none)else none
    |none=>none)else none)else none
   |_=>none)
  |_=>none)
 |_=>none
section
variable {P:Program} {w w':World} {w0:Wd} {B N:Nat} {aj dN aD:bK} {ρ fm ρ':Nat->Loc} {σ:S} {a:Act} {X:Type} {d:Nat} {r:X} {o:Oper} {K:aa Nat} {m:Nat->ah bh}
def O9{b:Nat}(h:aj b=none):qj aj K b=none:=by simp[qj,h]
def aqK{b:Nat}{p:aa Nat}(h:aj b=some (p++K)):qj aj K b=some (p++[dT]):=by
 have C:K.isSuffixOf _=true:=List.isSuffixOf_iff_suffix.2 ⟨p,rfl⟩;simp[qj,h,C]
def Xg{b:Nat}{k:aa Nat}(h:aj b=some k)(C:¬ K <:+ k)(D:dc dT k=false):qj aj K b=some k:=by
 have C:K.isSuffixOf k=false:=by
  grind
 simp[qj,h,C,D]
def RV.cut{k:aa Nat}{x:V}{v:Value}(h:RV w B aj k x v)(p:aa Nat)(D:k=p++K\/x.aF=true):RV w B (qj aj K) (p++[dT]) x v:=
 h.map (Q:=λk C=>∃ p,k=p++K/\C=p++[dT]) (dQ _) (λb _ h=>⟨rfl,O9 h⟩) (λb k C _ hl e=>by
  obtain⟨p,rfl,rfl⟩:=e;exact⟨rfl,aqK hl,λj i s=>⟨j::i::s::p,rfl,rfl⟩⟩) (D.symm.imp_right λh=>⟨p,h,rfl⟩)
def RV.aqL{k:aa Nat}{x:V}{v:Value}(h:RV w B aj k x v)(L:∀ b,aj b≠some [])(O:((∀ p,¬ K <:+ p++k)/\dc dT k=false)\/x.aF=true):RV w B (qj aj K) k x v:=
 h.map (Q:=λk C=>k=C/\(∀ p,¬ K <:+ p++k)/\dc dT k=false) (dQ _) (λb _ h=>⟨rfl,O9 h⟩) (λb k C _ hl e=>by
  obtain⟨rfl,D,E⟩:=e
  refine⟨rfl,Xg hl (D []) E,λj i s=>⟨rfl,λp=>?_,?_⟩⟩
  ·have:=D (p++[j,i,s])
   rwa [List.append_assoc]at this
  ·rw[OE (by rintro rfl;exact L b hl)];exact E) (O.symm.imp_right λh=>⟨rfl,h⟩)
def Rl.aqM{t:Nat}{x:A}(h:Rl w0 N aj ρ σ a w)(D:RA w w0.heap.size aj ρ x (a.tmps.getD t undef)):Rl w0 N aj ρ (σ.set t x) a w:=by
 refine⟨h.below,h.dw,h.root,λk=>?_,h.size,h.defers,h.fix,h.dH⟩
 show RA w _ aj ρ (cg σ.t t x k) _;by_cases C:k=t
 ·subst C;rw[cv];exact D
 ·rw[cR _ _ _ C];exact h.tmp k
def Rl.aqN{q:Nat}{x:bh}(h:Rl w0 N aj ρ σ a w)(E:ez w w0.heap.size aj ρ q x):Rl w0 N aj ρ (σ.root q x) a w:=by
 refine⟨h.below,h.dw,λr y C=>?_,h.tmp,h.size,h.defers,h.fix,h.dH⟩
 have C:cg σ.m q _ r=some y:=C;by_cases D:r=q
 ·subst D;rw[cv]at C;simp_all
 ·rw[cR _ _ _ D]at C;exact h.root r y C
def js.aqO(h:Rl w0 N aj ρ σ a w):js w0 w w:=⟨rfl,rfl,rfl,dQ _,λ_ _ _=>rfl⟩
def aqP{f:Nat}{args:Array Operand}{nM:Array TypeId}{c:ou}{k:S -> ah X}(ho:o.op = .call { callee:=.value (.func f),args,argTypes:=nM })(he:enters P f)(hc:tO P f c)(h:IW N σ o.dst c args.toList k=some r):∃ dn,k dn=some r/\lZ P w0 N o σ dn:=by
 unfold IW at h;split at h
 ·rename_i t rest me;split at h
  ·rename_i j i s q ht;split at h
   ·rename_i E oo qn l hm;split at h
    ·rename_i hs;subst hs;split at h
     ·rename_i hi;split at h
      ·rename_i y hy;generalize aqQ:((σ.fo [q,dT] [dT] [(dT,.sl y)]).set t (.lf (.own [dT])))=qk at h;cases hb:(Nat.ble N 20000&&Nat.ble 20000 q&&Nat.blt q 60000&&Xf qk c args.toList q)with
       |false=>rw[hb]at h;cases h
       | true=>
        rw[hb,au]at h;simp only[aU]at hb;obtain⟨⟨⟨hN,EG⟩,BU⟩,Pa⟩:=hb;have hN:=cZ hN;have EG:=cZ EG;have BU:q<60000:=cZ BU;obtain⟨τ,Xe,cn,Y,zV,pG,IU,IA⟩:=Xb (w0:=w0) ho he hc h;clear h;unfold Xf at Pa;rw[zV]at Pa;simp only[aU,gV]at Pa;obtain⟨Ig,hdT⟩:=Pa;obtain⟨mu,jQ,Xh⟩:=List.any_eq_true.1 hdT;have Xh:=cK Xh;have aqR:dK dT cn=false:=by rw[<- Xh];exact IU mu jQ
        have aqS:dK q cn=false:=by
         cases D:dK q cn with
         |false=>rfl
         |true=>have:=pG q D;omega
        have Xi:q≠dT:=by unfold dT;omega
        split at Y
        ·rename_i y' It;split at Y
         ·rename_i e Xj
          refine⟨_,Y,λa w KK Q hR hK=>?_⟩
          obtain⟨aj,ρ,hR⟩:=hR;have dy:=hR.xk;have aqT:w0.F dT=none:=hR.dH dT (.inr (by decide));have eY:=hR.root q _ hm;generalize D:bh.sl (.sl E (oo+2) qn l)=x at eY;cases eY with
          |aB=>cases D
          |mp=>cases D
          |gh=>cases D
          | sl v yq cF hr=>
           injection D with D;subst D;cases hr with
           |eI=>simp at hi
           |fN=>simp at hi
           |fW=>simp at hi
           |aF _ _ _ _ _ _ _ _ _ ho=>omega
           | own _ _ _ _ _ b cap cs u hl hh hs hn sk hcc nJ=>
            have hKv:xb σ.m [j,i,aE E,q] y:=.elem j i [q] E oo qn l y (.root q _ hm) hi hy;obtain⟨Z,BV,aqU⟩:=hKv.ok hR.root;have xw:=hR.tmp t;rw[ht]at xw;have kR:a.tmps.getD t undef=Z:=by
             have h2:=xw.2;rw[BV]at h2;injection h2 with h2;exact h2.symm
            have aqV:Z=u i j:=by
             have h3:di w aj ρ [j,i,aE E,q]=some (u i j):=by
              rw[Ov,BB j i _ (show di w aj ρ [q]=some (.slice (some ⟨b,0,none⟩) l.length cap) by simp[di,cF]) hl];show w.cell? _=_;rw[cell_of_row w b _ cs _ _ hh];simp[*]
             rw[BV]at h3;injection h3
            have gu:nG Z=true:=by rw[<- kR];exact xw.1
            -- the state that the callee's caller sees
            have WO:∀ k:aa Nat,gJ k [q,dT]=false -> dc q k=false/\dc dT k=false:=by
             intro k Y;unfold gJ at Y;unfold dc;split at Y
             next z T=>rw[T];have:=adN Y;simp only[iw,List.not_mem_nil,not_or]at this;exact⟨by simpa using this.1,by simpa using this.2⟩
             next T=>rw[T];exact⟨rfl,rfl⟩
            have hKq:∀ k:aa Nat,[j,i,aE E,q] <:+ k -> dc q k=true:=by
             rintro k ⟨p,rfl⟩;simp[dc]
            have Wq:tP w w aj (qj aj [j,i,aE E,q]) ρ (cg ρ dT (.ep Z)) [q,dT] [dT]:=by
             refine⟨dQ _,λL BQ C=>⟨rfl,?_⟩,λn hn=>?_,λL k C=>(hR.dw L k C).2⟩
             ·cases O:aj L with
              |none=>exact O9 O
              | some k=>
               obtain⟨g1,g2⟩:=WO k (C k O);exact Xg O (λo8=>by rw[hKq k o8]at g1;cases g1) g2
             ·refine cR _ _ _ ?_;rintro rfl;simp[dK]at hn
            have vH:∀ L k,qj aj [j,i,aE E,q] L=some k -> (∃ U,aj L=some U)/\k≠[]:=by
             intro L k C;cases O:aj L with
             |none=>rw[O9 O]at C;cases C
             | some U=>
              refine⟨⟨U,rfl⟩,?_⟩;unfold qj at C;rw[O]at C;simp only at C;cases h1:List.isSuffixOf [j,i,aE E,q] U with
              | true=>
               rw[h1,au]at C;injection C with C;rw[<- C];simp
              | false=>
               rw[h1,aq]at C;cases h2:dc dT U with
               |true=>rw[h2,au]at C;cases C
               | false=>
                rw[h2,aq]at C;injection C with C;rw[<- C];exact(hR.dw L U O).2.2
            have vR:Rl w0 N (qj aj [j,i,aE E,q]) (cg ρ dT (.ep Z)) (σ.fo [q,dT] [dT] [(dT,.sl y)]) a w:=by
             refine hR.tQ Wq (js.aqO hR) (λL k C=>?_) (λn hn=>?_) (λn z T=>?_)
             ·obtain⟨⟨U,O⟩,Pb⟩:=vH L k C;have:=hR.dw L U O;exact⟨this.1,this.2.1,Pb⟩
             ·have:n=dT:=by simpa [dK]using hn
              rw[this];exact aqT
             ·have hn:n=dT/\z = .sl y:=by
               rw[List.lookup_cons]at T;cases EW:(n==dT)with
               |false=>rw[EW]at T;cases T
               | true=>
                rw[EW]at T;injection T with T;exact⟨by simpa using EW,T.symm⟩
              obtain⟨rfl,rfl⟩:=hn;exact .sl Z y (cv _ _ _) (aqU.cut [] (.inl rfl))
            have lI:Rl w0 N (qj aj [j,i,aE E,q]) (cg ρ dT (.ep Z)) qk a w:=by
             rw[<- aqQ];refine vR.aqM ?_;rw[kR];exact⟨gu,by simp only[di,cv]⟩
            refine IA a w KK Q _ _ lI λvv w' dN fm vQ IV xu su xF=>?_
            -- behind the call
            have xy:90000 <= jc o.dst:=by unfold jc;split<;>omega
            have aqW:vQ dT = .ep Z:=by
             rw[xF dT (by unfold dT;omega),xu.fl dT aqR,cv]
            have aqX:vQ q = .ep (.slice (some ⟨b,0,none⟩) l.length cap):=by
             rw[xF q (by omega),xu.fl q aqS,cR _ _ _ Xi,cF]
            have eY:=IV.root dT _ It;generalize D:bh.sl y'=x at eY;cases eY with
            |aB=>cases D
            |mp=>cases D
            |gh=>cases D
            | sl v' y'' g9 fE=>
             injection D with D;subst D;rw[aqW]at g9;injection g9 with g9;subst g9;have Xk:=IV.xk;have hrel:Rel dT dN (dN.ic dT [j,i,aE E,q]):=Ib Xk;have ad6:dc dT [q]=false:=by simpa [dc]using λe=>Xi e
             have EV:qj aj [j,i,aE E,q] b=some [q]:=Xg hl (λo8=>by have:=o8.length_le;simp at this) ad6;have aqY:gJ [q] ((ov 0 Xe).map (·.1))=false:=Ig;obtain⟨g1,g2⟩:=xu.same b (xu.aj b _ EV).1 (λk C=>by rw[EV]at C;injection C with C;subst C;exact aqY);have aqZ:dN b=some [q]:=g2.trans EV;have aq0:dN.ic dT [j,i,aE E,q] b=some [q]:=hrel.lX b _ aqZ ad6;have hR4:=IV.rel hrel (λL k C=>by
              unfold bK.ic at C;cases O:dN L with
              |none=>rw[O]at C;cases C
              | some U=>
               rw[O]at C;injection C with C;subst C;exact⟨⟨U,rfl⟩,adg (by simp) (λe=>Xk L (by rw[O,e]))⟩)
             refine hK _ _ ⟨_,vQ,hR4.aqN (.sl _ _ aqX ?_)⟩;have hj:j<aE E:=by
              have:=(dV.1 hy).1
              rwa [kP]at this
             refine RV.Oz (w':=w') (cs:=cs) (xs:=[y']) (u:=u) (us:=u) aq0 (g1.trans hh) hs hn sk hi (show j+1 <= aE E from hj) Xj (λi' sF j' x D hij=>⟨hcc i' sF j' x D,?_⟩) (λn x D=>?_)
             ·have Xl:=nJ i' sF j' x D;have aq1:¬ (i'=i/\j'=j):=λe=>hij ⟨e.1,by simp;omega⟩
              have ad7:dc dT [j',i',aE E,q]=false:=by simpa [dc]using λe=>Xi e
              have a1:=Xl.aqL (K:=[j,i,aE E,q]) dy (.inl ⟨λp o8=>?_,ad7⟩)
              ·have a2:=a1.tQ xu (.inl (by simpa [gJ]using Ig));exact a2.rel hrel (.inl ad7)
              ·have e1:[j,i,aE E,q]=[j',i',aE E,q]:=VV o8 ⟨p,rfl⟩ rfl;injection e1 with e1 e2;injection e2 with e2 e3;exact aq1 ⟨e2.symm,e1.symm⟩
             ·cases n with
              | zero=>
               simp only[List.getElem?_cons_zero,iO]at D;subst D;refine⟨hcc i hi j y hy,?_⟩;have:=fE.ic (q:=dT) (nk:=[j,i,aE E,q]) Xk;rw[adf,aqV]at this;exact this
              |succ n=>simp at D
         ·cases Y
        ·cases Y
      ·cases h
     ·cases h
    ·cases h
   ·cases h
  ·cases h
 ·cases h
def aq2{C:ah Tmp}{c:ou}{args:aa Operand}(D:∀ σ,cP λX k=>sD (X:=X) N σ C c args k):cP λX k=>IW (X:=X) N σ C c args k:=λX Y k g=>by
 unfold IW
 repeat' first|rfl|refine dz ((D _ _ _ _ _).trans (aZ _ (funext λE=>?_))) rfl|split
def xH:∀ (q:aa Nat),cP λX k=>jt (X:=X) m q k
 |[]=>λ_ _ _ _=>rfl
 | [x]=>λX Y k g=>by
  simp only[jt]
  repeat' first|rfl|refine dz ?_ ?_|split
 |[_,_]=>λ_ _ _ _=>rfl
 | j :: i :: s :: q=>λX Y k g=>by
  simp only[jt]
  refine(xH q _ _ _ _).trans (aZ _ (funext λy=>?_))
  repeat' first|rfl|split
  all_goals simp_all
def EX{x:Lf}:cP λX k=>pg (X:=X) σ x k:=by
 cases x with
 |own q=>exact xH q
 |_=>exact λ_ _ _ _=>rfl
def ad8{q:aa Nat}{s i j:Nat}:cP λX k=>vC (X:=X) σ q s i j k:=λX Y k g=>by
 refine(xH q _ _ _ _).trans (aZ _ (funext λy=>?_))
 repeat' first|rfl|refine dz ?_ ?_|split
def Xm{x:A}:cP λX k=>sq (X:=X) σ x k:=by
 cases x with
 |lf l=>exact EX
 |view=>exact ad8
 |_=>exact λ_ _ _ _=>rfl
def Xn{x:A}:cP λX k=>vK (X:=X) x k:=λX Y k g=>by
 unfold vK
 repeat' first|rfl|refine dz ?_ ?_|split
def aq3{ty:TypeId}{C:BinOp}{x y:V}:cP λX k=>HY (X:=X) P ty C x y k:=λX Y k g=>by
 unfold HY
 repeat' first|rfl|refine dz ?_ ?_|split
def aq4{C:BinOp}{t:TypeId}{x y:A}:cP λX k=>zC (X:=X) P σ C t x y k:=λX Y k g=>by
 unfold zC;split
 ·repeat' first|rfl|refine dz ?_ ?_|split
 ·split
  ·refine(EX _ _ _ _).trans (aZ _ (funext λz=>?_))
   repeat' first|rfl|refine dz ?_ ?_|split
  ·rfl
 ·exact(Xn.comp λa=>Xn.comp λb=>aq3.comp (b:=λX k z=>k (.lf (.v z))) λz _ _ _ _=>rfl) X Y k g
def aq5{C:UnOp}{x:V}:cP λX k=>HZ (X:=X) C x k:=λX Y k g=>by
 unfold HZ
 repeat' first|rfl|refine dz ?_ ?_|split
def Pc{t:TypeId}{cs:aa Lf}:cP λX k=>xh (X:=X) P t cs k:=λX Y k g=>by
 unfold xh
 repeat' first|rfl|refine dz ?_ ?_|split
def ad9{t:TypeId}{x:A}:cP λX k=>od (X:=X) P σ t x k:=λX Y k g=>by
 unfold od;split
 ·rfl
 ·split
  ·split
   ·exact Pc _ _ _ _
   ·rfl
  ·exact Pc _ _ _ _
  ·refine(xH _ _ _ _ _).trans (aZ _ (funext λz=>?_))
   repeat' first|rfl|exact Pc _ _ _ _|split
  ·rfl
def aq6{s:TypeId}{x:A}{f:Nat}:cP λX k=>EB (X:=X) P s x f k:=λX Y k g=>by
 unfold EB
 repeat' first|rfl|refine dz ?_ ?_|split
def aq7{t:TypeId}{x i:A}:cP λX k=>zl (X:=X) P σ t x i k:=λX Y k g=>by
 unfold zl;split
 ·rfl
 ·split
  ·split
   ·repeat' first|rfl|refine dz ?_ ?_|split
   ·refine(xH _ _ _ _ _).trans (aZ _ (funext λz=>?_))
    repeat' first|rfl|refine dz ?_ ?_|split
   ·rfl
  ·rfl
def aq8{t:TypeId}{x:A}:cP λX k=>BM (X:=X) P σ t x k:=λX Y k g=>by
 unfold BM;split
 ·refine(EX _ _ _ _).trans (aZ _ (funext λz=>?_))
  repeat' first|rfl|refine dz ?_ ?_|split
 ·repeat' first|rfl|refine dz ?_ ?_|split
 ·rfl
def aq9{x:A}{i:Nat}:cP λX k=>BN (X:=X) x i k:=λX Y k g=>by
 unfold BN
 repeat' first|rfl|refine dz ?_ ?_|split
def ara{t:TypeId}{parts:aa (Nat×Operand)}:cP λX k=>EH (X:=X) P σ t parts k:=λX Y k g=>by
 unfold EH
 repeat' first|rfl|refine dz ?_ ?_|split
def arb{s:TypeId}{x:A}{f:Nat}:cP λX k=>Ir (X:=X) P s x f k:=λX Y k g=>by
 unfold Ir
 repeat' first|rfl|refine dz ?_ ?_|split
def aea{C:Bool}{x y:A}:cP λX k=>EI (X:=X) C x y k:=λX Y k g=>by
 unfold EI
 repeat' first|rfl|refine dz ?_ ?_|split
def arc{t:TypeId}{x i:A}:cP λX k=>Is (X:=X) P t x i k:=λX Y k g=>by
 unfold Is
 repeat' first|rfl|refine dz ?_ ?_|split
def ard{C D:TypeId}{x:A}:cP λX k=>zy (X:=X) P σ C D x k:=λX Y k g=>by
 unfold zy;split
 ·repeat' first|rfl|refine dz ?_ ?_|split
 ·refine(EX _ _ _ _).trans (aZ _ (funext λz=>?_))
  unfold OS
  repeat' first|rfl|refine dz ?_ ?_|split
 ·rfl
def EY{x:ah A}{d:Int}:cP λX k=>tG (X:=X) x d k:=λX Y k g=>by
 unfold tG
 repeat' first|rfl|refine dz ?_ ?_|split
def aeb{t:TypeId}{q:aa Nat}{C:ah Nat}{lo hi:ah A}:cP λX k=>BY (X:=X) P σ t q C lo hi k:=λX Y k g=>by
 unfold BY;split
 ·split
  ·refine(xH _ _ _ _ _).trans (aZ _ (funext λz=>?_))
   unfold EN;split
   ·split
    ·refine(EY _ _ _ _).trans (aZ _ (funext λ_=>(EY _ _ _ _).trans (aZ _ (funext λ_=>?_))))
     repeat' first|rfl|refine dz ?_ ?_|split
    ·rfl
   ·rfl
  ·rfl
 ·rfl
def arf{t:TypeId}{x:A}{lo hi:ah A}:cP λX k=>zF (X:=X) P σ t x lo hi k:=λX Y k g=>by
 unfold zF;split
 ·exact aeb _ _ _ _
 ·exact aeb _ _ _ _
 ·unfold xo;split
  ·split
   ·refine(EY _ _ _ _).trans (aZ _ (funext λ_=>(EY _ _ _ _).trans (aZ _ (funext λ_=>?_))))
    repeat' first|rfl|refine dz ?_ ?_|split
   ·rfl
  ·split
   ·split
    ·split
     ·refine dz ((EY _ _ _ _).trans (aZ _ (funext λ_=>(EY _ _ _ _).trans (aZ _ (funext λ_=>?_))))) rfl
      repeat' first|rfl|refine dz ?_ ?_|split
     ·rfl
    ·rfl
   ·rfl
  ·rfl
def xJ{C:ah Tmp}{x:A}:cP λX k=>iy (X:=X) N σ C x k:=λX Y k g=>by
 unfold iy
 repeat' first|rfl|refine dz ?_ ?_|split
def Pd{x:bh}{y:A}:cP λX k=>iB (X:=X) N σ d x y k:=λX Y k g=>dz rfl rfl
def EZ{x:bh}{y:A}{k:S -> ah X}(h:iB N σ d x y k=some r):k (((σ.drop d).root d x).set d y)=some r/\mK (λX k=>iB (X:=X) N σ d x y k) (((σ.drop d).root d x).set d y):=by
 unfold iB at h;cases C:Nat.blt d N with
 |false=>simp_all
 |true=>rw[C]at h;exact⟨h,λX k=>by simp[iB,C,au]⟩
def arh{e:TypeId}{k:S -> ah X}(h:qZ P N σ d e k=some r):∃ x y,k (((σ.drop d).root d x).set d y)=some r/\y = .aH d 0/\(∀ (C:S),mK (λX k=>qZ (X:=X) P N C d e k) (((C.drop d).root d x).set d y)):=by
 unfold qZ at h;split at h
 ·rename_i z D;obtain⟨E,_⟩:=EZ h
  refine⟨_,_,E,rfl,λC X k=>?_⟩
  obtain⟨L,_⟩:=pq h;have hb:Nat.blt d N=true:=jn L;simp[qZ,D,iB,hb,au]
 ·cases h
def aec{t:TypeId}{l c:A}{k:S -> ah X}(h:zo P N σ d t l c k=some r):∃ y,k (((σ.drop d).root d (.sl y)).set d (.lf (.own [d])))=some r/\(∀ (C:S),mK (λX k=>zo (X:=X) P N C d t l c k) (((C.drop d).root d (.sl y)).set d (.lf (.own [d])))):=by
 unfold zo at h;split at h
 ·rename_i e U Y n Z c D;split at h
  ·cases h
  ·rename_i z E;split at h
   ·rename_i hb;obtain⟨L,_⟩:=EZ h
    refine⟨_,L,λC X k=>?_⟩
    obtain⟨O,_⟩:=pq h;have T:Nat.blt d N=true:=jn O;simp[zo,D,E,bI hb,iB,T,au]
   ·cases h
 ·cases h
def aed{t:TypeId}{len:Nat}{parts:aa (Nat×Operand)}{k:S -> ah X}(h:zx P N σ d t len parts k=some r):∃ y,k (((σ.drop d).root d (.sl y)).set d (.lf (.own [d])))=some r /\
  (∀(C:S),(∀p∈parts,aL C p.2=aL σ p.2) -> mK (λX k=>zx (X:=X) P N C d t len parts k) (((C.drop d).root d (.sl y)).set d (.lf (.own [d])))):=by
 unfold zx at h;split at h
 ·rename_i e D L;split at h
  ·rename_i z O;cases E:(Nat.beq (full D) 0&&Nat.beq z.cells.size (aE D)&&Nat.blt (len*aE D) 16777217)with
   |false=>simp_all
   | true=>
    rw[E,au]at h;split at h
    ·rename_i cs T;split at h
     ·rename_i vs U;split at h
      ·rename_i l hl;obtain⟨Y,_⟩:=EZ h
       refine⟨_,Y,λC Z X k=>?_⟩
       obtain⟨hN,_⟩:=pq h;have gZ:Nat.blt d N=true:=jn hN;have e:(parts.map λp=>(p.1,aL C p.2))=parts.map λp=>(p.1,aL σ p.2):=List.map_congr_left λp hp=>by rw[Z p hp]
       simp[zx,L,O,E,au,e,T,U,hl,iB,gZ]
      ·cases h
     ·cases h
    ·cases h
  ·cases h
 ·cases h
def ari{t:TypeId}{x y:A}:cP λX k=>tD (X:=X) P N σ d t x y k:=λX Y k g=>by
 unfold tD;split
 ·refine dz ((Xm _ _ _ _).trans (aZ _ (funext λC=>?_))) rfl
  repeat' first|rfl|exact Pd _ _ _ _|refine dz ?_ ?_|split
 ·rfl
def aee:∀ (q:aa Nat) (y:V),cP λX k=>xj (X:=X) m q y k
 |[],_=>λ_ _ _ _=>rfl
 | [x],y=>λX Y k g=>by
  simp only[xj]
  repeat' first|rfl|refine dz ?_ ?_|split
 |[_,_],_=>λ_ _ _ _=>rfl
 | j :: i :: s :: q,y=>λX Y k g=>by
  simp only[xj]
  refine(xH q _ _ _ _).trans (aZ _ (funext λz=>?_))
  repeat' first|rfl|exact aee q _ _ _ _ _|split
def aef{t:TypeId}{x y:A}:cP λX k=>qe (X:=X) P σ t x y k:=λX Y k g=>by
 unfold qe;split
 ·split
  ·split
   ·repeat' first|rfl|refine dz ?_ ?_|split
   ·split
    ·rfl
    ·refine(xH _ _ _ _ _).trans (aZ _ (funext λz=>?_))
     repeat' first|rfl|exact aee _ _ _ _ _ _|refine dz ?_ ?_|split
   ·rfl
  ·rfl
 ·rfl
def Xo:∀ (xs:aa Lf),cP λX k=>q9 (X:=X) σ xs k
 |[]=>λ_ _ _ _=>rfl
 |x::xs=>EX.comp λy=>(Xo xs).comp (b:=λX k ys=>k (y.gH::ys)) λ_ _ _ _ _=>rfl
def aeg{x:A}:cP λX k=>oh (X:=X) σ x k:=λX Y k g=>by
 unfold oh
 repeat' first|rfl|exact Xo _ _ _ _ _|exact ad8 _ _ _ _|split
def arj{x:A}:cP λX k=>vL (X:=X) σ x k:=λX Y k g=>by
 unfold vL
 repeat' first|rfl|exact aeg _ _ _ _|refine(Xo _ _ _ _ _).trans (aZ _ (funext λz=>?_))|split
def Xp{f:(X:Type)->A->(Pt->ah X)->ah X}(C:∀ x,cP λX k=>f X x k):∀ (xs:aa Operand),cP λX k=>vM (f X) σ xs k
 |[]=>λ_ _ _ _=>rfl
 |x::xs=>(C _).comp λp=>(Xp C xs).comp (b:=λX k ps=>k (p::ps)) λ_ _ _ _ _=>rfl
def E0{xs:aa Operand}:cP λX k=>sv (X:=X) σ xs k:=Xp (λ_=>aeg) xs
def aeh{xs:aa Operand}:cP λX k=>BZ (X:=X) σ xs k:=Xp (λ_=>arj) xs
def Pe{C:gj}:cP λX k=>oq (X:=X) σ d C k:=λX Y k g=>by
 unfold oq
 repeat' first|rfl|refine dz ?_ ?_|split
def aei{f:Nat}{c:jb}(C:iH P f c){ev:(X:Type)->(aa Pt->ah X)->ah X}(D:cP ev):cP λX k=>sy (X:=X) N σ d c (ev X) k:=λX Y k g=>
 dz ((D.comp λps=>(C.1 ps).comp λE=>Pe) X Y k g) rfl
def Pf{f:Nat}{c:jb}(Y:iH P f c){ev:(X:Type)->(aa Pt->ah X)->ah X}(Z:cP ev){k:S->ah X}(h:sy N σ d c (ev X) k=some r):∃ C D,oq σ d C some=some D/\k D=some r/\
  ∀E O (L:(X:Type)->(aa Pt->ah X)->ah X),(∀(X:Type) (k:aa Pt->ah X),L X k=ev X k)->oq E d C some=some O->mK (λX k=>sy (X:=X) N E d c (L X) k) O:=by
 unfold sy at h;cases T:Nat.blt d N with
 |false=>rw[T]at h;cases h
 | true=>
  rw[T,au]at h;obtain⟨ps,h2,hd⟩:=Z.nK h;obtain⟨C,h3,WB⟩:=(Y.1 ps).nK h2;obtain⟨D,h4,hd3⟩:=Pe.nK h3
  refine⟨C,D,hd3 _ _,h4,λE O L ha iI X k=>?_⟩
  obtain⟨τ2,U,hd4⟩:=Pe.nK iI;injection U with U;subst U;show sy N E d c (L X) k=_;unfold sy;rw[T,au,ha,hd X];exact(WB X _).trans (hd4 X k)
/-! Keys that do not end in certain names. -/
def oy(p:Nat->Bool)(k:aa Nat):Bool:=!jB p k
def vS(p pb:Nat->Bool):nI:=⟨jB p,jB p,pb⟩
def Lf.nr(p:Nat->Bool):Lf->Bool:=Lf.fr (jB p)
def A.nr(p:Nat->Bool):A->Bool:=A.fr (vS p p)
def IX{p:Nat->Bool}{n:Nat}(C:p n=true)(k:aa Nat)(h:dc n k=true):jB p k=true:=by
 unfold jB;rw[show k.getLast?=some n by simpa [dc]using h];exact C
def aej{p:Nat->Bool}{k:aa Nat}{n:Nat}(h:oy p k=true)(C:p n=true):dc n k=false:=by
 cases hl:dc n k with
 |false=>rfl
 |true=>unfold oy at h;rw[IX C k hl]at h;cases h
def ark{p:Nat->Bool}{n:Nat}(C:p n=true)(r:Nat)(h:Nat.beq r n=true):p r=true:=by rw[cK h];exact C
def Lf.zW{p:Nat->Bool}{x:Lf}{n:Nat}(h:x.nr p=true)(C:p n=true):x.drop n=x:=Lf.qT (Lf.vt (IX C) h)
def qU.zW{p:Nat->Bool}{xs:aa Lf}{n:Nat}(h:xs.all (Lf.nr p)=true)(C:p n=true):xs.map (Lf.drop n)=xs:=qU.qT (cx.2 λc D=>Lf.vt (IX C) (cx.1 h c D))
def A.E1{p pb:Nat->Bool}{x:A}{n:Nat}(h:x.fr (vS p pb)=true)(C:p n=true)(hb:pb n=true):x.drop n=x:=A.qT (A.vt (K:=xd n) (J:=vS p pb) (IX C) (IX C) (ark hb) h)
def A.zW{p:Nat->Bool}{x:A}{n:Nat}(h:x.nr p=true)(C:p n=true):x.drop n=x:=A.E1 h C C
def S.ext'{σ C:S}(D:∀ k,σ.t k=C.t k)(E:∀ r,σ.m r=C.m r):σ=C:=by
 cases σ;cases C;simp
 grind
def S.set_set{e d:Nat}(h:e≠d)(v u:A):(σ.set d v).set e u=(σ.set e u).set d v:=by
 refine S.ext' (λk=>?_) λ_=>rfl
 show cg (cg σ.t d v) e u k=cg (cg σ.t e u) d v k;by_cases C:k=e
 ·subst C;rw[cv,cR _ _ _ h,cv]
 ·by_cases D:k=d
  ·subst D;rw[cR _ _ _ C,cv,cv]
  ·rw[cR _ _ _ C,cR _ _ _ D,cR _ _ _ D,cR _ _ _ C]
def S.drop_set(n:Nat){v:A}(C:v.drop n=v):(σ.set d v).drop n=(σ.drop n).set d v:=by
 refine S.ext' (λk=>?_) λ_=>rfl
 show (cg σ.t d v k).drop n=cg (λk=>(σ.t k).drop n) d v k;by_cases h:k=d
 ·subst h;rw[cv,cv,C]
 ·rw[cR _ _ _ h,cR _ _ _ h]
def Xq(v:A):∀ (xs:aa V) (c:Nat) (σ:S),(∀ n,c <= n -> v.drop n=v) -> mL c (σ.set d v) xs=(mL c σ xs).set d v
 |[],c,σ,h=>rfl
 | x :: xs,c,σ,h=>by
  simp[mL];cases D:x.aF with
  | true=>
   exact Xq v xs _ σ (λn C=>h n (by omega))
  | false=>
   rw[S.drop_set c (h c (dQ _))];exact Xq v xs _ ((σ.drop c).root c _) (λn C=>h n (by omega))
def aek(v:A):∀ (ps:aa Pt) (c:Nat) (σ:S),(∀ n,c <= n -> v.drop n=v) -> pI c (σ.set d v) ps=(pI c σ ps).set d v
 |[],c,σ,h=>rfl
 | p :: ps,c,σ,h=>by
  simp[pI];rw[Xq v p.2 c σ h];exact aek v ps _ _ (λn C=>h n (by omega))
end
def zX{X:Type}(N:Nat)(σ:S)(d:Nat)(x:A)(k:S->ah X):ah X:=
 match x.zk with
 |some xs=>bif xs.all Lf.live then iB N σ d (.aB (xs.map (Lf.drop d))) (.aH d 0) k else none
 |none=>none
def Pg{X:Type}(x:A)(k:A->ah X):ah X:=
 match x with
 |.aH r j=>k (.aH r j)
 |.ptr q=>k (.ptr q)
 |.jr cs=>k (.jr cs)
 |_=>none
section
variable {P:Program} {w w':World} {w0:Wd} {B N:Nat} {aj aD:bK} {ρ ρ':Nat->Loc} {σ:S} {a:Act} {X:Type} {d:Nat} {r:X} {o:Oper}
def arl{e:TypeId}{x:A}{k:S -> ah X}(h:zX N σ d x k=some r):∃ D,k D=some r /\ ∀ aj ρ a w,Rl w0 N aj ρ σ a w -> ∀ u,RA w w0.heap.size aj ρ x u ->
  ∃w' aD ρ' v,(Instr.box e u).run P w = .ok v w'/\Rl w0 N aD ρ' D (a.put (some d) v) w':=by
 unfold zX at h;split at h
 ·rename_i xs U;cases E:xs.all Lf.live with
  |false=>grind
  | true=>
   rw[E,au]at h;obtain⟨L,h⟩:=pq h
   refine⟨_,h,λaj ρ a w hR u Y=>?_⟩
   obtain⟨hl,_⟩:=H9 U E Y;have Z:(Instr.box e u).run P w = .ok (.pointer (some ⟨w.heap.size,0,none⟩)) (w.alloc (.cells u.cells e)):=by
    simp[Instr.box,newVar,newRow]
   refine⟨_,cg aj w.heap.size (some [d]),cg ρ d (.aB w.heap.size 0),_,Z,(hR.ED (hR.dH d (.inl L)) (λr C=>cR _ _ _ C) ?_).set ⟨w.heap.size,0,cv _ _ _,rfl⟩ L⟩
   have h1:eO (w.alloc (.cells u.cells e)) w0.heap.size (cg aj w.heap.size (some [d])) ρ xs u.cells:=
    hl.lX (by simp) (λb hb=>⟨Below.heap_alloc w _ b hb,cR _ _ _ (by omega)⟩) (λb k hb=>(hR.dw b k hb).2.1)
   have O:=h1.fl (ρ':=cg ρ d (.aB w.heap.size 0)) (d:=d) (λr C=>cR _ _ _ C)
   refine .aB w.heap.size 0 u.cells e _ (λj=>u.cells.getD j undef) (cv _ _ _) (cv _ _ _) (heap_alloc_new w _) (by rw[O.1];omega) λj y hy=>?_
   obtain⟨v,T,C⟩:=O.2 j y hy;have hg:u.cells.getD j undef=v:=by rw[iM,T];rfl
   rw[hg,fD];exact⟨T,C⟩
 ·cases h
def arn{x:A}{k:S -> ah X}(h:zX N σ d x k=some r):∃ y u,k (((σ.drop d).root d y).set d u)=some r/\(∀ (C:S),mK (λX k=>zX (X:=X) N C d x k) (((C.drop d).root d y).set d u)):=by
 unfold zX at h;split at h
 ·rename_i xs E;cases D:xs.all Lf.live with
  |false=>simp_all
  | true=>
   rw[D]at h;obtain⟨L,_⟩:=EZ h
   refine⟨_,_,L,λC X k=>?_⟩
   obtain⟨O,_⟩:=pq h;have hb:Nat.blt d N=true:=jn O;simp[zX,E,D,iB,hb,au]
 ·cases h
def aro{x:A}{k:A->ah X}(h:Pg x k=some r):k x=some r/\∀ u,RA w B aj ρ x u->∃ ad,u = .pointer (some ad):=by
 unfold Pg at h;split at h
 ·exact⟨h,λu C=>by obtain⟨b,off,_,rfl⟩:=C;exact⟨_,rfl⟩⟩
 ·exact⟨h,λu C=>by obtain⟨ad,rfl,_⟩:=C;exact⟨_,rfl⟩⟩
 ·exact⟨h,λu C=>by obtain⟨b,off,rfl,_⟩:=C;exact⟨_,rfl⟩⟩
 ·cases h
end
def qm(t:TypeId):Bool:=[999999,999999,82,999999,87,999999,999999,999999,999999,999999,113,999999,999999,999999,999999].any (Nat.beq t)
def xK{X:Type}(P:Program)(N:Nat)(σ:S)(d:Nat)(t:TypeId)(len:Nat)(parts:aa (Nat×Operand))(k:S->ah X):ah X:=
 match vG P t with
 | some (e,C)=>match zeroOf P e with
  | some z=>bif Nat.beq z.cells.size (aE C)&&Nat.blt (len*aE C) 16777217 then (match zu (λi=>some (i*aE C,aE C)) (List.replicate len (z.cells.toList.map og)).flatten (parts.map λp=>(p.1,aL σ p.2))with
   |some cs=>bif Nat.beq len 0 then iB N σ d (.sl (.sl C (full C+2) true [])) (.lf (.own [d])) k else iB N σ d (.aB (cs.map (Lf.drop d))) (.pk d len) k
   |none=>none)else none
  |none=>none
 |none=>none
def Cf{X:Type}(N:Nat)(σ:S)(d r D:Nat)(C:TC)(n:Nat)(k:S->ah X):ah X:=
 match σ.m D,σ.m r with
 | some (.aB cs),some (.sl (.sl E (o+2) q l))=>if h:E=C then (match iA r (λj=>(j % aE C) :: (l.length+j / aE C) :: aE C :: [r]) cs.length 0 cs σ with
  | some (L,O)=>(match Ip C o n L with
   |some l2=>bif Nat.blt d N&&bM (l.length+l2.length)then k (((O.drop r).root r (.sl (.sl C (o+2) false ((h ▸ l)++l2)))).set d (.lf (.own [r])))else none
   |none=>none)
  |none=>none)else none
 |_,_=>none
def IY{X:Type}(P:Program)(N:Nat)(σ:S)(d:Nat)(t:TypeId)(x y:A)(k:S->ah X):ah X:=
 match vG P t,y with
 | some (e,C),.pk D n=>bif (zeroOf P e).any (λz=>Nat.beq z.cells.size (aE C))&&(Nat.blt d N&&Nat.blt n qS)then (match x with
  |.lf (.v .nil)=>Cf N ((σ.drop d).root d (.sl (.sl C (full C+2) false []))) d d D C n k
  |.lf (.own [r])=>bif Nat.blt r N ||Nat.ble 60000 r then Cf N σ d r D C n k else none
  |_=>none)else none
 |_,_=>none
def tT{X:Type}(P:Program)(σ:S)(t:TypeId)(x y:A)(k:S->ah X):ah X:=
 match jC P t,y.zk,x with
 | some n,some xs,.ptr [j,i,s,r]=>if xs.length=n then (bif xs.all Lf.live then (match iA r (λm=>(j+m) :: i :: s :: [r]) xs.length 0 xs σ with
  | some (E,D)=>(match D.m r with
   | some (.sl (.sl C (o+2) L l))=>if s=aE C then (if h:i<l.length then (if j+n<=aE C then (match dec C o (splice (enc C o l[i]) j E)with
    |some e=>k (D.fo [r] [] [(r,.sl (.sl C (o+2) L (l.set i e)))])
    |none=>none)else none)else none)else none
   |_=>none)
  |none=>none)else none)else none
 |_,_,_=>none
def xN(x y:A):Bool:=match x,y.zk with
 |.ptr _,some xs=>(qY xs).isNone
 |_,_=>false
section
variable {P:Program} {w w':World} {w0:Wd} {B N:Nat} {aj aD:bK} {ρ ρ':Nat->Loc} {σ:S} {a:Act} {X:Type} {d:Nat} {r:X} {o:Oper}
def ael{place:Nat -> ah (Nat×Nat)}:∀ (parts:aa (Nat×A)) (cells out:aa Lf),zu place cells parts=some out -> out.length=cells.length
 |[],cells,out,h=>by injection h with h;rw[h]
 | (i,x) :: rest,cells,out,h=>by
  unfold zu at h;split at h
  ·rename_i off n xs C D;split at h
   ·rename_i E;cases hl:xs.all _ with
    | true=>
     rw[hl]at h;rw[ael rest _ _ h,tu _ _ _ (by omega)]
    |false=>simp_all
   ·cases h
  ·cases h
def arp{t:TypeId}{len:Nat}{parts:Array (Nat×Operand)}{k:S -> ah X}(h:xK P N σ d t len parts.toList k=some r):∃ dn,k dn=some r /\ ∀ aj ρ a w,Rl w0 N aj ρ σ a w ->
  ∃w' aD ρ' v,(Instr.buildSlice t len (parts.map λ(i,x)=>(i,a.eval x))).run P w = .ok v w'/\Rl w0 N aD ρ' dn (a.put (some d) v) w':=by
 unfold xK at h;split at h
 ·rename_i e D pz;obtain⟨gv,ht,i,hi,U,jW⟩:=zp pz;split at h
  ·rename_i z hz;cases Y:(Nat.beq z.cells.size (aE D)&&Nat.blt (len*aE D) 16777217)with
   |false=>rw[Y]at h;cases h
   | true=>
    rw[Y,au]at h;rw[aU]at Y;have nj:=cK Y.1;have hsm:len*aE D<16777217:=by have:=cZ Y.2;omega
    have pE:i.zero=some z:=by unfold zeroOf at hz;simpa [hi]using hz
    split at h
    ·rename_i cs gI;have key:∀ aj ρ (a:Act) w,Rl w0 N aj ρ σ a w -> ∃ C,(Instr.buildSlice t len (parts.map λ(i,x)=>(i,a.eval x))).run P w = .ok (.slice (some ⟨w.heap.size,0,none⟩) len len) (w.alloc (.cells C e))/\eO w w0.heap.size aj ρ cs C/\C.size=cs.length:=λaj ρ a w hR=>by
      have Wl:eO w w0.heap.size aj ρ (List.replicate len (z.cells.toList.map og)).flatten (madeCells z.cells (len*aE D)):=by
       have e1:(List.replicate len (z.cells.toList.map og)).flatten=((List.replicate len z.cells.toList).flatten).map og:=by
        rw[List.map_flatten,List.map_replicate]
       rw[e1,<- adu z.cells (aE D) len nj (oY D)]
       refine⟨by simp,λj x E=>?_⟩
       rw[eR]at E;cases T:(madeCells z.cells (len*aE D)).toList[j]? with
       |none=>rw[T]at E;cases E
       | some v=>
        rw[T]at E;injection E with E;subst E;exact⟨v,by simpa using T,OJ v⟩
      obtain⟨C,xq,hl⟩:=OP (w:=w) (B:=w0.heap.size) (aj:=aj) (ρ:=ρ) _ _ _ (parts.toList.map λp=>(p.1,a.eval p.2)) cs gI Wl (by simp) (λj p q L Z=>by
       rw[eR]at L Z;cases E:parts.toList[j]? with
       |none=>rw[E]at L;cases L
       | some x=>
        rw[E]at L Z;injection L with L;injection Z with Z;subst L Z;exact⟨rfl,hR.aL x.2⟩)
      have dP:(Instr.buildSlice t len (parts.map λ(i,x)=>(i,a.eval x))).run P w = .ok (.slice (some ⟨w.heap.size,0,none⟩) len len) (w.alloc (.cells C e)):=by
       have Iq:(parts.map λ(i,x)=>(i,a.eval x)).toList=parts.toList.map λp=>(p.1,a.eval p.2):=by simp
       by_cases h0:len*aE D=0
       ·have hm:madeCells z.cells (len*aE D) = #[]:=by rw[h0];simp[madeCells]
        rw[hm]at xq;have Wm:len*i.size=0:=by rw[U];exact h0
        rw[<- U]at xq;have e0:∀f:Nat -> Value,Array.map f (Array.range 0) = #[]:=λf=>by simp
        simp only[Instr.buildSlice,gq,ia gv,sizeOf,typeInfo];simp[hi,Wm];rw[e0,xq];simp[newRow]
       ·exact run_buildSlice (P:=P) w t e len _ C i z gv hi pE (by rw[U];omega) (by rw[U];exact h0) (by rw[U,Iq];exact xq)
      exact⟨C,dP,hl,hl.1⟩
     cases oe:Nat.beq len 0 with
     | true=>
      rw[oe,au]at h;have hln:=cK oe;subst hln;obtain⟨hd,h⟩:=pq h
      refine⟨_,h,λaj ρ a w hR=>?_⟩
      obtain⟨C,dP,hl,hcz⟩:=key aj ρ a w hR;have xy:cs.length=0:=by
       have h1:=ael _ _ _ gI;rw[h1];simp
      refine⟨_,cg aj w.heap.size (some [d]),cg ρ d (.ep (.slice (some ⟨w.heap.size,0,none⟩) 0 0)),_,dP,(hR.ED (hR.dH d (.inl hd)) (λr O=>cR _ _ _ O) (.sl _ _ (cv _ _ _) ?_)).set ⟨rfl,by simp[di,cv]⟩ hd⟩
      exact RV.own (w:=w.alloc (.cells C e)) (B:=w0.heap.size) (aj:=cg aj w.heap.size (some [d])) [d] D (full D) true [] w.heap.size 0 C (λ_ _=>undef)
       (cv _ _ _) (by rw[ht];exact heap_alloc_new w _) (by omega) (dQ _) ⟨by unfold maxLen;omega,λ_=>rfl⟩ (λi' h'=>absurd h' (by simp)) (λi' h'=>absurd h' (by simp))
     |false=>
     rw[oe,aq]at h;obtain⟨hd,h⟩:=pq h
     refine⟨_,h,λaj ρ a w hR=>?_⟩
     obtain⟨C,dP,hl,_⟩:=key aj ρ a w hR
     refine⟨_,cg aj w.heap.size (some [d]),cg ρ d (.aB w.heap.size 0),_,dP,(hR.ED (hR.dH d (.inl hd)) (λr O=>cR _ _ _ O) ?_).set ⟨w.heap.size,cv _ _ _,(VP (by have:=Nat.le_mul_of_pos_right len (oY D);unfold qS;omega)).symm⟩ hd⟩
     have h1:eO (w.alloc (.cells C e)) w0.heap.size (cg aj w.heap.size (some [d])) ρ cs C:=
      hl.lX (by simp) (λb hb=>⟨Below.heap_alloc w _ b hb,cR _ _ _ (by omega)⟩) (λb k hb=>(hR.dw b k hb).2.1)
     have h2:=h1.fl (ρ':=cg ρ d (.aB w.heap.size 0)) (d:=d) (λr O=>cR _ _ _ O)
     refine .aB w.heap.size 0 C e _ (λj=>C.getD j undef) (cv _ _ _) (cv _ _ _) (heap_alloc_new w _) (by rw[h2.1];omega) λj y hy=>?_
     obtain⟨v,T,O⟩:=h2.2 j y hy;have hg:C.getD j undef=v:=by rw[iM,T];rfl
     rw[hg,fD];exact⟨T,O⟩
    ·cases h
  ·cases h
 ·cases h
def arq{t:TypeId}{len:Nat}{parts:aa (Nat×Operand)}{k:S -> ah X}(h:xK P N σ d t len parts k=some r):∃ y u,k (((σ.drop d).root d y).set d u)=some r /\
  (∀(C:S),(∀p∈parts,aL C p.2=aL σ p.2) -> mK (λX k=>xK (X:=X) P N C d t len parts k) (((C.drop d).root d y).set d u)):=by
 unfold xK at h;split at h
 ·rename_i e tc Z;split at h
  ·rename_i z hz;cases D:(Nat.beq _ _&&Nat.blt _ 16777217)with
   |false=>rw[D]at h;cases h
   | true=>
    rw[D]at h;split at h
    ·rename_i cs gI;cases E:Nat.beq len 0 with
     | true=>
      rw[E,au]at h;obtain⟨L,_⟩:=EZ h
      refine⟨_,_,L,λC O X k=>?_⟩
      obtain⟨T,_⟩:=pq h;have U:Nat.blt d N=true:=jn T;have e:(parts.map λp=>(p.1,aL C p.2))=parts.map λp=>(p.1,aL σ p.2):=List.map_congr_left λp Y=>by rw[O p Y]
      simp only[xK,Z,hz,D,au,e,gI,iB,U,E]
     | false=>
      rw[E,aq]at h;obtain⟨L,_⟩:=EZ h
      refine⟨_,_,L,λC O X k=>?_⟩
      obtain⟨T,_⟩:=pq h;have U:Nat.blt d N=true:=jn T;have e:(parts.map λp=>(p.1,aL C p.2))=parts.map λp=>(p.1,aL σ p.2):=List.map_congr_left λp Y=>by rw[O p Y]
      simp only[xK,Z,hz,D,au,e,gI,iB,U,E,aq]
    ·cases h
  ·cases h
 ·cases h
def aem{t e ty:TypeId}{Y:TC}{i:TypeInfo}{z:Value}{rr ry n:Nat}{k:S -> ah X}(gv:P.underlying t=some (.slice e))(ht:tid Y=e)(hi:P.info? e=some i)(hz:i.zero=some z)
  (iL:i.size=aE Y) (jW:i.bytes <= 65536) (nj:z.cells.size=aE Y) (h:Cf N σ d rr ry Y n k=some r):∃dn,k dn=some r /\ ∀aj ρ a w,Rl w0 N aj ρ σ a w -> w0.F rr=none -> ∀u v b,ρ rr = .ep u -> ρ ry = .aB b 0 -> v = .slice (some ⟨b,0,none⟩) n n ->
  ∃w' aD ρ' z,(Builtin.append_ #[t,t] ty #[u,v]).run P w = .ok z w'/\Rl w0 N aD ρ' dn (a.put (some d) z) w':=by
 unfold Cf at h;split at h
 ·rename_i cs E o q l Xr hr;split at h
  ·rename_i nL;subst nL;split at h
   ·rename_i vs τ Xs;split at h
    ·rename_i l2 lG;cases U:(Nat.blt d N&&bM (l.length+l2.length))with
     |false=>rw[U]at h;cases h
     | true=>
      rw[U,au]at h;rw[aU]at U;have Ik:l.length+l2.length<1073741824:=by simpa [bM]using U.2
      have hd:d<N:=by have:=cZ U.1;omega
      refine⟨_,h,λaj ρ a w hR hF u v b ars art O=>?_⟩
      subst O;have Z:=hR.root ry _ Xr;generalize C:bh.aB cs=x at Z;cases Z with
      |sl=>cases C
      |mp=>cases C
      |gh=>cases C
      | aB b' off cells e' eM us cF qd hh hs hc=>
       injection C with C;subst C;rw[art]at cF;injection cF with e1 e2;subst e1 e2;have kQ:eO w w0.heap.size aj ρ cs ((List.range cs.length).map us).toArray:=by
        refine⟨by simp,λj x L=>?_⟩
        have D:j<cs.length:=(dV.1 L).1;exact⟨us j,by simp[D],(hc j x L).2⟩
       obtain⟨aD,dJ,BJ,Ph,_,nJ,kR,_,_⟩:=OF (w0:=w0) (N:=N) (λj=>by simp[dc]) _ _ _ _ _ _ Xs aj ρ a w hR _ kQ;obtain⟨EK,aru,iR⟩:=Wj E o n vs l2 lG;have vH:cs.length=n*aE E:=by rw[<- BJ,aru]
       have mc:∀ j,j<cs.length -> (us j).oneCell'=true:=by
        intro j D;have L:=bZ (by rw[BJ];exact D);obtain⟨u',vF,T⟩:=Ph j _ L;have:u'=us j:=by simpa [D]using vF.symm
        rw[<- this];exact T.one
       have Xt:b<w.heap.size:=(iW.1 hh).1;have q6:Reads w w.heap.size (aE E) (some ⟨b,0,none⟩) n ((List.range cs.length).map us):=by
        refine⟨by simp[vH],λhn=>⟨b,0,rfl,Xt,λj v O=>?_⟩⟩
        have D:j<cs.length:=by have:=(dV.1 O).1;simpa using this
        have:v=us j:=by simpa [D]using O.symm
        subst this;rw[cell_of_row w b _ cells _ _ hh];simp_all
       have gZ:tF w w0.heap.size aD rr l.length E o l2 ((List.range cs.length).map us):=by
        intro i' sF j x L;have D:j<aE E:=by have:=(dV.1 L).1;rwa [kP]at this
        obtain⟨y,Z,hw⟩:=iR i' sF j x L;obtain⟨u',vF,T⟩:=Ph _ _ Z;refine⟨u',vF,?_⟩;have e1:(0+(i'*aE E+j)) % aE E=j:=by rw[fD,Nat.add_comm,Nat.add_mul_mod_self_right,Nat.mod_eq_of_lt D]
        have e2:(0+(i'*aE E+j)) / aE E=i':=by rw[fD,Nat.add_comm,Nat.add_mul_div_right _ _ (oY E),Nat.div_eq_of_lt D,fD]
        simp only[e1,e2]at T;exact T.wk hw
       have IZ:=dJ.root rr _ (nJ _ hr);generalize C:bh.sl (.sl E (o+2) q l)=x at IZ;cases IZ with
       |aB=>cases C
       |mp=>cases C
       |gh=>cases C
       | sl uu y g9 T=>
        injection C with C;subst C;rw[ars]at g9;injection g9 with g9;subst g9;obtain⟨v',w',dN,dP,lI,gu⟩:=dJ.ap3 (ty:=ty) (c:=n) hF gv ht hi hz iL jW nj T q6 (λv O=>by
         obtain⟨j,D⟩:=List.mem_iff_getElem?.1 O;have Io:j<cs.length:=by have:=(dV.1 D).1;simpa using this
         have:v=us j:=by simpa [Io]using D.symm
         rw[this];exact mc j Io) EK.symm gZ Ik
        exact⟨w',dN,_,v',dP,lI.set ⟨gu,by simp[di,cv]⟩ hd⟩
    ·cases h
   ·cases h
  ·cases h
 ·cases h
def arv{rr C n:Nat}{D:TC}:cP λX k=>Cf (X:=X) N σ d rr C D n k:=λX Y k g=>by
 unfold Cf
 repeat' first|rfl|refine dz ?_ ?_|split
def arw{t ty:TypeId}{x y:A}{k:S -> ah X}(h:IY P N σ d t x y k=some r):∃ C,k C=some r /\ ∀ aj ρ a w,Rl w0 N aj ρ σ a w -> ∀ u v,RA w w0.heap.size aj ρ x u -> RA w w0.heap.size aj ρ y v ->
  ∃w' aD ρ' z,(Builtin.append_ #[t,t] ty #[u,v]).run P w = .ok z w'/\Rl w0 N aD ρ' C (a.put (some d) z) w':=by
 unfold IY at h;split at h
 ·rename_i e O ry n pz;obtain⟨gv,ht,i,hi,iL,jW⟩:=zp pz;cases E:((zeroOf P e).any (λz=>Nat.beq z.cells.size (aE O))&&(Nat.blt d N&&Nat.blt n qS))with
  |false=>simp_all
  | true=>
   rw[E,au]at h;rw[aU]at E;obtain⟨z,hz,L⟩:=(Option.any_eq_true _ _).1 E.1;have L:=cK L;have pE:i.zero=some z:=by unfold zeroOf at hz;simpa [hi]using hz
   have T:=E.2;rw[aU]at T;have hd:d<N:=by have:=cZ T.1;omega
   have pL:n<qS:=by have:=cZ T.2;omega
   split at h
   ·obtain⟨C,U,Y⟩:=aem (w0:=w0) (ty:=ty) gv ht hi pE iL jW L h
    refine⟨C,U,λaj ρ a w hR u v D Z=>?_⟩
    have D:u = .slice none 0 0:=by cases D.2;rfl
    subst D;obtain⟨b,hb,rfl⟩:=Z;have Xr:ry≠d:=by
     rintro rfl;unfold Cf at h;split at h
     ·simp_all
     ·cases h
    have hR0:=hR.new (d:=d) (x:=.sl (.sl O (full O+2) false [])) (.ep (.slice none 0 0)) (.sl _ _ (cv _ _ _) (.eI _ _ _)) (hR.dH d (.inl hd));exact Y _ _ a w hR0 (hR.dH d (.inl hd)) _ _ b (cv _ _ _) ((cR _ _ _ Xr).trans hb) (VP pL)
   ·rename_i rr;cases hL:(Nat.blt rr N || Nat.ble 60000 rr)with
    |false=>simp_all
    | true=>
     rw[hL,au]at h;rw[eG]at hL;have nJ:rr<N \/ 60000 <= rr:=hL.imp (λh=>by have:=cZ h;omega) (λh=>cZ h);obtain⟨C,U,Y⟩:=aem (w0:=w0) (ty:=ty) gv ht hi pE iL jW L h
     refine⟨C,U,λaj ρ a w hR u v D Z=>?_⟩
     obtain⟨b,hb,rfl⟩:=Z;have cF:ρ rr = .ep u:=by
      have h4:=D.2;simp only[di]at h4;cases hl:ρ rr with
      |aB b o=>simp_all
      |cc us=>simp_all
      |ep v=>simp_all
     exact Y aj ρ a w hR (hR.dH rr nJ) _ _ b cF hb (VP pL)
   ·cases h
 ·cases h
def arx{t:TypeId}{x y:A}:cP λX k=>IY (X:=X) P N σ d t x y k:=λX Y k g=>by
 unfold IY
 repeat' first|rfl|exact arv _ _ _ _|refine dz ?_ ?_|split
def ary{t:TypeId}{x y:A}{k:S -> ah X}(h:tT P σ t x y k=some r):∃ dn,k dn=some r /\ ∀ aj ρ a w,Rl w0 N aj ρ σ a w -> ∀ u v,RA w w0.heap.size aj ρ x u -> RA w w0.heap.size aj ρ y v ->
  ∃w' aD,(Instr.storeAt t u v).run P w = .ok () w'/\Rl w0 N aD ρ dn a w':=by
 unfold tT at h;split at h
 ·rename_i n xs j i s rr hn pn;split at h
  ·rename_i hlen;cases Xu:xs.all Lf.live with
   |false=>rw[Xu]at h;cases h
   | true=>
    rw[Xu,au]at h;split at h
    ·rename_i vs τ Xs;split at h
     ·rename_i C o' qn l iI;split at h
      ·rename_i o8;split at h
       ·rename_i hi;split at h
        ·rename_i hj;split at h
         ·rename_i e he
          refine⟨_,h,λaj ρ a w hR u v hu hv=>?_⟩
          obtain⟨ad,rfl,L⟩:=hu;obtain⟨hl,mc⟩:=H9 pn Xu hv;have kQ:eO w w0.heap.size aj ρ xs v.cells.toList.toArray:=by simpa using hl
          obtain⟨aD,dJ,BJ,Ph,_,nJ,kR,aJL,_⟩:=OF (w0:=w0) (N:=N) (λm=>by simp[dc]) _ _ _ _ _ _ Xs aj ρ a w hR _ kQ;simp only[addrAt]at L;split at L
          ·rename_i b n0 c0 cF;split at L
           ·rename_i qd;injection L with L;subst L;have IZ:=dJ.root rr _ iI;generalize D:bh.sl (.sl C (o'+2) qn l)=x at IZ;cases IZ with
            |aB=>cases D
            |mp=>cases D
            |gh=>cases D
            | sl uu y g9 fE=>
             injection D with D;subst D;rw[cF]at g9;injection g9 with g9;subst g9;cases fE with
             |aF _ _ _ _ _ _ _ _ _ ho=>omega
             |fN=>simp at hi
             |fW=>simp at hi
             | own _ _ _ _ _ _ cap cs us Pj hh hs qX hm hc hr=>
              subst o8;have Xv:v.cells.size=n:=by rw[hl.1,hlen]
              have BH:i*aE C+aE C <= c0*aE C:=by
               have:(i+1)*aE C <= c0*aE C:=iX _ (by omega);rw[iN]at this;exact this
              have lY:i*aE C+j+v.cells.toList.length <= cs.size:=by rw[lS,Xv,hs];omega
              have T:=Oy w b (i*aE C+j) v.cells.toList;obtain⟨Z,gZ,qa⟩:=HN b (tid C) v.cells.toList (i*aE C+j) w cs hh lY;have tA:∀ m,Z[m]?=if m<i*aE C+j then cs[m]? else if m<i*aE C+j+n then v.cells[m-(i*aE C+j)]? else cs[m]?:=by
               intro m;have e2:Z[m]?=(splice cs.toList (i*aE C+j) v.cells.toList)[m]?:=by
                rw[show Z[m]?=Z.toList[m]? by simp,qa];rfl
               rw[e2,xe _ _ _ (by simpa using lY),lS,Xv];simp
              have HW:Z.size=cs.size:=by
               rw[<- lS,qa];have:=tu cs.toList (i*aE C+j) v.cells.toList (by simpa using lY);simp only[splice]at this;simp_all
              have Xt:b<w.heap.size:=(iW.1 hh).1;have hz:w.heap.size <= (w.setCells b (i*aE C+j) v.cells.toList).heap.size:=Nat.le_of_eq T.size.symm;have Xw:∀E,E<w.heap.size -> aD E≠some [rr] -> (w.setCells b (i*aE C+j) v.cells.toList).heap[E]?=w.heap[E]?:=λE _ dy=>T.block E (by rintro rfl;exact dy Pj)
              have Ia:w.there b (i*aE C+j) v.cells.size:=by
               intro m vE;refine⟨?_,frozen_of_row w b _ cs _ hh⟩;rw[cell_of_row w b _ cs _ _ hh];simp;omega
              have kj:vs.length=n:=by rw[BJ,hlen]
              refine⟨_,aD,VZ w b _ t v Ia (by rw[Xv];exact hn) mc,dJ.tQ (ns:=[rr]) (cn:=[]) (fm:=ρ) (dN:=aD) ⟨hz,λE BQ U=>⟨T.block E ?_,rfl⟩,λ_ _=>rfl,λE k U=>(dJ.dw E k U).2⟩
               ⟨T.os,T.tape,T.output,hz,λk U hL=>T.block k ?_⟩ (λE k U=>?_) (λr hr=>by cases hr) (λr0 x D=>?_)⟩
              ·rintro rfl;have:=U _ Pj;simp[gJ,dK]at this
              ·rintro rfl;rcases(dJ.dw k _ Pj).1 with h1 | h1
               ·exact absurd U (Nat.not_lt.2 h1)
               ·exact h1 hL
              ·have:=dJ.dw E k U;exact⟨this.1,Nat.lt_of_lt_of_le this.2.1 hz,this.2.2⟩
              ·have iS:r0=rr/\x = .sl (.sl C (o'+2) qn (l.set i e)):=by
                simp only[List.lookup]at D;split at D
                next BQ=>injection D with D;exact⟨by simpa using BQ,D.symm⟩
                ·cases D
               obtain⟨rfl,rfl⟩:=iS;refine .sl _ _ cF ?_
               refine RV.Oz (u:=us) (us:=λ_ m=>v.cells.getD (m-j) undef) (cs:=cs) (xs:=vs) Pj gZ (HW.trans hs) qX hm hi (by rw[kj];exact hj) he (λO h' j' x Y OA=>?_) (λm x Y=>?_)
               ·have qW:j'<aE C:=by have:=(dV.1 Y).1;rwa [kP]at this
                refine⟨?_,(hr O h' j' x Y).under (n:=r0) (.inl (by simp)) hz Xw (λ_ _=>rfl)⟩
                rw[tA];have HX:¬ (¬ O*aE C+j'<i*aE C+j/\O*aE C+j'<i*aE C+j+n):=by
                 rintro⟨h1,h2⟩;rcases Nat.lt_trichotomy O i with dI|heq|Ev
                 ·have:(O+1)*aE C <= i*aE C:=iX _ dI;rw[iN]at this;omega
                 ·subst heq;exact OA ⟨rfl,by omega,by omega⟩
                 ·have:(i+1)*aE C <= O*aE C:=iX _ Ev;rw[iN]at this;omega
                split
                ·exact hc O h' j' x Y
                ·rw[bU];exact hc O h' j' x Y
               ·obtain⟨v0,BS,Ew⟩:=Ph m x Y;have vE:m<n:=by rw[<- kj];exact(dV.1 Y).1
                have ON:v.cells[m]?=some v0:=by simpa using BS
                have Ex:v.cells.getD (j+m-j) undef=v0:=by rw[show j+m-j=m by omega,iM,ON];rfl
                show Z[_]?=some (v.cells.getD (j+m-j) undef)/\RV _ _ _ _ _ (v.cells.getD (j+m-j) undef);rw[Ex,tA,bU,bI];rw[fD]at Ew
                refine⟨?_,Ew.under (n:=r0) (.inl (by simp)) hz Xw (λ_ _=>rfl)⟩
                rw[show i*aE C+(j+m)-(i*aE C+j)=m by omega];exact ON
           ·cases L
          ·cases L
         ·cases h
        ·cases h
       ·cases h
      ·cases h
     ·cases h
    ·cases h
  ·cases h
 ·cases h
def arz{t:TypeId}{x y:A}:cP λX k=>tT (X:=X) P σ t x y k:=λX Y k g=>by
 unfold tT
 repeat' first|rfl|refine dz ?_ ?_|split
end
def arB(P:Program)(f:Nat)(F:aa Int->ah Int):Prop:=
 ∀ (w:World) (l:aa (T .u8)) (h:Int) (v:Value),F l=some h->RV w w.heap.size (λ_=>none) [] (.sl .u8 0 false l) v->Hd w (λ_=>none)->Calls P f #[v] w λe w'=>
  ∃b off cells t,e = .returned (.pointer (some ⟨b,off,none⟩))/\Below w.heap.size w w'/\w.heap.size<=b/\w'.heap[b]?=some (.cells cells t (0,0))/\cells[off]?=some v/\cells[off+1]?=some (.int .i64 0)/\cells[off+2]?=some (.int .i64 h)
structure Cg where
 a:Nat
 j:Nat
 t:TC
 run:List Pt->Option (Nat×Nat)
def tU(cc:Array Value)(a j:Nat):ah Value:=match cc[a]? with
 |some (.agg us)=>us[j]?
 |some u=>bif Nat.beq j 0 then some u else none
 |none=>none
def Pm(P:Program)(f:Nat)(c:Cg):Prop:=
 ∀ (args:aa Pt) (p:Nat×Nat),c.run args=some p->∀ (w:World) (cc:Array Value),pH w args cc->Hd w (λ_=>none)->Calls P f cc w λe w'=>
  ∃A n cap,tU cc c.a c.j=some (.slice A n cap)/\p.1<=p.2/\p.2<=n/\e = .returned (sliced A p.1 p.2 cap (aE c.t))/\Below w.heap.size w w'
def aen(σ:S)(args:aa Operand)(a j:Nat):ah Lf:=match args[a]? with
 | some x=>(match aL σ x with
  |.agg cs=>cs[j]?
  |.lf l=>bif Nat.beq j 0 then some l else none
  |_=>none)
 |none=>none
def I0{X:Type}(N:Nat)(σ:S)(d:Nat)(c:Cg)(args:aa Operand)(k:S->ah X):ah X:=
 bif Nat.blt d N then sv σ args λps=>(match c.run ps with
  | some p=>(match aen σ args c.a c.j with
   |some (.v (.sl t g _ l))=>if t=c.t then (bif Nat.blt g 2&&Nat.ble p.1 p.2&&Nat.ble p.2 l.length then k (σ.set d (.lf (.v (.sl t g false ((l.take p.2).drop p.1)))))else none)else none
   |_=>none)
  |none=>none)else none
structure tV where
 run:(X:Type)->Nat->S->List A->(S->A->Option X)->Option X
def E2{α β:Type}(f:(X:Type)->(α->β->ah X)->ah X):Prop:=∀(X Y:Type) (k:α->β->ah X) (g:X->ah Y),(f X k).bind g=f Y λa b=>(k a b).bind g
def E2.nK{α β:Type}{f:(X:Type)->(α->β->ah X)->ah X}(n:E2 f){X:Type}{k:α->β->ah X}{r:X}(h:f X k=some r):∃ a b,k a b=some r/\∀ (X:Type) (k:α->β->ah X),f X k=k a b:=by
 obtain⟨⟨a,b⟩,C,D⟩:=cP.nK (f:=λX (k:α×β->ah X)=>f X λa b=>k (a,b)) (λX Y k g=>n X Y _ g) (k:=λp=>k p.1 p.2) h;exact⟨a,b,C,λX k=>D X λp=>k p.1 p.2⟩
def jR(P:Program)(f:Nat)(c:tV):Prop:=(∀ N σ xs,E2 λX k=>c.run X N σ xs k)/\
 ∀ [Inhabited Wd] (N:Nat) (σ:S) (xs:aa A) (C:S) (y:A),c.run (S×A) N σ xs (λσ y=>some (σ,y))=some (C,y)->
  ∀ (w0:Wd) (aj:bK) (ρ:Nat->Loc) (a:Act) (w:World) (cc:Array Value),Rl w0 N aj ρ σ a w->cc.size=xs.length->(∀ i,RA w w0.heap.size aj ρ ((xs[i]?).getD .undef) (cc.getD i undef))->
   Calls P f cc w λe w'=>∃v aD ρ',e = .returned v/\Rl w0 N aD ρ' C a w'/\RA w' w0.heap.size aD ρ' y v
inductive qp where
 |p (c:jb)
 |m (c:ou)
 |n (F:List Int->Option Int)
 |v (c:Cg)
 |i (c:tV)
 |d (c:ou)
 |q (c:jb)
 |c (c:ou)
def Xx(P:Program)(f:Nat):qp->Prop
 |.p c=>iH P f c
 |.m c=>tO P f c
 |.n F=>arB P f F
 |.v c=>Pm P f c
 |.i c=>jR P f c
 |.d c=>tO P f c
 |.q c=>iH P f c
 |.c c=>tO P f c
section
variable {P:Program} {w w':World} {w0:Wd} {B N:Nat} {aj dN aD:bK} {ρ fm ρ':Nat->Loc} {σ:S} {a:Act} {X:Type} {d:Nat} {r:X} {ns cn:aa Nat} {o:Oper}
def aeo:∀ (xs:aa Lf),cP λX k=>xD (X:=X) σ ns xs k
 |[]=>λ_ _ _ _=>rfl
 |x::xs=>λX Y k g=>dz ((EX.comp λy=>(aeo xs).comp (b:=λX k ys=>k (y.gH::ys)) λ_ _ _ _ _=>rfl) X Y k g) rfl
def arC{x:A}:cP λX k=>vO (X:=X) σ ns x k:=λX Y k g=>by
 unfold vO
 repeat' first|rfl|exact aeo _ _ _ _ _|refine dz ?_ ?_|split
def Xy:∀ (ps:aa PK) (xs:aa Operand) (C:aa Mu),cP λX k=>ow (X:=X) σ ns ps xs C k:=λps=>by
 induction ps with
 |nil=>intro xs C X Y k g;cases xs<;>cases C<;>rfl
 | cons p ps D=>
  intro xs C X Y k g;cases xs with
  |nil=>cases p<;>cases C<;>rfl
  | cons x xs=>
   cases p with
   | v b t=>
    refine(arC _ _ _ _).trans (aZ _ (funext λp=>dz ?_ rfl))
    split
    ·exact D _ _ _ _ _ _
    ·rfl
   | p t E o=>
    cases C with
    |nil=>rfl
    | cons m C=>cases m with
     |sl=>rfl
     | aB=>
      simp only[ow];split
      ·exact D _ _ _ _ _ _
      ·rfl
   | s t E=>
    cases C with
    |nil=>rfl
    | cons m C=>cases m with
     |aB=>rfl
     | sl=>
      simp only[ow];split
      ·exact D _ _ _ _ _ _
      ·rfl
def arD{C:ah Tmp}{D:gj}:cP λX k=>vP (X:=X) N σ C D k:=λX Y k g=>by
 unfold vP
 repeat' first|rfl|exact Pe _ _ _ _|refine dz ?_ ?_|split
def Xz{C:ah Tmp}{c:ou}{args:aa Operand}:cP λX k=>sD (X:=X) N σ C c args k:=λX Y k g=>by
 unfold sD;split
 ·refine dz ((Xy _ _ _ _ _ _ _).trans (aZ _ (funext λx=>?_))) rfl
  split
  ·exact dz (arD _ _ _ _) rfl
  ·rfl
 ·rfl
def arE{f:Nat}{args:Array Operand}{T:Array TypeId}{c:Cg}{k:S -> ah X}(ho:o.op = .call { callee:=.value (.func f),args,argTypes:=T })(hd:o.dst=some d)(he:enters P f)(hc:Pm P f c)(h:I0 N σ d c args.toList k=some r):∃ U,k U=some r/\lZ P w0 N o σ U:=by
 unfold I0 at h;cases Y:Nat.blt d N with
 |false=>grind
 | true=>
  rw[Y,au]at h;have B1:d<N:=by have:=cZ Y;omega
  obtain⟨ps,E,me⟩:=adF (w0:=w0) (N:=N) _ _ h;split at E
  ·rename_i p hp;split at E
   ·rename_i t g q l hl;split at E
    ·rename_i nL;cases hb:(Nat.blt g 2&&Nat.ble p.1 p.2&&Nat.ble p.2 l.length)with
     |false=>grind
     | true=>
      rw[hb,au]at E;rw[aU,aU]at hb;have Z:g<2:=by have:=cZ hb.1.1;omega
      have tW:=cZ hb.1.2;have h2l:=cZ hb.2
      refine⟨_,E,λa w K Q hR hK=>?_⟩
      obtain⟨aj,ρ,hR⟩:=hR;unfold Oper.wp;rw[WA w o a f args T ho he,Oper.upon_enter];have B2:(args.map a.eval)=(args.toList.map a.eval).toArray:=by apply Array.ext';rw[Array.toList_map]
      rw[B2]
      refine(hc ps p hp w _ (me aj ρ a w hR) (w0.on hR.below (λ_ _ h=>by cases h))).mono λe w' tK=>?_
      obtain⟨A,n,cap,C,hle,hn,rfl,O⟩:=tK;have ki:RV w w0.heap.size aj [] (.sl t g q l) (.slice A n cap):=by
       unfold aen at hl;split at hl
       ·rename_i x hx;have XA:((args.toList.map a.eval).toArray)[c.a]?=some (a.eval x):=by
         rw[List.getElem?_toArray,eR,hx];rfl
        unfold tU at C;rw[XA]at C;have D:=hR.aL x;split at hl
        next cs gI=>rw[gI]at D;obtain⟨us,kQ,hrl⟩:=D;rw[kQ]at C;obtain⟨u,L,hr⟩:=hrl.2 _ _ hl;simp only at C;rw[C]at L;injection L with L;subst L;exact hr.2
        ·rename_i lf xw;rw[xw]at D;cases hj:Nat.beq c.j 0 with
         |false=>grind
         | true=>
          rw[hj]at hl C;injection hl with hl;subst hl;have D:dZ w w0.heap.size aj ρ (.v (.sl t g q l)) (a.eval x):=D;have vT:∀ us,a.eval x ≠ .agg us:=by
           intro us e;rw[e]at D;cases D.2
          generalize a.eval x=z at C D vT;cases z<;>first|exact absurd rfl (vT _)|(simp only[au,iO]at C;cases C;exact D.2)|(simp only[au,iO]at C;cases C)
        ·cases hl
       ·cases hl
      obtain⟨XB,zD,Ws⟩:=ki.part (a:=p.1) (h:=p.2) Z tW h2l;subst nL;rw[hd];have dJ:=hR.grow O (aD:=aj) (λ_ _=>rfl) (λb k hb hk=>absurd (hR.dw b k hk).2.1 (Nat.not_lt.2 hb));refine hK _ _ ⟨aj,ρ,dJ.set ⟨by simp[V.aF,Z],?_⟩ B1⟩;exact XB.lX O.size λb hb=>⟨O.block b hb,rfl⟩
    ·cases E
   ·cases E
  ·cases E
def arF{c:Cg}{args:aa Operand}:cP λX k=>I0 (X:=X) N σ d c args k:=λX Y k g=>by
 unfold I0
 refine dz ((E0 _ _ _ _).trans (aZ _ (funext λps=>?_))) rfl
 repeat' first|rfl|refine dz ?_ ?_|split
/-! Calls of functions that are run in the state of their caller. -/
def I1{X:Type}(N:Nat)(σ:S)(C:ah Tmp)(c:tV)(xs:aa A)(k:S->ah X):ah X:=c.run X N σ xs λD y=>iy N D C y k
def arG(p:Nat×Nat):A:=.aH p.1 p.2
def I2(σ:S):aa Operand->ah (aa (Nat×Nat))
 |[]=>some []
 | x :: xs=>match aL σ x,I2 σ xs with
  |.aH r j,some ps=>some ((r,j)::ps)
  |_,_=>none
def arH(w:World)(o:Oper)(a:Act)(f:Nat)(cl:Operand)(C:Array Value)(args:Array Operand)(E:Array TypeId)(L:o.op = .call { callee:=.value cl,args,argTypes:=E })(O:a.eval cl = .func (.func f) #[] C)(T:enters P f):
  (execOp a.eval o).run P w = .ok (.enter f (args.map a.eval++C)) w:=by
 obtain⟨fn,U,Y,D⟩:=T;have Z:¬ fn.name = "runtime.NumGoroutine":=by simpa using Y
 have h3':¬ fn.body=none:=by intro e;rw[e]at D;cases D
 simp[execOp,L,resolve,O,Deferred.ofValue,invoke,callFunc,Sem.run,U,Z,h3']
def Pn:A->ah (Nat×aa A)
 |.fn f cap=>some (f,cap.map arG)
 |.nH f cs=>some (f,[.jr cs])
 |_=>none
def arI{x:A}{f:Nat}{ex:aa A}{u:Value}(h:Pn x=some (f,ex))(T:RA w B aj ρ x u):∃ D:Array Value,u = .func (.func f) #[] D/\D.size=ex.length /\ ∀ (j:Nat) y,ex[j]?=some y -> RA w B aj ρ y (D.getD j undef):=by
 unfold Pn at h;split at h
 ·rename_i f' cap;injection h with h;injection h with E L;subst E L;obtain⟨D,U,Y,Z⟩:=T
  refine⟨D,U,by simp[Y],λj y C=>?_⟩
  rw[eR]at C;cases O:cap[j]? with
  |none=>simp_all
  | some p=>
   rw[O]at C;injection C with C;subst C;obtain⟨b,off,E,L⟩:=Z _ p O;rw[iM,L];exact⟨b,off,E,rfl⟩
 ·injection h with h;injection h with E L;subst E L;obtain⟨pv,e,O⟩:=T
  refine⟨#[pv],e,rfl,λj y C=>?_⟩
  rcases j with _|j
  ·injection C with C;subst C;exact O
  ·cases C
 ·cases h
def aep{f:Nat}{cl:Operand}{ex:aa A}{args:Array Operand}{Z:Array TypeId}{c:tV}{k:S->ah X}(ho:o.op = .call { callee:=.value cl,args,argTypes:=Z })(vH:Pn (aL σ cl)=some (f,ex))(he:enters P f)(hc:jR P f c)
  (h:I1 N σ o.dst c (args.toList.map (aL σ)++ex) k=some r):∃dn,k dn=some r/\lZ P w0 N o σ dn:=by
 unfold I1 at h
 haveI:Inhabited Wd:=⟨w0⟩
 obtain⟨qk,y,C,D⟩:=(hc.1 _ _ _).nK h;have IA:=hc.2 _ _ _ _ _ (D _ _);have step:∀ a w K Q,R w0 N σ a w->(∀ v w' aD ρ',Rl w0 N aD ρ' qk a w'->RA w' w0.heap.size aD ρ' y v->K (a.put o.dst v) w')->o.wp P a w K Q:=by
  intro a w K Q hR E;obtain⟨aj,ρ,hR⟩:=hR;obtain⟨O,hv,hs,kj⟩:=arI vH (hR.aL cl);unfold Oper.wp;rw[arH w o a f cl O args Z ho hv he,Oper.upon_enter]
  refine(IA w0 aj ρ a w _ hR (by simp[hs]) λi=>?_).mono λe w' tK=>?_
  ·by_cases hi:i<args.size
   ·have e1:(args.toList.map (aL σ)++ex)[i]?=some (aL σ args[i]):=by
     rw[List.getElem?_append_left (by simpa using hi),eR,Array.getElem?_toList,Array.getElem?_eq_getElem hi];rfl
    have T:(args.map a.eval++O).getD i undef=a.eval args[i]:=by
     rw[iM,Array.getElem?_append_left (by simpa using hi)];simp[hi]
    rw[e1,T];exact hR.aL _
   ·have e0:(args.toList.map (aL σ)++ex)[i]?=ex[i-args.size]?:=by
     rw[List.getElem?_append_right (by simp;omega)];simp
    rw[e0];cases hp:ex[i-args.size]? with
    |none=>trivial
    | some p=>
     have T:(args.map a.eval++O).getD i undef=O.getD (i-args.size) undef:=by
      rw[iM,Array.getElem?_append_right (by simp;omega),iM];simp
     rw[T];exact kj _ p hp
  ·obtain⟨v,aD,ρ',rfl,L,U⟩:=tK;exact E v w' aD ρ' L U
 unfold iy at C;split at C
 ·rename_i D
  refine⟨qk,C,λa w K Q hR E=>step a w K Q hR λv w' aD ρ' L _=>?_⟩
  rw[D];exact E _ _ ⟨aD,ρ',L⟩
 ·rename_i d D;cases Y:Nat.blt d N with
  |false=>rw[Y]at C;cases C
  | true=>
   rw[Y,au]at C
   refine⟨_,C,λa w K Q hR E=>step a w K Q hR λv w' aD ρ' L U=>?_⟩
   rw[D];exact E _ _ ⟨aD,ρ',L.set U (by have:=cZ Y;omega)⟩
def aeq:∀ (xs:aa Operand) (ps:aa (Nat×Nat)),I2 σ xs=some ps -> ps.length=xs.length /\ ∀ aj ρ a w,Rl w0 N aj ρ σ a w -> ∀ (j:Nat) p,ps[j]?=some p -> ∃ b off,ρ p.1 = .aB b off/\(xs.map a.eval)[j]?=some (.pointer (some ⟨b,off+p.2,none⟩))
 | [],ps,h=>by
  simp only[I2,iO]at h;simp_all
 | x :: xs,ps,h=>by
  unfold I2 at h;split at h
  ·rename_i rr j L O T;injection h with h;subst h;obtain⟨U,Y⟩:=aeq xs L T
   refine⟨by simp[U],λaj ρ a w hR C p D=>?_⟩
   cases C with
   | zero=>
    simp at D;subst D;have E:=hR.aL x;rw[O]at E;obtain⟨b,off,Z,e2⟩:=E;simp_all
   |succ C =>grind
  ·cases h
end
def A.zY(q s n:Nat):A->A
 |.lf (.own [C])=>bif Nat.beq C q then .view [q] s 0 n else .lf (.own [C])
 |x=>x
def S.zY(σ:S)(p:Nat×Nat×Nat):S:=⟨λk=>(σ.t k).zY p.1 p.2.1 p.2.2,σ.m⟩
def XC:aa (Nat×Nat×Nat)->S->S
 |[],σ=>σ
 |p::l,σ=>XC l (σ.zY p)
def XD(c0 g:Nat):Mu->aa (Nat×Nat×Nat)
 |.sl q (.sl t _ _ l)=>bif Nat.ble 1000000 g&&Nat.blt q c0 then [(q,aE t,l.length)]else []
 |_=>[]
def I3(c0:Nat):aa PK->aa Mu->aa (Nat×Nat×Nat)
 |.v _ _::ps,C=>I3 c0 ps C
 |.p _ _ _::ps,_::C=>I3 c0 ps C
 |.s _ g::ps,D::C=>XD c0 g D++I3 c0 ps C
 |_,_=>[]
def I4{X:Type}(N:Nat)(σ:S)(C:ah Tmp)(c:ou)(args:aa Operand)(k:S->ah X):ah X:=
 match nO σ c.ps args with
 |some D=>sD N σ C c args λE=>k (XC (I3 (jc C) c.ps D) E)
 |none=>none
section
variable {P:Program} {w w':World} {w0:Wd} {B N:Nat} {aj dN aD:bK} {ρ fm ρ':Nat->Loc} {σ:S} {a:Act} {X:Type} {d:Nat} {r:X} {o:Oper}
def Rl.zY{p:Nat×Nat×Nat}{ad:ah Addr}{c:Nat}(h:Rl w0 N aj ρ σ a w)(E:ρ p.1 = .ep (.slice ad p.2.2 c)):Rl w0 N aj ρ (σ.zY p) a w:=by
 refine⟨h.below,h.dw,h.root,λk=>?_,h.size,h.defers,h.fix,h.dH⟩
 have C:=h.tmp k;show RA _ _ _ _ ((σ.t k).zY p.1 p.2.1 p.2.2) _;generalize σ.t k=x at C;unfold A.zY;split
 ·rename_i L;cases hb:Nat.beq L p.1 with
  |false=>exact C
  | true=>
   obtain rfl:=cK hb;have D:=C.2;simp only[di,E]at D;injection D with D;refine⟨ad,p.2.2,c,by simp[di,E],Nat.zero_le _,dQ _,?_⟩;rw[<- D];cases ad<;>simp[sliced,Addr.add]
 ·exact C
def aer:∀ (l:aa (Nat×Nat×Nat)) (σ:S),Rl w0 N aj ρ σ a w->(∀ p∈l,∃ A c,ρ p.1 = .ep (.slice A p.2.2 c))->Rl w0 N aj ρ (XC l σ) a w
 |[],σ,h,_=>h
 | p :: l,σ,h,hl=>by
  obtain⟨A,c,C⟩:=hl p (.head _);exact aer l _ (h.zY C) λp C=>hl p (.tail _ C)
def arJ{c0 g:Nat}{D:Mu}{p:Nat×Nat×Nat}(h:p∈XD c0 g D):∃ q t o C l,D = .sl q (.sl t o C l)/\p=(q,aE t,l.length)/\q<c0:=by
 unfold XD at h;split at h
 ·rename_i q t o C l;cases hb:(Nat.ble 1000000 g&&Nat.blt q c0)with
  |false=>simp_all
  | true=>
   rw[hb]at h;rw[aU]at hb;exact⟨q,t,o,C,l,rfl,List.mem_singleton.1 h,cZ hb.2⟩
 ·cases h
def Po{c0:Nat}{p:Nat×Nat×Nat}:∀ (ps:aa PK) (C:aa Mu),p∈I3 c0 ps C -> ∃ q t o D l,Mu.sl q (.sl t o D l)∈C/\p=(q,aE t,l.length)/\q<c0
 |.v _ _::ps,C,h=>Po ps C h
 |.p _ _ _::ps,O::C,h=>let ⟨q,t,o,D,l,L,E⟩:=Po ps C h;⟨q,t,o,D,l,.tail _ L,E⟩
 | .s _ g :: ps,O :: C,h=>by
  rcases List.mem_append.1 h with h|h
  ·obtain⟨q,t,o,D,l,rfl,E⟩:=arJ h;exact⟨q,t,o,D,l,.head _,E⟩
  ·obtain⟨q,t,o,D,l,L,E⟩:=Po ps C h;exact⟨q,t,o,D,l,.tail _ L,E⟩
def RV.arK{q:aa Nat}{t:TC}{g:Nat}{C:Bool}{l:aa (T t)}{v:Value}(h:RV w B aj q (.sl t g C l) v):∃ A c,v = .slice A l.length c:=by
 cases h<;>exact⟨_,_,rfl⟩
def arL{f:Nat}{args:Array Operand}{U:Array TypeId}{c:ou}{k:S->ah X}(Y:o.op = .call { callee:=.value (.func f),args,argTypes:=U })(Z:enters P f)(hc:tO P f c)(h:I4 N σ o.dst c args.toList k=some r):∃ E,k E=some r/\lZ P w0 N o σ E:=by
 unfold I4 at h;split at h
 ·rename_i Xe L;obtain⟨qk,Pp,cn,h1,D,_,h4,h5⟩:=Xb (w0:=w0) Y Z hc h;rw[L]at D;injection D with D;subst D
  refine⟨_,h1,λa w K Q hR hK=>?_⟩
  obtain⟨aj,ρ,hR⟩:=hR
  refine h5 a w K Q aj ρ hR λv w' dN fm vQ dJ hv _ cF=>hK _ _ ⟨dN,vQ,aer _ _ dJ λp hp=>?_⟩
  obtain⟨q,t,oo,qn,l,O,rfl,hq⟩:=Po _ _ hp;have jQ:=(O2 _ _ _ L _ O).1;have T:=hR.root q _ jQ;generalize C:bh.sl _=z at T;cases T with
  |aB=>cases C
  |mp=>cases C
  |gh=>cases C
  | sl u y Wz hr=>
   injection C with C;subst C;obtain⟨A,c,rfl⟩:=hr.arK;exact⟨A,c,(cF q hq).trans ((hv.fl q (h4 _ O)).trans Wz)⟩
 ·cases h
def arM{C:ah Tmp}{c:ou}{args:aa Operand}:cP λX k=>I4 (X:=X) N σ C c args k:=λX Y k g=>by
 unfold I4;split
 ·exact Xz _ _ _ _
 ·rfl
end
def bK.un(aj:bK)(q:Nat):bK:=λb=>match aj b with
 |some k=>bif dc q k then none else some k
 |none=>none
def I5{X:Type}(P:Program)(σ:S)(q s i j:Nat)(t:TypeId)(x:A)(k:S->ah X):ah X:=
 match σ.m q with
 |some (.sl (.sl C (o+2) D l))=>bif Nat.beq s (aE C)&&Nat.beq (full C) 0 then qe P (σ.drop q) t (x.drop q) (.lf (.v (.sl C 0 false ((l.take j).drop i)))) k else none
 |_=>none
section
variable {P:Program} {w w':World} {w0:Wd} {B N:Nat} {aj aD:bK} {ρ ρ':Nat->Loc} {σ:S} {a:Act} {X:Type} {d q:Nat} {r:X} {o:Oper} {y:V}
def arN(C:∀ b,aj b≠some []):Rel q aj (aj.un q):=
 ⟨C,λb h=>by simp[bK.un,h],λb k h D=>by simp[bK.un,h,D]⟩
def RV.ice{C:TC}{g:Nat}{Y:Bool}{l:aa (T C)}{A:ah Addr}{n c:Nat}(E:RV w B aj [q] (.sl C (g+2) Y l) (.slice A n c))(hf:full C=0):RV w B (aj.un q) [] (.sl C 0 false l) (.slice A n c)/\n=l.length:=by
 cases E with
 |eI=>exact⟨.eI _ _ _,rfl⟩
 |fN=>grind
 |fW=>grind
 |aF _ _ _ _ _ _ _ _ _ ho=>omega
 | own=>
  rename_i b cs u hl O hc E hs Z hm;have U:∀ (i:Nat) (h:i<l.length) (j:Nat) (x:V),(enc C 0 l[i])[j]?=some x -> (enc C g l[i])[j]?=some x/\x.plain=true:=by
   intro i h j x D;obtain⟨y,L,rfl⟩:=w8 C g l[i] j x D;have hp:=Oq C g l[i] y (hU L);cases y with
   | sl t' o' q' l'=>
    have:=cZ (show Nat.ble _ _=true from hp);omega
   | nil=>
    have:=VM C g l[i] _ (hU L);cases this
   |_=>exact⟨L,rfl⟩
  refine⟨.aF _ _ _ _ _ b 0 c u (by omega) (by simp[bK.un,hl,dc]) (iW.1 O).1 (by omega) Z (λi h j x D=>?_) (λi h j x D=>?_),rfl⟩
  ·rw[fD,cell_of_row w b _ cs _ _ O];simp_all
  ·exact(E i h j x (U i h j x D).1).tw (U i h j x D).2
def arO{s i j:Nat}{t:TypeId}{x:A}{k:S -> ah X}(h:I5 P σ q s i j t x k=some r):∃ E,k E=some r /\ ∀ aj ρ a w,Rl w0 N aj ρ σ a w -> ∀ u v,RA w w0.heap.size aj ρ x u -> RA w w0.heap.size aj ρ (.view [q] s i j) v ->
  ∃w' aD,(Instr.storeAt t u v).run P w = .ok () w'/\Rl w0 N aD ρ E a w':=by
 unfold I5 at h;split at h
 ·rename_i L g qn l hm;cases hb:(Nat.beq s (aE L)&&Nat.beq (full L) 0)with
  |false=>rw[hb]at h;cases h
  | true=>
   rw[hb,au]at h;rw[aU]at hb;obtain rfl:=cK hb.1;have hf:=cK hb.2;obtain⟨E,h1,hs⟩:=adb (w0:=w0) (N:=N) h
   refine⟨E,h1,λaj ρ a w hR u v hu hv=>?_⟩
   have O:Rel q aj (aj.un q):=arN hR.xk;have vR:=hR.rel O (λb k C=>by
    unfold bK.un at C;cases hl:aj b with
    |none=>rw[hl]at C;cases C
    | some T=>
     rw[hl]at C;simp only at C;cases U:dc q T with
     |true=>rw[U]at C;cases C
     | false=>
      rw[U]at C;injection C with C;subst C;exact⟨⟨_,rfl⟩,(hR.dw b T hl).2.2⟩)
   obtain⟨A,n,c,Y,h3,h4,rfl⟩:=hv;have Z:=hR.root q _ hm;generalize D:bh.sl (.sl L (g+2) qn l)=z at Z;cases Z with
   |aB=>cases D
   |mp=>cases D
   |gh=>cases D
   | sl vq y cF hr=>
    injection D with D;subst D;have hvq:vq = .slice A n c:=by
     simp only[di,cF]at Y;injection Y
    subst hvq;obtain⟨h5,h6⟩:=hr.ice hf;have h7:=(h5.part (by omega) h3 (by omega)).1;obtain⟨w',dP,lI⟩:=hs _ _ _ _ vR u _ (hu.rel O) (show RA _ _ _ _ (.lf (.v _)) _ from ⟨rfl,h7⟩);exact⟨w',_,dP,lI⟩
 ·cases h
def arP{q s i j:Nat}{t:TypeId}{x:A}:cP λX k=>I5 (X:=X) P σ q s i j t x k:=λX Y k g=>by
 unfold I5
 repeat' first|rfl|exact aef _ _ _ _|refine dz ?_ ?_|split
def E3{X:Type}(P:Program)(σ:S)(t:TypeId)(x lo hi C:A)(k:ah X):ah X:=
 match x,lo,hi,C with
 | .lf (.own q),.lf (.v (.int _ a)),.lf (.v (.int _ b)),.lf (.v (.int _ c))=>(match qb P t with
  | some e=>(match jC P e with
   | some _=>jt σ.m q λy=>(match y with
    |.sl _ _ _ l=>if 0<=a/\a<=b/\b<=c/\c<=(l.length:Int)then k else none
    |_=>none)
   |none=>none)
  |none=>none)
 |_,_,_,_=>none
def arQ{t:TypeId}{x lo hi Y:A}{k:ah X}(h:E3 P σ t x lo hi Y k=some r):k=some r /\
  ∀aj ρ a w,Rl w0 N aj ρ σ a w -> ∀u L O T,RA w w0.heap.size aj ρ x u -> RA w w0.heap.size aj ρ lo L -> RA w w0.heap.size aj ρ hi O -> RA w w0.heap.size aj ρ Y T -> ∃v,(Instr.sliceAt t u (some L) (some O) (some T)).run P w = .ok v w:=by
 unfold E3 at h;split at h
 ·rename_i q kl a kh b km c;split at h
  ·rename_i e U;split at h
   ·rename_i n Z;obtain⟨y0,Wt,C⟩:=sn q _ h;split at C
    ·rename_i tc g qn xs;split at C
     ·rename_i hb
      refine⟨C,λaj ρ ac w hR u L O T hu hl hh hm=>?_⟩
      rw[hl.2.iz,hh.2.iz,hm.2.iz];have gv:P.underlying t=some (.slice e):=by
       unfold qb at U;split at U
       ·grind
       ·cases U
      have iR:P.elem t=e:=by simp[Program.elem,gv]
      have aes:P.underlying t=some (.slice (P.elem t)):=by rw[iR];exact gv
      have hss:(sizeOf (P.elem t)).run P w = .ok n w:=by
       unfold jC at Z;cases hi:P.info? e with
       |none=>grind
       | some i=>
        have:i.size=n:=by simpa [hi]using Z
        simp[sizeOf,typeInfo,iR,hi,this]
      obtain⟨v0,BS,iS⟩:=Wt.ok hR.root;have gu:∃ D n c,u = .slice D n c:=by
       have:=hu.1;cases u<;>first|cases this;done|exact⟨_,_,_,rfl⟩
      obtain⟨D,n',c',rfl⟩:=gu;have E:=hu.2;rw[BS]at E;injection E with E;subst E;have hf:RV w 0 (λ_=>none) [] (.sl tc 0 qn xs) (.slice D n' c'):=iS.gH;obtain⟨_,zD,Ws⟩:=RV.part (w:=w) hf (a:=0) (h:=xs.length) (by omega) (by omega) (by omega);refine⟨sliced D a.toNat b.toNat c.toNat n,?_⟩;rw[run_sliceAt_slice w t _ _ _ _ aes,run_slice_lhm w t D n' c' aes kl kh km a b c hb.1 hb.2.1 hb.2.2.1 (by omega),hss];rfl
     ·cases C
    ·cases C
   ·cases h
  ·cases h
 ·cases h
end
section
variable {P:Program} (w:World)
end
section
variable {P:Program} {w w':World} {w0:Wd} {B N:Nat} {aj aD:bK} {ρ ρ':Nat->Loc} {σ:S} {a:Act} {X:Type} {d:Nat} {r:X}
end
def mO(l:aa (Int×Bool))(k:Int):Bool:=match l with
 |[]=>false
 |p::ps=>bif k==p.1 then p.2 else mO ps k
def nP(l:aa (Int×Bool))(k:Int)(v:Bool):aa (Int×Bool):=match l with
 |[]=>[(k,v)]
 |p::ps=>bif k==p.1 then (k,v)::ps else p::nP ps k v
def E4(P:Program)(t:TypeId):Bool:=match P.underlying t with
 | some (.map k e)=>(match P.underlying k with
  |some (.int .i64)=>true
  |_=>false)&&(match zeroOf P e with
  |some (.bool false)=>true
  |_=>false)
 |_=>false
def XE{X:Type}(N:Nat)(σ:S)(d:Nat)(k:S->ah X):ah X:=iB N σ d (.mp []) (.pk d qS) k
def Ch{X:Type}(P:Program)(σ:S)(t:TypeId)(x i:A)(k:A->ah X):ah X:=
 match x,i with
 | .pk r n,.lf (.v (.int .i64 key))=>bif Nat.beq n qS&&E4 P t then (match σ.m r with
  |some (.mp l)=>k (.lf (.v (.bool (mO l key))))
  |_=>none)else none
 |_,_=>none
def Ci{X:Type}(P:Program)(σ:S)(t:TypeId)(x i v:A)(k:S->ah X):ah X:=
 match x,i,v with
 | .pk r n,.lf (.v (.int .i64 key)),.lf (.v (.bool b))=>bif Nat.beq n qS&&E4 P t then (match σ.m r with
  |some (.mp l)=>k ⟨σ.t,cg σ.m r (some (.mp (nP l key b)))⟩
  |_=>none)else none
 |_,_,_=>none
section
variable {P:Program} {w w':World} {w0:Wd} {B N:Nat} {aj aD:bK} {ρ ρ':Nat->Loc} {σ:S} {a:Act} {X:Type} {d:Nat} {r:X} {o:Oper}
def aet{t:TypeId}(h:E4 P t=true):∃ k e i,P.underlying t=some (.map k e)/\P.underlying k=some (.int .i64)/\P.info? e=some i/\i.zero=some (.bool false):=by
 unfold E4 at h;split at h
 ·rename_i k e D;rw[aU]at h;obtain⟨E,L⟩:=h;have O:P.underlying k=some (.int .i64):=by
   grind
  have C:zeroOf P e=some (.bool false):=by
   grind
  unfold zeroOf at C;cases hi:P.info? e with
  |none=>simp_all
  |some i =>grind
 ·cases h
def Rl.newObj{D:Obj}{x:bh}{ρ':Nat -> Loc}(h:Rl w0 N aj ρ σ a w)(E:w0.F d=none)(L:∀ r,r≠d -> ρ' r=ρ r)
  (O:ez (w.alloc D) w0.heap.size (cg aj w.heap.size (some [d])) ρ' d x):Rl w0 N (cg aj w.heap.size (some [d])) ρ' ((σ.drop d).root d x) a (w.alloc D):=by
 refine h.zn E (js.adk w0 w _ h.below.size) ⟨by simp,λb hb _=>Below.heap_alloc w _ b hb,λb hb=>cR _ _ _ (by omega),λb hb=>(h.dw b [] hb).2.2 rfl⟩ (λb k hb C=>?_) L O
 by_cases e:b=w.heap.size
 ·subst e;rw[cv]at C;injection C with C;subst C;simp_all
 ·rw[cR _ _ _ e]at C;have:=(h.dw b k C).2.1;omega
def arR{t:TypeId}{k:S -> ah X}(h:XE N σ d k=some r):∃ C,k C=some r /\ ∀ aj ρ a w,Rl w0 N aj ρ σ a w -> ∃ w' aD ρ' v,(Instr.makeMap t none).run P w = .ok v w'/\Rl w0 N aD ρ' C (a.put (some d) v) w':=by
 obtain⟨D,h⟩:=pq h
 refine⟨_,h,λaj ρ a w hR=>?_⟩
 have E:(Instr.makeMap t none).run P w = .ok _ _:=rfl
 refine⟨_,cg aj _ _,cg ρ d _,_,E,(hR.newObj (hR.dH d (.inl D)) (λr L=>cR _ _ _ L) ?_).set ⟨w.heap.size,cv _ _ _,(VQ _).symm⟩ D⟩
 exact .mp _ 0 #[] [] (cv _ _ _) (cv _ _ _) (heap_alloc_new w _) rfl
def arS:cP λX k=>XE (X:=X) N σ d k:=Pd
def arT{t:TypeId}{x i:A}:cP λX k=>Ch (X:=X) P σ t x i k:=λX Y k g=>by
 unfold Ch
 repeat' first|rfl|refine dz ?_ ?_|split
def arU{t:TypeId}{x i v:A}:cP λX k=>Ci (X:=X) P σ t x i v k:=λX Y k g=>by
 unfold Ci
 repeat' first|rfl|refine dz ?_ ?_|split
def Cj(l:aa (Int×Bool)):aa (Value×Value):=l.map λp=>(.int .i64 p.1,.bool p.2)
def XF:∀ (C:aa MapEntry) (l:aa (Int×Bool)) (k:Int) (n:Nat),C.map (λe=>(e.key,e.val))=Cj l ->
  (Instr.findNow (.int .i64) (.int .i64 k) C n=some none/\mO l k=false /\ ∀v,nP l k v=l++[(k,v)]) \/
  (∃i b,Instr.findNow (.int .i64) (.int .i64 k) C n=some (some (n+i,.bool b))/\mO l k=b /\ ∃h:i<C.length,C[i].key = .int .i64 k /\ ∀v,Cj (nP l k v)=(C.modify i λe=>{ e with key:=.int .i64 k,val:=.bool v }).map (λe=>(e.key,e.val)))
 |[],[],k,n,_=>.inl ⟨rfl,rfl,λv=>rfl⟩
 |[],_::_,k,n,h=>by cases h
 |_::_,[],k,n,h=>by cases h
 | e :: C,p :: l,k,n,h=>by
  have h:(e.key,e.val) :: C.map (λe=>(e.key,e.val))=(.int .i64 p.1,.bool p.2) :: Cj l:=h;injection h with Y O;injection Y with T Z;have D:Instr.sameNow (.int .i64) (.int .i64 k) e.key=some (k==p.1):=by
   rw[T];simp[Instr.sameNow]
  cases hb:(k==p.1)with
  | true=>
   have hkp:k=p.1:=by simpa using hb
   refine .inr ⟨0,p.2,?_,by simp only[mO,hb,au],by simp,by simp[T,hkp],λv=>?_⟩
   ·simp only[Instr.findNow,D,hb,Z];rfl
   ·simp only[nP,hb];simp;show _::Cj l=_;rw[O]
  | false=>
   rcases XF C l k (n+1) O with ⟨U,E,L⟩|⟨i,b,U,E,hi,L,a4⟩
   ·refine .inl ⟨?_,by simp[mO,hb,aq,E],λv=>by simp only[nP,hb,L];rfl⟩
    simp[Instr.findNow,D,hb];exact U
   ·refine .inr ⟨i+1,b,?_,by simp only[mO,hb,aq,E],by simpa using hi,by simpa using L,λv=>?_⟩
    ·simp[Instr.findNow,D,hb]
     grind
    ·simp only[nP,hb];simp;show _ :: Cj _=_
     grind
def Pr{kt:TypeId}{k:Int}{C:aa MapEntry}{z:ah (Nat×Value)}(D:P.underlying kt=some (.int .i64))(h:Instr.findNow (.int .i64) (.int .i64 k) C 0=some z):(Instr.findKey kt (.int .i64 k) C).run P w = .ok z w:=by
 unfold Instr.findKey;simp only[gq,ia D,mH,h];rfl
def arV{t:TypeId}{x i:A}{k:A -> ah X}(h:Ch P σ t x i k=some r):∃ v,k v=some r/\mK (λX k=>Ch (X:=X) P σ t x i k) v /\ ∀ aj ρ a w,Rl w0 N aj ρ σ a w -> ∀ u z,RA w w0.heap.size aj ρ x u -> RA w w0.heap.size aj ρ i z ->
  ∃y,(Instr.lookup t u z false).run P w = .ok y w/\RA w w0.heap.size aj ρ v y:=by
 unfold Ch at h;split at h
 ·rename_i rr n key;cases hb:(Nat.beq n qS&&E4 P t)with
  |false=>grind
  | true=>
   rw[hb,au]at h;split at h
   ·rename_i l O
    refine⟨_,h,λX k=>by simp only[Ch,hb,au,O],λaj ρ a w hR u z Z D=>?_⟩
    rw[aU]at hb;obtain⟨kt,et,ti,ht,E,hi,hz0⟩:=aet hb.2;have hn:=cK hb.1;subst hn;obtain⟨b,cF,rfl⟩:=Z;have D:z = .int .i64 key:=by
     have h2:=D.2;cases h2;rfl
    subst D;have T:=hR.root rr _ O;generalize C:bh.mp l=y at T;cases T with
    |aB=>cases C
    |sl=>cases C
    |gh=>cases C
    | mp b' c es l' U hl hh Pu=>
     injection C with C;subst C;rw[cF]at U;injection U with e1 _;subst e1;refine⟨.bool (mO l key),?_,rfl,.bool _ _⟩;rw[VQ];unfold Instr.lookup;simp only[gq,ia ht,mH,MapKept.run_getObj_map hh,Sem.run_pure];rw[MapKept.run_checkKey (k:=.int .i64 key) E rfl];simp only[mH];rcases XF es.toList l key 0 Pu with ⟨L,Y,_⟩|⟨i,v,L,Y,_⟩
     ·rw[Pr E L];have EE:(zeroValue et).run P w = .ok (.bool false) w:=by simp[zeroValue,typeInfo,hi,hz0]
      simp_all
     ·rw[Pr E L];simp only[ Y,gq];rfl
   ·cases h
 ·cases h
def arW{t:TypeId}{x i v:A}{k:S -> ah X}(h:Ci P σ t x i v k=some r):∃ T,k T=some r/\mK (λX k=>Ci (X:=X) P σ t x i v k) T /\ ∀ aj ρ a w,Rl w0 N aj ρ σ a w -> ∀ u z y,RA w w0.heap.size aj ρ x u -> RA w w0.heap.size aj ρ i z -> RA w w0.heap.size aj ρ v y ->
  ∃w',(Instr.mapUpdate t u z y).run P w = .ok () w'/\Rl w0 N aj ρ T a w':=by
 unfold Ci at h;split at h
 ·rename_i rr n key U;cases hb:(Nat.beq n qS&&E4 P t)with
  |false=>grind
  | true=>
   rw[hb,au]at h;split at h
   ·rename_i l hm
    refine⟨_,h,λX k=>by simp only[Ci,hb,au,hm],λaj ρ a w hR u z y hu Y C=>?_⟩
    rw[aU]at hb;obtain⟨kt,et,ti,ht,Z,hi,hz0⟩:=aet hb.2;have hn:=cK hb.1;subst hn;obtain⟨b,cF,rfl⟩:=hu;have Y:z = .int .i64 key:=by
     have h2:=Y.2;cases h2;rfl
    subst Y;have C:y = .bool U:=by
     have h2:=C.2;cases h2;rfl
    subst C;have eY:=hR.root rr _ hm;generalize D:bh.mp l=y at eY;cases eY with
    |aB=>cases D
    |sl=>cases D
    |gh=>cases D
    | mp b' c es l' g9 hl O Pu=>
     injection D with D;subst D;rw[cF]at g9;injection g9 with e1 _;subst e1;have Xt:b<w.heap.size:=(iW.1 O).1;have Ce:∀ (E:Array MapEntry) (L:Nat),E.toList.map (λe=>(e.key,e.val))=Cj (nP l key U) -> Rl w0 N aj ρ ⟨σ.t,cg σ.m rr (some (.mp (nP l key U)))⟩ a { w with heap:=w.heap.setIfInBounds b (.map E L) }:=by
      intro E L arX;have hW:vw w { w with heap:=w.heap.setIfInBounds b (.map E L) } b:=by
       refine⟨by simp,rfl,rfl,rfl,λk hk=>?_⟩
       show _[k]?=_;rw[Array.getElem?_setIfInBounds_ne (Ne.symm hk)]
      have hC:qV w { w with heap:=w.heap.setIfInBounds b (.map E L) } aj ρ:=by
       intro k ad v ha hv gu;obtain⟨j',i',s',q,rfl,hq,_,_,hh'⟩:=BE k ad ha;have dy:ad.block≠b:=by
        grind
       exact(World.cell?_of_block (hW.block _ dy)).trans hv
      refine hR.wrote hW hl hC λr' y C=>?_
      by_cases nJ:r'=rr
      ·subst nJ;rw[cv]at C;injection C with C;subst C;refine .mp b L E _ cF hl ?_ arX;simp_all
      ·rw[cR _ _ _ nJ]at C;exact(hR.root r' y C).wrote hW hl hC (ac3 nJ)
     rw[VQ];unfold Instr.mapUpdate;simp only[gq,ia ht,mH,MapKept.run_getObj_map O,Sem.run_pure];rw[MapKept.run_checkKey (k:=.int .i64 key) Z rfl];simp only[mH];rcases XF es.toList l key 0 Pu with ⟨a1,a2,a3⟩|⟨i,v,a1,a2,sF,a3,a4⟩
     ·rw[Pr Z a1];simp;rw[MapKept.run_setObj_map _ O];refine⟨_,rfl,Ce _ _ ?_⟩;rw[a3];simp only[Array.toList_push,List.map_append,Pu,Cj];rfl
     ·rw[Pr Z a1];simp only[mH,fD];have Xl:(es[i]?.map (·.key)).getD (.int .i64 key) = .int .i64 key:=by
       grind
      rw[Xl];have ko:(Instr.keyThatStays (.int .i64 key) (.int .i64 key)).run P w = .ok (.int .i64 key) w:=by
       unfold Instr.keyThatStays;simp[Instr.sameBits]
      simp only[gq];rw[ko];simp only[mH];rw[MapKept.run_setObj_map _ O];refine⟨_,rfl,Ce _ _ ?_⟩;rw[a4];simp
   ·cases h
 ·cases h
end
def Pv(t:TypeId)(d:Nat)(x:Operand):Bool:=[(89,26,22)].any λ(p:Nat×Nat×Nat)=>Nat.beq p.1 t&&Nat.beq p.2.1 d&&(match x with
 |.tmp n=>Nat.beq n p.2.2 ||Nat.beq p.2.2 1000000
 |_=>false)
def Cl(C:ah Tmp)(t:TypeId)(x:Operand):Bool:=match C with
 |some d=>Pv t d x
 |none=>false
def I6{X:Type}(P:Program)(N:Nat)(σ:S)(d:Nat)(t:TypeId)(x y:A)(k:S->ah X):ah X:=
 match vG P t with
 | some (e,C)=>bif Nat.beq (full C) 0&&(zeroOf P e).any (λz=>Nat.beq z.cells.size (aE C))then sq σ y λD=>(match D.OI C with
  |none=>none
  | some l2=>match x with
   | .lf (.own [r])=>(match σ.m r with
    |some (.sl (.sl E (o+2) true l))=>if h:E=C then (bif !jN l2&&bM (l.length+l2.length)then iB N σ d (.sl (.sl C (o+2) false ((h ▸ l)++l2))) (.lf (.own [d])) k else none)else none
    |_=>none)
   |_=>none)else none
 |none=>none
section
variable {P:Program} {w w':World} {w0:Wd} {B N:Nat} {aj aD:bK} {ρ ρ':Nat->Loc} {σ:S} {a:Act} {X:Type} {d:Nat} {r:X}
def Rl.arY{t e ty:TypeId}{C:TC}{i:TypeInfo}{z:Value}{rr o g:Nat}{qn:Bool}{l l2:aa (T C)}{u v:Value}{q':aa Nat}{Bx:Nat}{Wc:bK}(h:Rl w0 N aj ρ σ a w)(hF:w0.F d=none)(gv:P.underlying t=some (.slice e))(ht:tid C=e)(hi:P.info? e=some i)(hz:i.zero=some z)
  (Z:i.size=aE C) (jW:i.bytes <= 65536) (nj:z.cells.size=aE C) (hf:full C=0) (hd:RV w w0.heap.size aj [rr] (.sl C (o+2) true l) u) (hs:RV w Bx Wc q' (.sl C g qn l2) v) (dy:l2≠[]) (hlen:l.length+l2.length<1073741824):
  ∃E w' aD,(Builtin.append_ #[t,t] ty #[u,v]).run P w = .ok E w'/\Rl w0 N aD (cg ρ d (.ep E)) ((σ.drop d).root d (.sl (.sl C (o+2) false (l++l2)))) a w'/\nG E=true:=by
 subst ht;obtain⟨xs,L,OR,Ig,iR⟩:=hd.adn hf (B':=0) (λb _=>Nat.zero_le b);obtain⟨A,c,news,rfl,q6,mc,Ih⟩:=hs.reads hf;have gZ:(l.length+l2.length)*i.bytes <= 140737488355328:=by
  have h1:(l.length+l2.length)*i.bytes <= 1073741824*65536:=Nat.mul_le_mul (by omega) jW;omega
 have tE:0<l2.length:=List.length_pos_iff.2 dy;obtain⟨E,w',dP,aeu,hgr,lH⟩:=VA (P:=P) w 0 t ty (tid C) i z (aE C) i.bytes gv hi hz Z rfl nj (oY C) u l.length xs L _ A l2.length c news q6 mc (by unfold maxLen;omega) gZ (Nat.zero_le _);have Ii:(l++l2).length=l.length+l2.length:=List.length_append;have hex:∃ b,u = .slice (some ⟨b,0,none⟩) l.length l.length:=by
  cases hd with
  |aF _ _ _ _ _ _ _ _ _ ho=>omega
  |fW _ _ _ _ _ ho=>omega
  |own _ _ _ _ _ b cap cs us hl hh hs hn hm hc hr=>exact⟨b,by rw[hm.2 rfl]⟩
 obtain⟨b,rfl⟩:=hex;obtain⟨O,U,rfl,_,gI⟩:=q6.2 tE;have arZ:∀ j x,news[j]?=some x -> w.cell? ((⟨O,U,none⟩:Addr).add j)=some x:=by
  intro j x hx;have Oo:(⟨O,U,none⟩:Addr).add j=⟨O,U+j,none⟩:=by unfold Addr.add;split<;>simp_all
  grind
 have aev:=run_append_grow (P:=P) w t ty (tid C) i z gv hi hz ⟨b,0,none⟩ l.length l.length xs (by rw[Z];exact L.1) (L.cells (g:=b) rfl) ⟨O,U,none⟩ l2.length c news (by rw[Z];exact q6.1) arZ (by omega) (by omega) (growslice_fits (by omega) gZ);rw[dP]at aev;injection aev with e1 e2;have hold:∀ k,k<w.heap.size -> w'.heap[k]?=w.heap[k]?:=by
  intro k D;rw[e2];exact heap_alloc_old _ _ D
 have hvb:E.ownBlock=some w.heap.size:=by rw[e1];rfl
 have dI:w.heap.size<w'.heap.size:=by rw[e2];simp
 rw[<- Ii]at aeu;have BR:=iR.append Ih L.1;have gu:nG E=true:=by rw[e1];rfl
 have Y:Below 0 w w':=(Below.refl 0 w).grown hgr (Nat.zero_le _) (λ_ _=>Nat.zero_le _);have su:js w0 w w':=⟨Y.os,Y.tape,Y.output,Y.size,λk D hL=>hold k (Nat.lt_of_lt_of_le D h.below.size)⟩
 refine⟨E,w',cg aj w.heap.size (some [d]),dP,h.zn hF su ⟨hgr.size,λb hb _=>hold b hb,λb hb=>cR _ _ _ (by omega),λb hb=>(h.dw b [] hb).2.2 rfl⟩ (λb k hb D=>?_) (λr hr=>cR _ _ _ hr) (.sl E _ (cv _ _ _) (Wb aeu BR (λb hb=>?_))),gu⟩
 ·by_cases e:b=w.heap.size
  ·subst e;rw[cv]at D;injection D with D
   grind
  ·rw[cR _ _ _ e]at D;have:=(h.dw b k D).2.1;omega
 ·rw[hvb]at hb;injection hb with hb;subst hb;exact cv _ _ _
def ar0{t ty:TypeId}{x y:A}{k:S -> ah X}(h:I6 P N σ d t x y k=some r):∃ U,k U=some r /\ ∀ aj ρ a w,Rl w0 N aj ρ σ a w -> ∀ u v,RA w w0.heap.size aj ρ x u -> RA w w0.heap.size aj ρ y v ->
  ∃w' aD ρ' z,(Builtin.append_ #[t,t] ty #[u,v]).run P w = .ok z w'/\Rl w0 N aD ρ' U (a.put (some d) z) w':=by
 unfold I6 at h;split at h
 ·rename_i e Y pz;obtain⟨gv,ht,i,hi,iL,jW⟩:=zp pz;cases E:(Nat.beq (full Y) 0&&(zeroOf P e).any (λz=>Nat.beq z.cells.size (aE Y)))with
  |false=>grind
  | true=>
   rw[E,au]at h;rw[aU]at E;have hf:=cK E.1;obtain⟨z,Z,O⟩:=(Option.any_eq_true _ _).1 E.2;have O:=cK O;have pE:i.zero=some z:=by unfold zeroOf at Z;simpa [hi]using Z
   obtain⟨yv,OM,C⟩:=ado (w0:=w0) (N:=N) h;clear h;split at C
   ·cases C
   ·rename_i l2 lG;split at C
    ·rename_i rr;split at C
     ·rename_i t' o l hm;split at C
      ·rename_i nL;subst nL;cases L:(!jN l2&&bM (l.length+l2.length))with
       |false=>grind
       | true=>
        rw[L,au]at C;rw[aU]at L;have dy:l2≠[]:=by rintro rfl;cases L.1
        have Ik:l.length+l2.length<1073741824:=by simpa [bM]using L.2
        obtain⟨hd,h3⟩:=pq C
        refine⟨_,h3,λaj ρ a w hR u v hu hv=>?_⟩
        obtain⟨q',_,_,T⟩:=OM aj ρ a w hR v hv;obtain⟨g,qn,T⟩:=Wf lG T;have eY:=hR.root rr _ hm;generalize D:bh.sl (.sl t' (o+2) true l)=x at eY;cases eY with
        |aB=>cases D
        |mp=>cases D
        |gh=>cases D
        | sl uu y cF hr=>
         injection D with D;subst D;have Ic:uu=u:=by
          have h4:=hu.2;simp only[di,cF]at h4;simp_all
         subst Ic;obtain⟨v',w',aD,dP,dJ,gu⟩:=hR.arY (ty:=ty) (d:=d) (hR.dH d (.inl hd)) gv ht hi pE iL jW O hf hr T dy Ik;exact⟨w',aD,_,v',dP,dJ.set ⟨gu,by simp[di,cv]⟩ hd⟩
      ·cases C
     ·cases C
    ·cases C
 ·cases h
def ar1{t:TypeId}{x y:A}:cP λX k=>I6 (X:=X) P N σ d t x y k:=λX Y k g=>by
 unfold I6;split
 ·refine dz ((Xm _ _ _ _).trans (aZ _ (funext λC=>?_))) rfl
  repeat' first|rfl|exact Pd _ _ _ _|refine dz ?_ ?_|split
 ·rfl
def I7{X:Type}(P:Program)(N:Nat)(σ:S)(d:Nat)(t:TypeId)(x y:A)(k:S->ah X):ah X:=
 match x with
 |.view q s i j=>Il P N σ d t (.view q s i j) y k
 |x=>I6 P N σ d t x y k
def ar2{t ty:TypeId}{x y:A}{k:S->ah X}(h:I7 P N σ d t x y k=some r):∃ C,k C=some r/\∀ aj ρ a w,Rl w0 N aj ρ σ a w->∀ u v,RA w w0.heap.size aj ρ x u->RA w w0.heap.size aj ρ y v->
  ∃w' aD ρ' z,(Builtin.append_ #[t,t] ty #[u,v]).run P w = .ok z w'/\Rl w0 N aD ρ' C (a.put (some d) z) w':=by
 unfold I7 at h;split at h
 ·exact apV h
 ·exact ar0 h
def ar3{t:TypeId}{x y:A}:cP λX k=>I7 (X:=X) P N σ d t x y k:=λX Y k g=>by
 unfold I7;split
 ·exact apW _ _ _ _
 ·exact ar1 _ _ _ _
end
abbrev eK:=Nat->ah qp
def fX(P:Program)(Φ:eK):Prop:=∀f c,Φ f=some c->enters P f/\Xx P f c
def hD{X:Type}(o:Oper)(k:Nat->ah X):ah X:=
 match o.dst with
 |some d=>k d
 |none=>none
def fY:Op->Bool
 |.move _|.assign _|.pick .. |.build .. |.load .. |.binOp .. |.unOp .. |.convert .. |.fieldAddr .. |.field .. |.indexAddr .. |.index .. |.extract .. |.nilCheck _=>true
 |.call ⟨.builtin .len,_,_⟩|.call ⟨.builtin .max,_,_⟩|.call ⟨.builtin .min,_,_⟩=>true
 |.slice _ _ _ _ none=>true
 |_=>false
def mP{X:Type}(P:Program)(σ:S)(C:Op)(k:A->ah X):ah X:=
 match C with
 |.move x=>k (aL σ x)
 |.assign x=>k (aL σ x)
 | .pick c x y=>(match aL σ c with
  |.lf (.v (.bool b))=>bif b then k (aL σ x)else k (aL σ y)
  |_=>none)
 |.build t parts=>EH P σ t parts.toList k
 |.load t x=>od P σ t (aL σ x) k
 |.binOp C t x y _=>zC P σ C t (aL σ x) (aL σ y) k
 |.unOp C _ x=>vK (aL σ x) λa=>HZ C a λz=>k (.lf (.v z))
 |.convert s d x=>zy P σ s d (aL σ x) k
 |.fieldAddr s x f=>EB P s (aL σ x) f k
 |.field s x f=>Ir P s (aL σ x) f k
 |.indexAddr t x i=>zl P σ t (aL σ x) (aL σ i) k
 |.index t x i=>Is P t (aL σ x) (aL σ i) k
 |.extract x i=>BN (aL σ x) i k
 |.nilCheck x=>Pg (aL σ x) k
 |.call ⟨.builtin .len,⟨[x]⟩,⟨[t]⟩⟩=>BM P σ t (aL σ x) k
 |.call ⟨.builtin .max,⟨[x,y]⟩,⟨[_,_]⟩⟩=>EI true (aL σ x) (aL σ y) k
 |.call ⟨.builtin .min,⟨[x,y]⟩,⟨[_,_]⟩⟩=>EI false (aL σ x) (aL σ y) k
 |.slice t x lo hi none=>zF P σ t (aL σ x) (lo.map (aL σ)) (hi.map (aL σ)) k
 |_=>none
def iU{X:Type}(P:Program)(N:Nat)(Φ:eK)(σ:S)(o:Oper)(k:S->ah X):ah X:=
 match o.op with
 |.alloc e=>hD o λd=>qZ P N σ d e k
 |.box e x=>hD o λd=>zX N σ d (aL σ x) k
 |.buildSlice t len parts=>hD o λd=>bif qm t then xK P N σ d t len parts.toList k else zx P N σ d t len parts.toList k
 | .store t x y=>(match o.dst with
  |none=>bif xN (aL σ x) (aL σ y)then tT P σ t (aL σ x) (aL σ y) k else qe P σ t (aL σ x) (aL σ y) k
  |some _=>none)
 |.makeSlice t l c=>hD o λd=>zo P N σ d t (aL σ l) (aL σ c) k
 | .call ⟨.value (.func f),args,_⟩=>(match Φ f with
  |some (.p c)=>hD o λd=>aqj N σ d c args.toList k
  |some (.m c)=>sD N σ o.dst c args.toList k
  |some (.v c)=>hD o λd=>I0 N σ d c args.toList k
  |some (.n F)=>none
  |some (.i c)=>I1 N σ o.dst c (args.toList.map (aL σ)++[]) k
  |some (.d c)=>IW N σ o.dst c args.toList k
  |some (.q c)=>hD o λd=>aqi N σ d c args.toList k
  |some (.c c)=>I4 N σ o.dst c args.toList k
  |none=>none)
 |.call ⟨.builtin .append,⟨[x,y]⟩,⟨[t,C]⟩⟩=>bif Nat.beq t C then hD o λd=>bif qm t then IY P N σ d t (aL σ x) (aL σ y) k else bif Pv t d x then I7 P N σ d t (aL σ x) (aL σ y) k else tD P N σ d t (aL σ x) (aL σ y) k else none
 |.makeMap _ none=>hD o λd=>XE N σ d k
 |.lookup t x i false=>Ch P σ t (aL σ x) (aL σ i) λv=>iy N σ o.dst v k
 | .mapUpdate t x i v=>(match o.dst with
  |none=>Ci P σ t (aL σ x) (aL σ i) (aL σ v) k
  |some _=>none)
 | .call ⟨.value (.tmp t),args,_⟩=>(match Pn (aL σ (.tmp t))with
  | some (f,ex)=>(match Φ f with
   |some (.i c)=>I1 N σ o.dst c (args.toList.map (aL σ)++ex) k
   |_=>none)
  |none=>none)
 | .makeFunc (.func f) ⟨[]⟩ D=>(match I2 σ D.toList with
  |some ps=>iy N σ o.dst (.fn f ps) k
  |none=>none)
 |.call ⟨.builtin .clear,⟨[x]⟩,⟨[t]⟩⟩=>Im P σ t (aL σ x) λE=>iy N E o.dst .undef k
 |_=>none
def dX{X:Type}(P:Program)(N:Nat)(Φ:eK)(σ:S)(o:Oper)(k:S->ah X):ah X:=
 bif fY o.op then mP P σ o.op λv=>iy N σ o.dst v k else iU P N Φ σ o k
def I8{X:Type}(P:Program)(N:Nat)(Φ:eK)(σ:S)(o:Oper)(k:S->ah X):ah X:=
 match o.op,o.dst with
 | .store t x y,none=>(match aL σ y with
  |.view [q] s i j=>I5 P σ q s i j t (aL σ x) k
  |_=>dX P N Φ σ o k)
 |.slice t x (some lo) (some hi) (some C),some d=>E3 P σ t (aL σ x) (aL σ lo) (aL σ hi) (aL σ C) (bif Nat.blt d N then k (σ.set d .undef)else none)
 |_,_=>dX P N Φ σ o k
def fZ(σ:S)(ops:Array Oper)(o:Oper):ah Bool:=
 match o.guard with
 |none=>some true
 | some (j,want)=>match (ops[j]?).bind (·.dst)with
  | some t=>(match σ.t t with
   |.lf (.v (.bool b))=>some (b==want)
   |.skip=>some false
   |_=>none)
  |none=>none
def I9(ops:Array Oper)(j:Nat):Bool:=ops.toList.any λo=>match o.guard with
 |some (i,_)=>Nat.beq i j
 |none=>false
def sG{X:Type}(σ:S)(C:ah Tmp)(g:Bool)(k:S->ah X):ah X:=
 bif g then (match C with
  | some d=>(match σ.t d with
   |.lf (.v (.bool b))=>bif b then k (σ.set d (.lf (.v (.bool true))))else k (σ.set d (.lf (.v (.bool false))))
   |_=>k σ)
  |none=>k σ)else k σ
def Cm{X:Type}(P:Program)(N:Nat)(Φ:eK)(ops:Array Oper):Nat->aa Oper->S->(S->ah X)->ah X
 |_,[],σ,k=>k σ
 | j,o :: rest,σ,k=>match fZ σ ops o with
  |some true=>I8 P N Φ σ o λC=>sG C o.dst (I9 ops j) λD=>Cm P N Φ ops (j+1) rest D k
  |some false=>iy N σ o.dst .skip λC=>Cm P N Φ ops (j+1) rest C k
  |none=>none
/-! Regions whose order is open: what is listed is a set of bits. -/
def dL{X:Type}(P:Program)(N:Nat)(Φ:eK)(ops:Array Oper)(σ:S)(o:Oper)(k:S->ah X):ah X:=
 match fZ σ ops o with
 |some true=>dX P N Φ σ o k
 |some false=>iy N σ o.dst .skip k
 |none=>none
def mj(ops:Array Oper)(L j:Nat):Bool:=!L.testBit j&&(match ops[j]? with
 |some o=>o.after.toList.all λe=>!Region.binds .any e ||L.testBit e.on
 |none=>false)
def Ja(ops:Array Oper)(i W j:Nat):Bool:=(match ops[j]? with
 |some o=>o.after.toList.any λe=>Region.binds .any e&&(Nat.beq e.on i ||W.testBit e.on)
 |none=>false)
def waits(ops:Array Oper)(i:Nat):Nat->Nat->Nat->Nat
 |0,_,W=>W
 |n+1,j,W=>waits ops i n (j+1) (bif Ja ops i W j then W |||2 ^ j else W)
def fR(o:Oper)(n:Nat):Bool:=match o.dst with
 | some d=>(match o.op with
  |.alloc _|.box .. |.buildSlice .. |.makeSlice ..=>Nat.beq n d
  |.call ⟨.value (.func _),_,_⟩=>Nat.ble (1000000000100000+1000*d) n
  |.call ⟨.builtin .append,_,_⟩=>Nat.beq n d
  |_=>false)
 |none=>false
def Pw(Φ:eK)(C:Op):Bool:=fY C || (match C with
 |.alloc _|.box .. |.buildSlice .. |.makeSlice ..=>true
 | .call ⟨.value (.func f),_,_⟩=>(match Φ f with
  |some (.p _)=>true
  |some (.q _)=>true
  |_=>false)
 |_=>false)
def jS(g:Oper->Bool)(ops:Array Oper)(i L W:Nat):Nat->Nat->Bool
 |0,_=>false
 | f+1,j=>(!(Nat.beq j i || L.testBit j || W.testBit j)&&(match ops[j]? with
  |some C=>g C
  |none=>false)) ||jS g ops i L W f (j+1)
def Jb(g:Oper->Bool)(ops:Array Oper)(C:Oper)(i L W:Nat):Nat->Nat->Bool
 |0,_=>true
 | n+1,j=>(Nat.beq j i || L.testBit j || (bif W.testBit j then Ja ops i W j else (match ops[j]? with
  |some D=>g D&&C.apart ops D
  |none=>true)))&&Jb g ops C i L W n (j+1)
def aew(ok:Nat->Nat->Bool)(σ:S):aa PK->aa Operand->Bool
 | .p _ _ _ :: ps,.tmp t :: xs=>(match σ.t t with
  |.aH r _=>ok t r
  |_=>false)&&aew ok σ ps xs
 |.v _ _::ps,_::xs=>aew ok σ ps xs
 |[],[]=>true
 |_,_=>false
def oz(σ:S):aa PK->aa Operand->aa Nat
 | .p _ _ _ :: ps,x :: xs=>(match aL σ x with
  |.aH r _=>r::oz σ ps xs
  |_=>oz σ ps xs)
 |_::ps,_::xs=>oz σ ps xs
 |_,_=>[]
def sH(Φ:eK)(σ:S)(o:Oper):aa Nat:=match o.op with
 | .call ⟨.value (.func f),args,_⟩=>(match Φ f with
  |some (.m c)=>oz σ c.ps args.toList
  |_=>[])
 |_=>[]
def lK(t:Nat)(o:Oper):Bool:=match o.dst with
 |some d=>Nat.beq d t
 |none=>false
def vU(o:Oper):Bool:=(match o.op with
 |.alloc _=>true
 |_=>false)&&o.guard.isNone&&(match o.dst with
 |some d=>Nat.blt d 20000
 |none=>false)
def oA(o:Oper):Bool:=(match o.op with
 |.alloc _=>true
 |.buildSlice t _ _=>!qm t
 |.makeSlice ..=>true
 |_=>false)&&(match o.dst with
 |some d=>Nat.blt d 20000
 |none=>false)
def isApp(o:Oper):Bool:=match o.op with
 |.call ⟨.builtin .append,⟨[x,_]⟩,⟨[t,C]⟩⟩=>!qm t&&Nat.beq t C && !Cl o.dst t x
 |_=>false
def A.pM(p pb:Nat->Bool):A->Bool:=A.fr (vS p pb)
def Cn(σ:S)(o:Oper):aa Nat:=match o.op with
 | .store _ (.tmp t) _=>(match σ.t t with
  |.aH r _=>[r]
  |_=>[])
 | .call ⟨.builtin .append,⟨[.tmp t,_]⟩,⟨[_,_]⟩⟩=>(match σ.t t with
  |.lf (.own [r])=>[r]
  |_=>[])
 |_=>[]
def Px(σ:S)(o:Oper):aa Nat:=match o.op with
 | .call ⟨.builtin .append,⟨[.tmp t,_]⟩,⟨[_,_]⟩⟩=>(match σ.t t with
  |.lf (.own [r])=>[r]
  |_=>[])
 |_=>[]
def ar4(t:Nat)(o:Oper):Bool:=match o.op with
 |.store _ (.tmp C) _=>Nat.beq C t
 |_=>false
def faR(ops:Array Oper)(i L W:Nat)(σ:S)(o:Oper):aa Nat:=match o.op,o.dst with
 | .fieldAddr _ (.tmp x) _,some t=>bif jS (ar4 t) ops i L W ops.size 0 then (match σ.t x with
  |.aH r _=>[r]
  |_=>[])else []
 |_,_=>[]
def Co(Φ:eK)(ops:Array Oper)(i L W:Nat)(σ:S)(n:Nat):Bool:=
 jS (λo=>fR o n) ops i L W ops.size 0 ||jS (λo=>dK n (sH Φ σ o) ||dK n (Cn σ o)) ops i L W ops.size 0
def zZ(Φ:eK)(ops:Array Oper)(i L W:Nat)(σ:S)(n:Nat):Bool:=
 Co Φ ops i L W σ n ||jS (λo=>dK n (faR ops i L W σ o)) ops i L W ops.size 0
def Cp(σ:S)(ops:Array Oper)(i L W n:Nat):Bool:=jS (λo=>fR o n) ops i L W ops.size 0 ||jS (λo=>dK n (Px σ o)) ops i L W ops.size 0
def z0(Φ:eK)(o:Oper):Bool:=match o.op with
 | .call ⟨.value (.func f),_,_⟩=>(match Φ f with
  |some (.p _)=>true
  |_=>false)
 |_=>false
def mQ(Φ:eK)(ops:Array Oper)(i L W t:Nat):Bool:=!jS (λok=>lK t ok && !(oA ok ||isApp ok ||z0 Φ ok)) ops i L W ops.size 0
def XG(Φ:eK)(ops:Array Oper)(i L W:Nat)(o:Oper):Bool:=match o.op with
 |.call ⟨.builtin .append,⟨[.tmp t,_]⟩,⟨[ty,C]⟩⟩=>mQ Φ ops i L W t&&(!qm ty&&Nat.beq ty C && !Cl o.dst ty (.tmp t))
 |_=>false
def mR(Φ:eK)(ops:Array Oper)(i L W:Nat)(σ:S)(x:Nat):Bool:=!jS (lK x) ops i L W ops.size 0&&(match σ.t x with
 |.aH r _=>zZ Φ ops i L W σ r
 |.jr _=>true
 |_=>false)
def Py(Φ:eK)(ops:Array Oper)(i L W:Nat)(σ:S)(o:Oper):Bool:=match o.op with
 |.fieldAddr _ (.tmp x) _=>mR Φ ops i L W σ x
 |_=>false
def Pz(Φ:eK)(ops:Array Oper)(i L W:Nat)(σ:S)(t:Nat):Bool:=!jS (λok=>lK t ok && !(vU ok ||Py Φ ops i L W σ ok)) ops i L W ops.size 0
def HV(Φ:eK)(ops:Array Oper)(i L W:Nat)(σ:S)(o:Oper):Bool:=match o.op with
 | .store _ (.tmp t) _=>o.dst.isNone&&Pz Φ ops i L W σ t&&(match σ.t t with
  |.ptr _=>false
  |_=>true)
 |_=>false
def XH(σ:S)(p:Nat->Bool)(o:Oper):Bool:=o.op.operands.toList.all λx=>(aL σ x).nr p
def XI(σ:S)(p pb:Nat->Bool)(o:Oper):Bool:=(o.op.operands.toList.all λx=>(aL σ x).pM p pb)&&(match o.op with
 | .load _ x=>(match aL σ x with
  |.aH r _=>!p r
  |_=>true)
 |_=>true)
def aex(Φ:eK)(ops:Array Oper)(L:Nat)(σ:S)(i:Nat):Bool:=match ops[i]? with
 | some C=>(fY C.op || (match fZ σ ops C with
  |some b=>!b
  |none=>false))&&Nat.beq ((L |||2 ^ i) &&& waits ops i ops.size 0 0) 0&&Jb (λD=>Pw Φ D.op ||false ||HV Φ ops i L (waits ops i ops.size 0 0) σ D ||XG Φ ops i L (waits ops i ops.size 0 0) D) ops C i L (waits ops i ops.size 0 0) ops.size 0&&XI σ (zZ Φ ops i L (waits ops i ops.size 0 0) σ) (Cp σ ops i L (waits ops i ops.size 0 0)) C
 |none=>false
def Jc{X:Type}(P:Program)(N:Nat)(Φ:eK)(ops:Array Oper)(L i:Nat)(σ:S)(o:Oper)(k:S->ah X):ah X:=
 match fZ σ ops o with
 |some true=>mP P σ o.op λv=>bif v.pM (zZ Φ ops i L (waits ops i ops.size 0 0) σ) (Cp σ ops i L (waits ops i ops.size 0 0))then iy N σ o.dst v k else none
 |some false=>iy N σ o.dst .skip k
 |none=>none
/-! A call may be taken first where all that is free beside it are new blocks. -/
def A.fY:A->Bool
 |.lf (.v _)=>true
 | .agg cs=>cs.all λl=>match l with
  |.v _=>true
  |_=>false
 |_=>false
def XJ(ops:Array Oper)(i L W:Nat)(σ:S)(o:Oper):Bool:=oA o&&(match fZ σ ops o with
 |some b=>b
 | none=>false)&&(o.op.operands.toList.all λx=>(aL σ x).fY&&(match x with
  |.tmp t=>!jS (lK t) ops i L W ops.size 0
  |_=>true))&&(match o.guard with
 | some (g,_)=>(match (ops[g]?).bind (·.dst)with
  |some t=>!jS (lK t) ops i L W ops.size 0
  |none=>true)
 |none=>true)
def nQ(Φ:eK)(o:Oper):Bool:=match o.op with
 | .call ⟨.value (.func f),_,_⟩=>(match Φ f with
  |some (.p _)=>true
  |some (.m _)=>true
  |_=>false)
 |_=>false
def Jd(o:Oper):Bool:=(match o.op with
 |.store _ (.tmp _) _=>true
 |_=>false)&&o.dst.isNone
def xO(σ:S)(o:Oper):Bool:=match o.op with
 | .store _ (.tmp t) _=>(match σ.t t with
  |.aH _ _=>true
  |_=>false)
 |_=>true
def Je(Φ:eK)(o:Oper):Bool:=nQ Φ o ||oA o ||isApp o ||Jd o
def xP(σ:S)(p:Nat->Bool)(r:Nat):Bool:=match σ.m r with
 |some (.aB cs)=>cs.all (Lf.nr p)
 |_=>true
def E5(o:Oper)(n:Nat):Bool:=lK n o
def aey(Φ:eK)(ops:Array Oper)(L:Nat)(σ:S)(i:Nat):Bool:=match ops[i]? with
 | some C=>Je Φ C&&Nat.beq ((L ||| 2 ^ i) &&& waits ops i ops.size 0 0) 0&&Jb (XJ ops i L (waits ops i ops.size 0 0) σ) ops C i L (waits ops i ops.size 0 0) ops.size 0 &&
   XH σ (λn=>jS (λo=>E5 o n) ops i L (waits ops i ops.size 0 0) ops.size 0) C&&(sH Φ σ C).all (xP σ (λn=>jS (λo=>E5 o n) ops i L (waits ops i ops.size 0 0) ops.size 0))&&xO σ C
 |none=>false
def rm(x:A)(n:Nat):ah V:=match x with
 | .fk xs=>(match xs[n]? with
  |some (false,[.v z])=>some z
  |_=>none)
 |_=>none
def XK(ops:Array Oper)(L:Nat)(σ:S)(i:Nat):Bool:=match ops[i]?,(List.range ops.size).filter (λj=>!(Nat.beq j i || L.testBit j))with
 | some C,[E]=>(match C.op,C.dst,C.guard,ops[E]? with
  | .extract (.tmp x) n,some _,none,some D=>(match D.op,D.dst,D.guard with
   |.store _ a b,none,none=>(rm (σ.t x) n).isSome&&xN (aL σ a) (aL σ b)&&C.apart ops D
   |_,_,_=>false)
  |_,_,_,_=>false)
 |_,_=>false
def rq{X:Type}(P:Program)(N:Nat)(Φ:eK)(ops:Array Oper):Nat->Nat->S->(S->ah X)->ah X
 | 0,L,σ,k=>(match (List.range ops.size).filter (mj ops L)with
  |[]=>k σ
  |_=>none)
 | f+1,L,σ,k=>(match (List.range ops.size).filter (mj ops L)with
  |[]=>k σ
  | [i]=>(match ops[i]? with
   |some o=>dL P N Φ ops σ o λC=>sG C o.dst (I9 ops i) λD=>rq P N Φ ops f (L |||2 ^ i) D k
   |none=>none)
  | rs=>(match rs.find? (aex Φ ops L σ)with
   | some i=>(match ops[i]? with
    |some o=>Jc P N Φ ops L i σ o λC=>sG C o.dst (I9 ops i) λD=>rq P N Φ ops f (L |||2 ^ i) D k
    |none=>none)
   | none=>(match rs.find? (aey Φ ops L σ)with
    | some i=>(match ops[i]? with
     |some o=>dL P N Φ ops σ o λC=>sG C o.dst (I9 ops i) λD=>rq P N Φ ops f (L |||2 ^ i) D k
     |none=>none)
    | none=>(match rs.find? (XK ops L σ)with
     | some i=>(match ops[i]? with
      |some o=>dL P N Φ ops σ o λC=>sG C o.dst (I9 ops i) λD=>rq P N Φ ops f (L |||2 ^ i) D k
      |none=>none)
     |none=>none))))
/-! A new slice of constants may come first,beside values and calls of contents. -/
structure sI where
 run:(X:Type)->S->(Exit->S->Option X)->Option X
abbrev nR:=Nat->ah sI
def mm{X:Type}(P:Program)(N:Nat)(Φ:eK)(Λ:nR):Code->S->(Exit->S->ah X)->ah X
 |.skip,σ,k=>k .normal σ
 |.label _,σ,k=>k .normal σ
 |.ret,σ,k=>k .ret σ
 |.exit id,σ,k=>k (.exit id) σ
 |.region _ ops false,σ,k=>Cm P N Φ ops 0 ops.toList σ λC=>k .normal C
 |.region _ ops true,σ,k=>bif P.follows .mixedOrders then rq P N Φ ops ops.size 0 σ λC=>k .normal C else none
 | .seq x y,σ,k=>mm P N Φ Λ x σ λe C=>match e with
  |.normal=>mm P N Φ Λ y C k
  |e=>k e C
 | .cond c x y,σ,k=>match aL σ c with
  |.lf (.v (.bool b))=>bif b then mm P N Φ Λ x σ k else mm P N Φ Λ y σ k
  |_=>none
 | .block id c,σ,k=>match Λ id with
  |some b=>b.run X σ k
  | none=>mm P N Φ Λ c σ λe C=>match e with
   |.exit D=>if D=id then k .normal C else k (.exit D) C
   |e=>k e C
 |_,_,_=>none
def AW(P:Program)(w0:Wd)(N:Nat)(c:Code)(σ:S)(K:Exit->S->Prop):Prop:=
 ∀a w,R w0 N σ a w->c.wp P (λe D w'=>∃C,K e C/\R w0 N C D w') a w
def occs:Code->aa (Nat×Code)
 |.seq x y=>occs x++occs y
 |.cond _ x y=>occs x++occs y
 |.block id c=>(id,c)::occs c
 |_=>[]
def Cq(P:Program)(N:Nat)(c:Code)(b:sI):Prop:=∀(X:Type) σ k (r:X) w0,b.run X σ k=some r->AW P w0 N c σ λe C=>k e C=some r
def qq(P:Program)(N:Nat)(Λ:nR)(l:aa (Nat×Code)):Prop:=∀p∈l,∀b,Λ p.1=some b->Cq P N (.block p.1 p.2) b
section
variable {P:Program} {w w':World} {w0:Wd} {B N:Nat} {aj aD:bK} {ρ ρ':Nat->Loc} {σ:S} {a:Act} {X:Type} {d:Nat} {r:X} {o:Oper} {Φ:eK} {Λ:nR}
def lZ.mem{C:S}(D:o.dst=some d)(h:∀ aj ρ a w,Rl w0 N aj ρ σ a w->∃ w' aD ρ' v,(execOp a.eval o).run P w = .ok (.value v) w'/\Rl w0 N aD ρ' C (a.put (some d) v) w'):lZ P w0 N o σ C:=by
 intro a w K Q hR E;obtain⟨aj,ρ,hR⟩:=hR;obtain⟨w',aD,ρ',v,L,O⟩:=h aj ρ a w hR;unfold Oper.wp;rw[L,Oper.upon_value,D];exact E _ _ ⟨aD,ρ',O⟩
def ku{k:Nat -> ah X}(h:hD o k=some r):∃ d,o.dst=some d/\k d=some r:=by
 unfold hD at h
 grind
def jF{s:Sem Value}{v:Value}(h:s.run P w = .ok v w'):(do pure (.value (<-s)):Sem Next).run P w = .ok (.value v) w':=by
 rw[gq,h];rfl
def aez{b:Go.Builtin}{x:Operand}{t:TypeId}{v:Value}(C:o.op = .call ⟨.builtin b,⟨[x]⟩,⟨[t]⟩⟩)(h:∀ cs,(builtin b #[t] o.type cs #[a.eval x]).run P w = .ok (.value v) w'):(execOp a.eval o).run P w = .ok (.value v) w':=by
 simp only[execOp,C,resolve,gq,Sem.run_pure,mH,invoke,List.map_toArray,List.map_cons,List.map_nil];exact h _
def XL{b:Go.Builtin}{x y:Operand}{t C:TypeId}{v:Value}(D:o.op = .call ⟨.builtin b,⟨[x,y]⟩,⟨[t,C]⟩⟩)(h:∀ cs,(builtin b #[t,C] o.type cs #[a.eval x,a.eval y]).run P w = .ok (.value v) w'):(execOp a.eval o).run P w = .ok (.value v) w':=by
 simp only[execOp,D,resolve,gq,Sem.run_pure,mH,invoke,List.map_toArray,List.map_cons,List.map_nil];exact h _
def XM{C:Op}:cP λX k=>mP (X:=X) P σ C k:=λX Y k g=>by
 unfold mP;split
 ·rfl
 ·rfl
 ·repeat' first|rfl|refine dz ?_ ?_|split
 ·exact ara _ _ _ _
 ·exact ad9 _ _ _ _
 ·exact aq4 _ _ _ _
 ·exact(Xn.comp λa=>aq5.comp (b:=λX k z=>k (.lf (.v z))) λz _ _ _ _=>rfl) X Y k g
 ·exact ard _ _ _ _
 ·exact aq6 _ _ _ _
 ·exact arb _ _ _ _
 ·exact aq7 _ _ _ _
 ·exact arc _ _ _ _
 ·exact aq9 _ _ _ _
 ·unfold Pg;split<;>rfl
 ·exact aq8 _ _ _ _
 ·exact aea _ _ _ _
 ·exact aea _ _ _ _
 ·exact arf _ _ _ _
 ·rfl
def XN{op:Op}{k:A->ah X}(h:mP P σ op k=some r):∃ v,k v=some r/\mK (λX k=>mP (X:=X) P σ op k) v/\∀ aj ρ a w (o:Oper),o.op=op->Rl w0 N aj ρ σ a w->∃ u,(execOp a.eval o).run P w = .ok (.value u) w/\RA w w0.heap.size aj ρ v u:=by
 obtain⟨z,O,Y⟩:=XM.nK h
 refine⟨z,O,Y,λaj ρ a w o L hR=>?_⟩
 replace h:mP P σ op some=some z:=Y A some;clear Y O;unfold mP at h;split at h
 ·cases h;exact⟨_,by simp[execOp,L],hR.aL _⟩
 ·cases h;exact⟨_,by simp[execOp,L],hR.aL _⟩
 ·rename_i c x y;split at h
  ·rename_i b hb;have hc:=hR.aL c;rw[hb]at hc;have hv:=hc.2.zj;cases b with
   |true=>cases h;exact⟨a.eval x,by simp[execOp,L,hv,asBool],hR.aL x⟩
   |false=>cases h;exact⟨a.eval y,by simp[execOp,L,hv,asBool],hR.aL y⟩
  ·cases h
 next t parts=>obtain⟨_,⟨⟩,C⟩:=ap1 (w0:=w0) (N:=N) h;obtain⟨v,D,E⟩:=C aj ρ a w hR;exact⟨v,by simp only[execOp,L];exact jF D,E⟩
 next t x=>obtain⟨_,⟨⟩,C⟩:=ac9 (w0:=w0) (N:=N) h;obtain⟨v,D,E⟩:=C aj ρ a w hR _ (hR.aL x);exact⟨v,by simp only[execOp,L];exact jF D,E⟩
 next op t x y yt=>obtain⟨_,⟨⟩,C⟩:=aqc (w0:=w0) (N:=N) h;obtain⟨v,D,E⟩:=C aj ρ a w hR x y _ _ (hR.aL x) (hR.aL y);exact⟨v,by simp only[execOp,L];exact jF D,E⟩
 next op t x=>obtain⟨u,hx,h⟩:=VX h;obtain⟨_,⟨⟩,hp,C⟩:=apG (P:=P) h;have O:=hR.aL x;rw[hx]at O;obtain⟨T,D,Z⟩:=C w _ aj [] _ O.2;exact⟨T,by simp only[execOp,L];exact jF D,V.H6 hp,Z⟩
 next s d' x=>obtain⟨_,⟨⟩,C⟩:=ap8 (w0:=w0) (N:=N) h;obtain⟨v,D,E⟩:=C aj ρ a w hR _ (hR.aL x);exact⟨v,by simp only[execOp,L];exact jF D,E⟩
 next s x f=>obtain⟨_,⟨⟩,C⟩:=apJ h;obtain⟨v,D,E⟩:=C w _ aj ρ _ (hR.aL x);exact⟨v,by simp only[execOp,L];exact jF D,E⟩
 next s x f=>obtain⟨_,⟨⟩,C⟩:=ap9 h;obtain⟨v,D,E⟩:=C w _ aj ρ _ (hR.aL x);exact⟨v,by simp only[execOp,L];exact jF D,E⟩
 next t x i=>obtain⟨_,⟨⟩,C⟩:=apK (w0:=w0) (N:=N) h;obtain⟨v,D,E⟩:=C aj ρ a w hR _ _ (hR.aL x) (hR.aL i);exact⟨v,by simp only[execOp,L];exact jF D,E⟩
 next t x i=>obtain⟨_,⟨⟩,C⟩:=ap7 h;obtain⟨v,D,E⟩:=C w _ aj ρ _ _ (hR.aL x) (hR.aL i);exact⟨v,by simp only[execOp,L];exact jF D,E⟩
 next x i=>obtain⟨_,⟨⟩,C⟩:=apM (P:=P) h;obtain⟨v,D,E⟩:=C w _ aj ρ _ (hR.aL x);exact⟨v,by simp only[execOp,L];exact jF D,E⟩
 next x=>obtain⟨h,C⟩:=aro (w:=w) (B:=w0.heap.size) (aj:=aj) (ρ:=ρ) h;cases h;obtain⟨ad,hu⟩:=C _ (hR.aL x);refine⟨a.eval x,?_,hR.aL x⟩;simp only[execOp,L,hu];rfl
 next x t=>obtain⟨_,⟨⟩,C⟩:=apL (w0:=w0) (N:=N) (ty:=o.type) h;obtain⟨v,D,E⟩:=C aj ρ a w hR _ (hR.aL x);exact⟨v,aez L λ_=>jF D,E⟩
 next x y t T=>obtain⟨_,⟨⟩,C⟩:=adw (P:=P) h;obtain⟨v,D,E⟩:=C w _ aj ρ t o.type _ _ (hR.aL x) (hR.aL y);exact⟨v,XL L λ_=>jF (s:=Builtin.max_ #[t,T] o.type #[a.eval x,a.eval y]) D,E⟩
 next x y t T=>obtain⟨_,⟨⟩,C⟩:=adw (P:=P) h;obtain⟨v,D,E⟩:=C w _ aj ρ t o.type _ _ (hR.aL x) (hR.aL y);exact⟨v,XL L λ_=>jF (s:=Builtin.min_ #[t,T] o.type #[a.eval x,a.eval y]) D,E⟩
 ·rename_i t x lo hi;obtain⟨_,⟨⟩,C⟩:=aqh (w0:=w0) (N:=N) h;have U:∀ z:ah Operand,(∀ b,z.map (aL σ)=some b->∃ v,z.map a.eval=some v/\RA w w0.heap.size aj ρ b v)/\(z.map (aL σ)=none->z.map a.eval=none):=by
   intro z;cases z with
   |none=>exact⟨λb hb=>(by cases hb),λ_=>rfl⟩
   |some z=>exact⟨λb hb=>(by cases hb;exact⟨_,rfl,hR.aL z⟩),λhb=>(by cases hb)⟩
  obtain⟨v,D,Z⟩:=C aj ρ a w hR _ _ _ (hR.aL x) (U lo).1 (U lo).2 (U hi).1 (U hi).2;exact⟨v,by simp only[execOp,L];exact jF D,Z⟩
 ·cases h
def lZ.skip{C:S}(D:o.dst=none)(h:∀ aj ρ a w,Rl w0 N aj ρ σ a w->∃ w' aD,(execOp a.eval o).run P w = .ok .skip w'/\Rl w0 N aD ρ C a w'):lZ P w0 N o σ C:=by
 intro a w K Q hR E;obtain⟨aj,ρ,hR⟩:=hR;obtain⟨w',aD,L,O⟩:=h aj ρ a w hR;unfold Oper.wp;rw[L,Oper.upon_skip,D];exact E _ _ ⟨aD,ρ,O⟩
def PB{s:Sem af}(h:s.run P w = .ok () w'):(do s;pure .skip:Sem Next).run P w = .ok .skip w':=by
 rw[gq,h];rfl
def ar5{k:S->ah X}(eE:fX P Φ)(h:iU P N Φ σ o k=some r):∃ O,k O=some r/\lZ P w0 N o σ O:=by
 unfold iU at h;split at h
 ·rename_i e C;obtain⟨d,D,h⟩:=ku h;obtain⟨O,h,T⟩:=apS (w0:=w0) h
  refine⟨O,h,.mem D λaj ρ a w hR=>?_⟩
  obtain⟨w',aD,ρ',v,E,L⟩:=T aj ρ a w hR;exact⟨w',aD,ρ',v,by simp only[execOp,C];exact jF E,L⟩
 ·rename_i e x C;obtain⟨d,D,h⟩:=ku h;obtain⟨O,h,T⟩:=arl (w0:=w0) (e:=e) h
  refine⟨O,h,.mem D λaj ρ a w hR=>?_⟩
  obtain⟨w',aD,ρ',v,E,L⟩:=T aj ρ a w hR _ (hR.aL x);exact⟨w',aD,ρ',v,by simp only[execOp,C];exact jF E,L⟩
 ·rename_i t len parts C;obtain⟨d,D,h⟩:=ku h;cases hn:qm t with
  | true=>
   rw[hn,au]at h;obtain⟨O,h,T⟩:=arp (w0:=w0) h
   refine⟨O,h,.mem D λaj ρ a w hR=>?_⟩
   obtain⟨w',aD,ρ',v,E,L⟩:=T aj ρ a w hR;exact⟨w',aD,ρ',v,by simp only[execOp,C];exact jF E,L⟩
  | false=>
   rw[hn,aq]at h;obtain⟨O,h,T⟩:=ap5 (w0:=w0) h
   refine⟨O,h,.mem D λaj ρ a w hR=>?_⟩
   obtain⟨w',aD,ρ',v,E,L⟩:=T aj ρ a w hR;exact⟨w',aD,ρ',v,by simp only[execOp,C];exact jF E,L⟩
 ·rename_i t x y C;split at h
  ·rename_i D;cases hn:xN (aL σ x) (aL σ y)with
   | true=>
    rw[hn,au]at h;obtain⟨O,h,T⟩:=ary (w0:=w0) (N:=N) h
    refine⟨O,h,.skip D λaj ρ a w hR=>?_⟩
    obtain⟨w',aD,E,L⟩:=T aj ρ a w hR _ _ (hR.aL x) (hR.aL y);exact⟨w',aD,by simp only[execOp,C];exact PB E,L⟩
   | false=>
    rw[hn,aq]at h;obtain⟨O,h,T⟩:=adb (w0:=w0) (N:=N) h
    refine⟨O,h,.skip D λaj ρ a w hR=>?_⟩
    obtain⟨w',E,L⟩:=T aj ρ a w hR _ _ (hR.aL x) (hR.aL y);exact⟨w',aj,by simp only[execOp,C];exact PB E,L⟩
  ·cases h
 ·rename_i t l c C;obtain⟨d,D,h⟩:=ku h;obtain⟨O,h,T⟩:=apT (w0:=w0) h
  refine⟨O,h,.mem D λaj ρ a w hR=>?_⟩
  obtain⟨w',aD,ρ',v,E,L⟩:=T aj ρ a w hR _ _ (hR.aL l) (hR.aL c);exact⟨w',aD,ρ',v,by simp only[execOp,C];exact jF E,L⟩
 ·rename_i f args nM C;split at h
  next c U=>obtain⟨d,D,h⟩:=ku h;obtain⟨Y,Z⟩:=eE f _ U;exact adH C D Y Z (adF (w0:=w0) (N:=N) _) h
  next c U=>obtain⟨Y,Z⟩:=eE f _ U;exact aqJ C Y Z h
  next c U=>obtain⟨d,D,h⟩:=ku h;obtain⟨Y,Z⟩:=eE f _ U;exact arE C D Y Z h
  ·cases h
  next c U=>obtain⟨Y,Z⟩:=eE f _ U;exact aep (ex:=[]) C rfl Y Z h
  next c U=>obtain⟨Y,Z⟩:=eE f _ U;exact aqP C Y Z h
  next c U=>obtain⟨d,D,h⟩:=ku h;obtain⟨Y,Z⟩:=eE f _ U;exact adH C D Y Z (aqm (w0:=w0) (N:=N) _) h
  next c U=>obtain⟨Y,Z⟩:=eE f _ U;exact arL C Y Z h
  ·cases h
 ·rename_i x y t t' C;cases nL:Nat.beq t t' with
  |false=>rw[nL]at h;cases h
  | true=>
   rw[nL,au]at h;obtain rfl:=cK nL;obtain⟨d,D,h⟩:=ku h;have hh:∃ O,k O=some r/\∀ aj ρ a w,Rl w0 N aj ρ σ a w->∀ u v,RA w w0.heap.size aj ρ (aL σ x) u->RA w w0.heap.size aj ρ (aL σ y) v->
     ∃w' aD ρ' z,(Builtin.append_ #[t,t] o.type #[u,v]).run P w = .ok z w'/\Rl w0 N aD ρ' O (a.put (some d) z) w':=by
    cases hn:qm t with
    |true=>rw[hn,au]at h;exact arw h
    | false=>
     rw[hn,aq]at h;cases hk:Pv t d x with
     |true=>rw[hk,au]at h;exact ar2 h
     |false=>rw[hk,aq]at h;exact apU h
   obtain⟨O,h,T⟩:=hh
   refine⟨O,h,.mem D λaj ρ a w hR=>?_⟩
   obtain⟨w',aD,ρ',v,E,L⟩:=T aj ρ a w hR _ _ (hR.aL x) (hR.aL y);exact⟨w',aD,ρ',v,XL C λ_=>jF E,L⟩
 ·rename_i t C;obtain⟨d,D,h⟩:=ku h;obtain⟨O,h,T⟩:=arR (w0:=w0) (t:=t) (P:=P) h
  refine⟨O,h,.mem D λaj ρ a w hR=>?_⟩
  obtain⟨w',aD,ρ',v,E,L⟩:=T aj ρ a w hR;exact⟨w',aD,ρ',v,by simp only[execOp,C];exact jF E,L⟩
 ·rename_i t x i C;obtain⟨v,h1,_,T⟩:=arV (w0:=w0) (N:=N) h
  refine lZ.val h1 λaj ρ a w hR=>?_
  obtain⟨y,E,L⟩:=T aj ρ a w hR _ _ (hR.aL x) (hR.aL i);exact⟨y,by simp only[execOp,C];exact jF E,L⟩
 ·rename_i t x i v C;split at h
  ·rename_i D;obtain⟨O,h,_,T⟩:=arW (w0:=w0) (N:=N) h
   refine⟨O,h,.skip D λaj ρ a w hR=>?_⟩
   obtain⟨w',E,L⟩:=T aj ρ a w hR _ _ _ (hR.aL x) (hR.aL i) (hR.aL v);exact⟨w',aj,by simp only[execOp,C];exact PB E,L⟩
  ·cases h
 ·rename_i t args nM C;split at h
  ·rename_i f cap vH;split at h
   next c U=>obtain⟨Y,Z⟩:=eE f _ U;exact aep C vH Y Z h
   ·cases h
  ·cases h
 ·rename_i f aeA C;split at h
  ·rename_i ps ri;obtain⟨h1,h2⟩:=aeq (w0:=w0) (N:=N) _ _ ri
   refine lZ.val h λaj ρ a w hR=>⟨.func (.func f) #[] (aeA.map a.eval),by simp[execOp,C,Instr.makeFunc],_,rfl,by simp[h1],λj p hp=>?_⟩
   obtain⟨b,off,e1,e2⟩:=h2 aj ρ a w hR j p hp;exact⟨b,off,e1,by simpa using e2⟩
  ·cases h
 ·rename_i x t C;obtain⟨qk,h1,T⟩:=apX (w0:=w0) (N:=N) (ty:=o.type) h;have run:∀ aj ρ a w,Rl w0 N aj ρ σ a w->∃ w',(execOp a.eval o).run P w = .ok (.value (.tuple #[])) w'/\Rl w0 N aj ρ qk a w':=by
   intro aj ρ a w hR;obtain⟨w',E,L⟩:=T aj ρ a w hR _ (hR.aL x);exact⟨w',aez C λ_=>jF E,L⟩
  unfold iy at h1;split at h1
  ·rename_i D
   refine⟨_,h1,λa w K Q hR hK=>?_⟩
   obtain⟨aj,ρ,hR⟩:=hR;obtain⟨w',E,L⟩:=run aj ρ a w hR;unfold Oper.wp;rw[E,Oper.upon_value,D];exact hK _ _ ⟨aj,ρ,L⟩
  ·rename_i d D;cases hN:Nat.blt d N with
   |false=>rw[hN]at h1;cases h1
   | true=>
    rw[hN,au]at h1
    refine⟨_,h1,.mem D λaj ρ a w hR=>?_⟩
    obtain⟨w',E,L⟩:=run aj ρ a w hR;exact⟨w',aj,ρ,_,E,L.set trivial (by have:=cZ hN;omega)⟩
 ·cases h
def XO{k:S -> ah X}(E:fX P Φ)(h:dX P N Φ σ o k=some r):∃ C,k C=some r/\lZ P w0 N o σ C:=by
 unfold dX at h;cases D:fY o.op with
 | true=>
  rw[D,au]at h;obtain⟨v,L,_,O⟩:=XN h;exact lZ.val L λaj ρ a w hR=>O aj ρ a w o rfl hR
 | false=>
  rw[D]at h;exact ar5 E h
def ar6{k:S->ah X}(Y:fX P Φ)(h:I8 P N Φ σ o k=some r):∃ D,k D=some r/\lZ P w0 N o σ D:=by
 unfold I8 at h;split at h
 ·rename_i t x y E L;split at h
  ·rename_i q s i j hy;obtain⟨D,C,O⟩:=arO (w0:=w0) (N:=N) h
   refine⟨D,C,.skip L λaj ρ a w hR=>?_⟩
   have Z:=hR.aL y;rw[hy]at Z;obtain⟨w',aD,T,dJ⟩:=O aj ρ a w hR _ _ (hR.aL x) Z;exact⟨w',aD,by simp only[execOp,E];exact PB T,dJ⟩
  ·exact XO Y h
 ·rename_i t x lo hi mx d E L;obtain⟨C,O⟩:=arQ (w0:=w0) (N:=N) h;cases U:Nat.blt d N with
  |false=>rw[U]at C;cases C
  | true=>
   rw[U,au]at C
   refine⟨_,C,.mem L λaj ρ a w hR=>?_⟩
   obtain⟨v,T⟩:=O aj ρ a w hR _ _ _ _ (hR.aL x) (hR.aL lo) (hR.aL hi) (hR.aL mx);refine⟨w,aj,ρ,v,?_,hR.set trivial (by have:=cZ U;omega)⟩;simp only[execOp,E,Option.map_some];exact jF T
 ·exact XO Y h
/-! What an operation gives hangs on its operands and on the roots that they name. -/
def A.key:A->ah (aa Nat)
 |.lf (.own q)=>some q
 |.view q _ _ _=>some q
 |.ptr (_::_::_::q)=>some q
 |_=>none
def Sm(σ2 σ:S)(x:A):Prop:=∀q,x.key=some q->∀(X:Type) (k:V->ah X),jt σ2.m q k=jt σ.m q k
def Sm.eq{σ2:S}(C:σ2.m=σ.m)(x:A):Sm σ2 σ x:=λq _ X k=>by rw[C]
def Sm.lf{σ2:S}{l:Lf}(h:Sm σ2 σ (.lf l))(k:V->ah X):pg σ2 l k=pg σ l k:=by
 cases l with
 |own q=>exact h q rfl X k
 |_=>rfl
def Sm.bin{σ2:S}{C:BinOp}{t:TypeId}{x y:A}(h:Sm σ2 σ x)(k:A->ah X):zC P σ2 C t x y k=zC P σ C t x y k:=by
 unfold zC;split
 ·rfl
 ·split
  ·exact h.lf _
  ·rfl
 ·rfl
def Sm.conv{σ2:S}{t C:TypeId}{x:A}(h:Sm σ2 σ x)(k:A->ah X):zy P σ2 t C x k=zy P σ t C x k:=by
 unfold zy;split
 ·rfl
 ·exact h.lf _
 ·rfl
def Sm.idx{σ2:S}{t:TypeId}{x i:A}(h:Sm σ2 σ x)(k:A->ah X):zl P σ2 t x i k=zl P σ t x i k:=by
 unfold zl;split
 ·rfl
 ·split
  ·split
   ·rfl
   ·exact h _ rfl _ _
   ·rfl
  ·rfl
def Sm.len{σ2:S}{t:TypeId}{x:A}(h:Sm σ2 σ x)(k:A->ah X):BM P σ2 t x k=BM P σ t x k:=by
 cases x with
 |lf l=>exact h.lf _
 |_=>rfl
def Sm.slc{σ2:S}{t:TypeId}{x:A}{lo hi:ah A}(h:Sm σ2 σ x)(k:A->ah X):zF P σ2 t x lo hi k=zF P σ t x lo hi k:=by
 unfold zF BY;split
 ·simp only[h _ rfl]
 ·simp only[h _ rfl]
 ·rfl
def Sm.load{σ2:S}{t:TypeId}{x:A}(h:Sm σ2 σ x)(hb:∀ r j,x = .aH r j->σ2.m r=σ.m r)(k:A->ah X):od P σ2 t x k=od P σ t x k:=by
 unfold od;split
 ·rfl
 ·split
  ·rw[hb _ _ rfl]
  ·rfl
  ·exact h _ rfl _ _
  ·rfl
def aeB{σ2:S}(C:Op)(h:∀ x∈C.operands,aL σ2 x=aL σ x/\Sm σ2 σ (aL σ x))(hl:∀ t x,C = .load t x->∀ k:A->ah X,od P σ2 t (aL σ x) k=od P σ t (aL σ x) k)(k:A->ah X):mP P σ2 C k=mP P σ C k:=by
 unfold mP;split
 case h_4 t parts=>
  have e:(parts.toList.map λp=>(p.1,aL σ2 p.2))=parts.toList.map λp=>(p.1,aL σ p.2):=List.map_congr_left λp L=>by rw[(h p.2 (by simp only[Op.operands];exact List.mem_toArray.2 (List.mem_map_of_mem (f:=(·.2)) L))).1]
  simp only[EH,e]
 case h_18 t x lo hi=>
  have e:∀ z:ah Operand,(∀ y,z=some y->aL σ2 y=aL σ y)->z.map (aL σ2)=z.map (aL σ):=by
   intro z O;cases z with
   |none=>rfl
   |some z=>exact aZ some (O z rfl)
  have E:=h x (by simp[Op.operands]);rw[E.1,e lo (λy D=>(h y (by subst D;simp[Op.operands])).1),e hi (λy D=>(h y (by subst D;simp[Op.operands])).1)];exact E.2.slc k
 all_goals simp[Op.operands,Call.operands]at h
 case h_5=>rw[h.1];exact hl _ _ rfl k
 case h_6=>rw[h.1.1,h.2.1];exact h.1.2.bin k
 case h_8=>rw[h.1];exact h.2.conv k
 case h_11=>rw[h.1.1,h.2.1];exact h.1.2.idx k
 case h_15=>rw[h.1];exact h.2.len k
 all_goals first|rfl|simp only[h]
def aeC{σ2:S}(C:Op)(D:σ2.m=σ.m)(h:∀ x∈C.operands,aL σ2 x=aL σ x)(k:A->ah X):mP P σ2 C k=mP P σ C k:=
 aeB C (λx E=>⟨h x E,.eq D _⟩) (λt x _ k=>(Sm.eq D _).load (λr _ _=>by rw[D]) k) k
def aeD{σ2:S}(C:σ2.m=σ.m)(q:aa Nat)(s i j:Nat)(k:V->ah X):vC σ2 q s i j k=vC σ q s i j k:=by
 simp only[vC,C]
def aeE{σ2:S}(C:σ2.m=σ.m)(x:Lf)(k:V->ah X):pg σ2 x k=pg σ x k:=(Sm.eq C _).lf k
def ar7{σ2:S}(C:σ2.m=σ.m)(x:A)(k:V->ah X):sq σ2 x k=sq σ x k:=by
 cases x<;>simp only[sq,aeE C,aeD C]
def XP{σ2:S}(C:σ2.m=σ.m):∀ (xs:aa Lf) (k:aa V->ah X),q9 σ2 xs k=q9 σ xs k
 |[],k=>rfl
 | x :: xs,k=>by
  simp only[q9,aeE C,XP C xs]
def aeF{σ2:S}(C:σ2.m=σ.m)(x:A)(k:Pt->ah X):oh σ2 x k=oh σ x k:=by
 unfold oh;simp only[XP C,aeD C]
def XQ{σ2:S}{f:A->(Pt->ah X)->ah X}:∀ (xs:aa Operand) (k:aa Pt->ah X),(∀ x∈xs,aL σ2 x=aL σ x)->vM f σ2 xs k=vM f σ xs k
 |[],k,_=>rfl
 | x :: xs,k,h=>by
  simp only[vM,h x (.head _),XQ xs _ λy C=>h y (.tail _ C)]
def ar8{σ2:S}(C:σ2.m=σ.m)(xs:aa Operand)(k:aa Pt->ah X)(h:∀ x∈xs,aL σ2 x=aL σ x):sv σ2 xs k=sv σ xs k:=by
 unfold sv;rw[show oh σ2=oh σ from funext λx=>funext λk=>aeF C x k,XQ xs k h]
def ar9{σ2:S}(C:σ2.m=σ.m)(x:A)(k:Pt->ah X):vL σ2 x k=vL σ x k:=by
 unfold vL;simp only[aeF C,XP C,C]
def asa{σ2:S}(C:σ2.m=σ.m)(xs:aa Operand)(k:aa Pt->ah X)(h:∀ x∈xs,aL σ2 x=aL σ x):BZ σ2 xs k=BZ σ xs k:=by
 unfold BZ;rw[show vL σ2=vL σ from funext λx=>funext λk=>ar9 C x k,XQ xs k h]
/-! .. and a root that it does not name is of no account. -/
def Jf(n:Nat)(x:bh)(m:Nat->ah bh):Nat->ah bh:=cg (λr=>bif Nat.beq r n then none else (m r).map (bh.drop n)) n (some x)
def aeG{n:Nat}{x:bh}{m:Nat->ah bh}{q:Nat}(h:q≠n):Jf n x m q=(m q).map (bh.drop n):=by
 unfold Jf;rw[cR _ _ _ h,o6 h];rfl
def PC{m m':Nat->ah bh}{p:Nat->Bool}(D:∀ r,p r=false->∀ y,m' r=some (.sl y) ↔ m r=some (.sl y)):∀ (q:aa Nat) (k:V->ah X),oy p q=true->jt m' q k=jt m q k
 |[],_,_=>rfl
 | [r],k,h=>by
  have E:=D r (by simpa [oy,jB]using h);simp only[jt];split
  next y C=>rw[(E y).1 C]
  ·rename_i L;split
   next y C=>exact absurd ((E y).2 C) (L y)
   ·rfl
 |[_,_],_,_=>rfl
 |[j,i,s],k,h=>rfl
 | j :: i :: s :: O :: q,k,h=>by
  simp only[jt];exact PC D (O::q) _ (by simpa [oy,Ow]using h)
def asb{n:Nat}{q:aa Nat}(h:dc n q=false):oy (λr=>Nat.beq r n) q=true:=by
 unfold oy jB;unfold dc at h;split
 next r C=>rw[C]at h;show (!Nat.beq r n)=true;rw[o6 (show r≠n by simpa using h)];rfl
 ·rfl
def bh.Jg(n:Nat)(cs:aa Lf):(bh.aB cs).drop n = .aB (cs.map (Lf.drop n)):=rfl
def asc{n:Nat}(z:ah bh)(y:V):z.map (bh.drop n)=some (.sl y) ↔ z=some (.sl y):=by
 cases z with
 |none=>simp
 |some z=>cases z<;>simp[bh.drop,bh.cL]
def aeH{n:Nat}{x:bh}{m:Nat->ah bh}{r:Nat}(h:r≠n)(y:V):Jf n x m r=some (.sl y) ↔ m r=some (.sl y):=by
 rw[aeG h];exact asc _ y
def Jh{p:Nat->Bool}{r n:Nat}(h:p r=false)(C:p n=true):r≠n:=by
 rintro rfl;rw[C]at h;cases h
def asd{n:Nat}{x:bh}{m:Nat->ah bh}(q:aa Nat)(k:V->ah X)(h:dc n q=false):jt (Jf n x m) q k=jt m q k:=
 PC (p:=λr=>Nat.beq r n) (λr C y=>aeH (Jh (p:=λr=>Nat.beq r n) C (Nat.beq_refl n)) y) q k (asb h)
def ase{p:Nat->Bool}{r j n:Nat}(h:(A.aH r j).nr p=true)(C:p n=true):r≠n:=
 Jh (by simpa [A.nr,A.fr,vS]using h) C
def aeI{p pb:Nat->Bool}{x:A}{q:aa Nat}(h:x.pM p pb=true)(e:x.key=some q):oy p q=true:=by
 unfold A.key at e;split at e
 ·injection e with e;subst e;exact h
 ·injection e with e;subst e;exact h
 ·rename_i j i s C;injection e with e;subst e;have h:oy p (j :: i :: s :: C)=true:=h;cases C with
  |nil=>rfl
  |cons D q=>simpa [oy,Ow]using h
 ·cases e
def asf{p pb:Nat->Bool}{t:TypeId}{cs:aa Lf}{y:A}(h:xh P t cs some=some y)(C:y.pM p pb=true):∀ c∈cs,c.nr p=true:=by
 unfold xh at h;split at h
 ·split at h
  ·split at h
   ·injection h with h;subst h;exact cx.1 C
   ·split at h
    ·injection h with h;subst h;intro c D;rw[List.mem_singleton.1 D];exact C
    ·cases h
   ·cases h
  ·cases h
 ·cases h
def A.xQ:A->Bool
 |.aH .. |.ptr _|.lf (.own _)=>true
 |_=>false
def A.asg(x:A)(K:nI):x.cL K=x\/(x.cL K).xQ=false:=by
 cases x with
 | lf l=>cases l with
  |own k=>cases h:K.l k<;>simp[A.cL,Lf.cL,h,A.xQ]
  |_=>exact .inl rfl
 |ptr k=>cases h:K.p k<;>simp[A.cL,h,A.xQ]
 |aH r j=>cases h:K.r r<;>simp[A.cL,h,A.xQ]
 |pk r j=>cases h:K.r r<;>simp[A.cL,h,A.xQ]
 |view k s i j=>cases h:K.p k<;>simp[A.cL,h,A.xQ]
 |fn f cap=>cases h:(cap.any λp=>K.r p.1)<;>simp[A.cL,h,A.xQ]
 |_=>exact .inr rfl
structure jd (p pb:Nat->Bool) (σ dn:S):Prop where
 t:∀{g},(σ.t g).pM p pb=true->dn.t g=σ.t g
 sl:∀r,p r=false->∀y,dn.m r=some (.sl y) ↔ σ.m r=some (.sl y)
 aB:∀r,p r=false->∀cs,σ.m r=some (.aB cs)->∃f:Lf->Lf,dn.m r=some (.aB (cs.map f))/\∀l,l.nr p=true->f l=l
 nw:∀g,dn.t g=σ.t g\/(dn.t g).xQ=false
def jd.refl{p pb:Nat->Bool}(σ:S):jd p pb σ σ:=
 ⟨λ_=>rfl,λ_ _ _=>.rfl,λ_ _ cs h=>⟨id,by rw[List.map_id];exact h,λ_ _=>rfl⟩,λ_=>.inl rfl⟩
def jd.trans{p pb:Nat->Bool}{σ E L:S}(h:jd p pb σ E)(D:jd p pb E L):jd p pb σ L:=by
 refine⟨λ{g} O=>?_,λr C y=>(D.sl r C y).trans (h.sl r C y),λr C cs U=>?_,λg=>?_⟩
 ·have e:=h.t O;rw[D.t (by rw[e];exact O),e]
 ·obtain⟨f,Y,Z⟩:=h.aB r C cs U;obtain⟨T,h3,h4⟩:=D.aB r C _ Y;exact⟨T ∘ f,by rw[<-List.map_map];exact h3,λl hl=>by show T (f l)=l;rw[Z l hl,h4 l hl]⟩
 ·rcases D.nw g with e | e
  ·rw[e];exact h.nw g
  ·exact .inr e
def jd.root{p pb:Nat->Bool}{σ D:S}(n:Nat)(x:bh)(C:p n=true)(hb:pb n=true)(h:jd p pb σ D):jd p pb σ ((D.drop n).root n x):=by
 refine h.trans ⟨λL=>A.E1 L C hb,λr E y=>aeH (Jh E C) y,λr E cs O=>⟨Lf.drop n,?_,λl hl=>Lf.zW hl C⟩,λg=>A.asg _ _⟩
 show Jf n x D.m r=_;rw[aeG (Jh E C),O];rfl
def jd.rt{p pb:Nat->Bool}{σ D:S}(n:Nat)(x:bh)(E:p n=true)(h:jd p pb σ D):jd p pb σ (D.root n x):=by
 have e:∀r,p r=false->(D.root n x).m r=D.m r:=λr C=>cR _ _ _ (Jh C E)
 exact h.trans ⟨λ_=>rfl,λr C y=>by rw[e r C],λr C cs L=>⟨id,by rw[e r C,List.map_id];exact L,λ_ _=>rfl⟩,λ_=>.inl rfl⟩
end
end Go.Proofs.YtnilicojgkhpnaaGreat
