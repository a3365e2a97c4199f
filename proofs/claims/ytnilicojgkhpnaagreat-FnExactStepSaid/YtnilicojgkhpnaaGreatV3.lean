/-
  Running the program over pure contents, and that it follows (part 3). Nothing here is a claim.
-/
import Derived.Lib.AppendStr
import Derived.MapKept
import Derived.Test.YtnilicojgkhpnaaGreatV2
set_option linter.unusedSimpArgs false
namespace Go.Proofs.YtnilicojgkhpnaaGreat
set_option linter.defProp false
open Go.RowKit
set_option linter.unusedVariables false
def dT:Nat:=89999
def oq(aj:bw)(k:aa Nat):bw:=λb=>match aj b with
 |some q=>bif k.isSuffixOf q then some (q.take (q.length-k.length)++[dT])else bif cB dT q then none else some q
 |none=>none
def UA(σ:S)(c:mA)(args:aa Operand)(q:Nat):Bool:=match lF σ c.ps args with
 |some C=>!cX q ((mB 0 C).map (·.1))&&C.any λD=>Nat.beq D.root dT
 |none=>false
def GA{X:Type}(N:Nat)(σ:S)(E:ah Tmp)(c:mA)(args:aa Operand)(k:S->ah X):ah X:=
 match args with
 | .tmp t :: _=>(match σ.t t with
  | .lf (.own [j,i,s,q])=>(match σ.m q with
   | some (.sl (.sl C (o+2) L l))=>if s=aA C then (if hi:i<l.length then (match (enc C o l[i])[j]? with
    | some y=>bif Nat.ble N 20000&&Nat.ble 20000 q&&Nat.blt q 60000&&UA ((σ.dZ [q,dT] [dT] [(dT,.sl y)]).set t (.lf (.own [dT]))) c args q then qB N ((σ.dZ [q,dT] [dT] [(dT,.sl y)]).set t (.lf (.own [dT]))) E c args λD=>(match D.m dT with
      | some (.sl O)=>(match dec C o (splice (enc C o l[i]) j [O])with
       |some e=>k ((D.drop dT).root q (.sl (.sl C (o+2) L (l.set i e))))
       |none=>none)
      |_=>none)else none
    |none=>none)else none)else none
   |_=>none)
  |_=>none)
 |_=>none
section
variable {P:Program} {w w':World} {w0:Wd} {B N:Nat} {aj cZ ax:bw} {ρ dY ρ':Nat->Loc} {σ:S} {a:Act} {X:Type} {d:Nat} {r:X} {o:Oper} {K:aa Nat} {m:Nat->ah aU}
def MO{b:Nat}(h:aj b=none):oq aj K b=none:=by simp[oq,h]
def anH{b:Nat}{p:aa Nat}(h:aj b=some (p++K)):oq aj K b=some (p++[dT]):=by
 have C:K.isSuffixOf _=true:=List.isSuffixOf_iff_suffix.2 ⟨p,rfl⟩;simp[oq,h,C]
def UB{b:Nat}{k:aa Nat}(h:aj b=some k)(C:¬ K <:+ k)(D:cB dT k=false):oq aj K b=some k:=by
 have C:K.isSuffixOf k=false:=by
  grind
 simp[oq,h,C,D]
def RV.cut{k:aa Nat}{x:V}{v:Value}(h:RV w B aj k x v)(p:aa Nat)(D:k=p++K\/x.aC=true):RV w B (oq aj K) (p++[dT]) x v:=
 h.map (Q:=λk C=>∃ p,k=p++K/\C=p++[dT]) (Nat.le_refl _) (λb _ h=>⟨rfl,MO h⟩) (λb k C _ E e=>by
  obtain⟨p,rfl,rfl⟩:=e;exact⟨rfl,anH E,λj i s=>⟨j::i::s::p,rfl,rfl⟩⟩) (D.symm.imp_right λh=>⟨p,h,rfl⟩)
def RV.anI{k:aa Nat}{x:V}{v:Value}(h:RV w B aj k x v)(O:∀ b,aj b≠some [])(T:((∀ p,¬ K <:+ p++k)/\cB dT k=false)\/x.aC=true):RV w B (oq aj K) k x v:=
 h.map (Q:=λk C=>k=C/\(∀ p,¬ K <:+ p++k)/\cB dT k=false) (Nat.le_refl _) (λb _ h=>⟨rfl,MO h⟩) (λb k C _ D e=>by
  obtain⟨rfl,E,L⟩:=e
  refine⟨rfl,UB D (E []) L,λj i s=>⟨rfl,λp=>?_,?_⟩⟩
  ·have:=E (p++[j,i,s])
   rwa [List.append_assoc]at this
  ·rw[Mj (by rintro rfl;exact O b D)];exact L) (T.symm.imp_right λh=>⟨rfl,h⟩)
def Rl.anJ{t:Nat}{x:A}(h:Rl w0 N aj ρ σ a w)(D:RA w w0.heap.size aj ρ x (a.tmps.getD t undef)):Rl w0 N aj ρ (σ.set t x) a w:=by
 refine⟨h.below,h.cL,h.root,λk=>?_,h.size,h.defers,h.fix,h.cT⟩
 show RA w _ aj ρ (bO σ.t t x k) _;by_cases C:k=t
 ·subst C;rw[bR];exact D
 ·rw[cw _ _ _ C];exact h.tmp k
def Rl.anK{q:Nat}{x:aU}(h:Rl w0 N aj ρ σ a w)(E:dx w w0.heap.size aj ρ q x):Rl w0 N aj ρ (σ.root q x) a w:=by
 refine⟨h.below,h.cL,λr y C=>?_,h.tmp,h.size,h.defers,h.fix,h.cT⟩
 have C:bO σ.m q _ r=some y:=C;by_cases D:r=q
 ·subst D;rw[bR]at C;simp_all
 ·rw[cw _ _ _ D]at C;exact h.root r y C
def gT.anL(h:Rl w0 N aj ρ σ a w):gT w0 w w:=⟨rfl,rfl,rfl,Nat.le_refl _,λ_ _ _=>rfl⟩
def anM{f:Nat}{args:Array Operand}{jB:Array TypeId}{c:mA}{k:S -> ah X}(ho:o.op = .call { callee:=.value (.func f),args,argTypes:=jB })(he:enters P f)(hc:rL P f c)(h:GA N σ o.dst c args.toList k=some r):∃ cy,k cy=some r/\jN P w0 N o σ cy:=by
 unfold GA at h;split at h
 ·rename_i t rest jQ;split at h
  ·rename_i j i s q ht;split at h
   ·rename_i E oo qn l hm;split at h
    ·rename_i hs;subst hs;split at h
     ·rename_i hi;split at h
      ·rename_i y hy;generalize anN:((σ.dZ [q,dT] [dT] [(dT,.sl y)]).set t (.lf (.own [dT])))=ot at h;cases hb:(Nat.ble N 20000&&Nat.ble 20000 q&&Nat.blt q 60000&&UA ot c args.toList q)with
       |false=>rw[hb]at h;cases h
       | true=>
        rw[hb,cond_true]at h;simp only[Bool.and_eq_true]at hb;obtain⟨⟨⟨hN,C1⟩,Al⟩,MP⟩:=hb;have hN:=Nat.le_of_ble_eq_true hN;have C1:=Nat.le_of_ble_eq_true C1;have Al:q<60000:=Nat.le_of_ble_eq_true Al;obtain⟨τ,Uz,cn,Z,ye,nA,Gy,Ge⟩:=Uw (w0:=w0) ho he hc h;clear h;unfold UA at MP;rw[ye]at MP;simp only[Bool.and_eq_true,Bool.not_eq_true']at MP;obtain⟨FW,hdT⟩:=MP;obtain⟨mu,iy,UC⟩:=List.any_eq_true.1 hdT;have UC:=Nat.eq_of_beq_eq_true UC;have anO:cX dT cn=false:=by rw[<- UC];exact Gy mu iy
        have anP:cX q cn=false:=by
         cases D:cX q cn with
         |false=>rfl
         |true=>have:=nA q D;omega
        have UD:q≠dT:=by unfold dT;omega
        split at Z
        ·rename_i y' F7;split at Z
         ·rename_i e UE
          refine⟨_,Z,λa w KK Q T hK=>?_⟩
          obtain⟨aj,ρ,T⟩:=T;have cJ:=T.vw;have anQ:w0.F dT=none:=T.cT dT (.inr (by decide));have dN:=T.root q _ hm;generalize D:aU.sl (.sl E (oo+2) qn l)=x at dN;cases dN with
          |az=>cases D
          |mp=>cases D
          |gh=>cases D
          | sl v yq bW hr=>
           injection D with D;subst D;cases hr with
           |dH=>simp at hi
           |eF=>simp at hi
           |eP=>simp at hi
           |aC _ _ _ _ _ _ _ _ _ ho=>omega
           | own _ _ _ _ _ b cap cs u hl hh hs hn qj hcc lz=>
            have hKv:vm σ.m [j,i,aA E,q] y:=.elem j i [q] E oo qn l y (.root q _ hm) hi hy;obtain⟨u0,oY,anR⟩:=hKv.ok T.root;have vI:=T.tmp t;rw[ht]at vI;have gq:a.tmps.getD t undef=u0:=by
             have h2:=vI.2;rw[oY]at h2;injection h2 with h2;exact h2.symm
            have anS:u0=u i j:=by
             have h3:cH w aj ρ [j,i,aA E,q]=some (u i j):=by
              rw[Mb,Aa j i _ (show cH w aj ρ [q]=some (.slice (some ⟨b,0,none⟩) l.length cap) by simp[cH,bW]) hl];show w.cell? _=_;rw[cell_of_row w b _ cs _ _ hh];simp[*]
             rw[oY]at h3;injection h3
            have fh:kZ u0=true:=by rw[<- gq];exact vI.1
            -- the state that the callee's caller sees
            have Uc:∀ k:aa Nat,fC k [q,dT]=false -> cB q k=false/\cB dT k=false:=by
             intro k Z;unfold fC at Z;unfold cB;split at Z
             next z U=>rw[U];have:=aa8 Z;simp only[List.mem_cons,List.not_mem_nil,not_or]at this;exact⟨by simpa using this.1,by simpa using this.2⟩
             next U=>rw[U];exact⟨rfl,rfl⟩
            have hKq:∀ k:aa Nat,[j,i,aA E,q] <:+ k -> cB q k=true:=by
             rintro k ⟨p,rfl⟩;simp[cB]
            have TP:rM w w aj (oq aj [j,i,aA E,q]) ρ (bO ρ dT (.dw u0)) [q,dT] [dT]:=by
             refine⟨Nat.le_refl _,λL vD C=>⟨rfl,?_⟩,λn hn=>?_,λL k C=>(T.cL L k C).2⟩
             ·cases O:aj L with
              |none=>exact MO O
              | some k=>
               obtain⟨g1,g2⟩:=Uc k (C k O);exact UB O (λnh=>by rw[hKq k nh]at g1;cases g1) g2
             ·refine cw _ _ _ ?_;rintro rfl;simp[cX]at hn
            have tP:∀ L k,oq aj [j,i,aA E,q] L=some k -> (∃ Y,aj L=some Y)/\k≠[]:=by
             intro L k C;cases O:aj L with
             |none=>rw[MO O]at C;cases C
             | some Y=>
              refine⟨⟨Y,rfl⟩,?_⟩;unfold oq at C;rw[O]at C;simp only at C;cases h1:List.isSuffixOf [j,i,aA E,q] Y with
              | true=>
               rw[h1,cond_true]at C;injection C with C;rw[<- C];simp
              | false=>
               rw[h1,cond_false]at C;cases h2:cB dT Y with
               |true=>rw[h2,cond_true]at C;cases C
               | false=>
                rw[h2,cond_false]at C;injection C with C;rw[<- C];exact(T.cL L Y O).2.2
            have tX:Rl w0 N (oq aj [j,i,aA E,q]) (bO ρ dT (.dw u0)) (σ.dZ [q,dT] [dT] [(dT,.sl y)]) a w:=by
             refine T.rN TP (gT.anL T) (λL k C=>?_) (λn hn=>?_) (λn z U=>?_)
             ·obtain⟨⟨Y,O⟩,MQ⟩:=tP L k C;have:=T.cL L Y O;exact⟨this.1,this.2.1,MQ⟩
             ·have:n=dT:=by simpa [cX]using hn
              rw[this];exact anQ
             ·have hn:n=dT/\z = .sl y:=by
               rw[List.lookup_cons]at U;cases Dg:(n==dT)with
               |false=>rw[Dg]at U;cases U
               | true=>
                rw[Dg]at U;injection U with U;exact⟨by simpa using Dg,U.symm⟩
              obtain⟨rfl,rfl⟩:=hn;exact .sl u0 y (bR _ _ _) (anR.cut [] (.inl rfl))
            have nG:Rl w0 N (oq aj [j,i,aA E,q]) (bO ρ dT (.dw u0)) ot a w:=by
             rw[<- anN];refine tX.anJ ?_;rw[gq];exact⟨fh,by simp only[cH,bR]⟩
            refine Ge a w KK Q _ _ nG λvv w' cZ dY qD Gz vH jj vQ=>?_
            -- behind the call
            have vL:90000 <= gJ o.dst:=by unfold gJ;split<;>omega
            have anT:qD dT = .dw u0:=by
             rw[vQ dT (by unfold dT;omega),vH.dX dT anO,bR]
            have anU:qD q = .dw (.slice (some ⟨b,0,none⟩) l.length cap):=by
             rw[vQ q (by omega),vH.dX q anP,cw _ _ _ UD,bW]
            have dN:=Gz.root dT _ F7;generalize D:aU.sl y'=x at dN;cases dN with
            |az=>cases D
            |mp=>cases D
            |gh=>cases D
            | sl v' y'' fR ez=>
             injection D with D;subst D;rw[anT]at fR;injection fR with fR;subst fR;have UF:=Gz.vw;have hrel:Rel dT cZ (cZ.fU dT [j,i,aA E,q]):=FT UF;have abr:cB dT [q]=false:=by simpa [cB]using λe=>UD e
             have Df:oq aj [j,i,aA E,q] b=some [q]:=UB hl (λnh=>by have:=nh.length_le;simp at this) abr;have anV:fC [q] ((mB 0 Uz).map (·.1))=false:=FW;obtain⟨g1,g2⟩:=vH.same b (vH.aj b _ Df).1 (λk C=>by rw[Df]at C;injection C with C;subst C;exact anV);have anW:cZ b=some [q]:=g2.trans Df;have anX:cZ.fU dT [j,i,aA E,q] b=some [q]:=hrel.jL b _ anW abr;have hR4:=Gz.rel hrel (λL k C=>by
              unfold bw.fU at C;cases O:cZ L with
              |none=>rw[O]at C;cases C
              | some Y=>
               rw[O]at C;injection C with C;subst C;exact⟨⟨Y,rfl⟩,aaC (by simp) (λe=>UF L (by rw[O,e]))⟩)
             refine hK _ _ ⟨_,qD,hR4.anK (.sl _ _ anU ?_)⟩;have hj:j<aA E:=by
              have:=(List.getElem?_eq_some_iff.1 hy).1
              rwa [jg]at this
             refine RV.Mf (w':=w') (cs:=cs) (xs:=[y']) (u:=u) (us:=u) anX (g1.trans hh) hs hn qj hi (show j+1 <= aA E from hj) UE (λi' qE j' x D hij=>⟨hcc i' qE j' x D,?_⟩) (λn x D=>?_)
             ·have vA:=lz i' qE j' x D;have anY:¬ (i'=i/\j'=j):=λe=>hij ⟨e.1,by simp;omega⟩
              have abt:cB dT [j',i',aA E,q]=false:=by simpa [cB]using λe=>UD e
              have a1:=vA.anI (K:=[j,i,aA E,q]) cJ (.inl ⟨λp nh=>?_,abt⟩)
              ·have a2:=a1.rN vH (.inl (by simpa [fC]using FW));exact a2.rel hrel (.inl abt)
              ·have e1:[j,i,aA E,q]=[j',i',aA E,q]:=Ti nh ⟨p,rfl⟩ rfl;injection e1 with e1 e2;injection e2 with e2 e3;exact anY ⟨e2.symm,e1.symm⟩
             ·cases n with
              | zero=>
               simp only[List.getElem?_cons_zero,Option.some.injEq]at D;subst D;refine⟨hcc i hi j y hy,?_⟩;have:=ez.fU (q:=dT) (nk:=[j,i,aA E,q]) UF;rw[aaB,anS]at this;exact this
              |succ n=>simp at D
         ·cases Z
        ·cases Z
      ·cases h
     ·cases h
    ·cases h
   ·cases h
  ·cases h
 ·cases h
def anZ{C:ah Tmp}{c:mA}{args:aa Operand}(D:∀ σ,cv λX k=>qB (X:=X) N σ C c args k):cv λX k=>GA (X:=X) N σ C c args k:=λX Y k g=>by
 unfold GA
 repeat' first|rfl|refine cN ((D _ _ _ _ _).trans (congrArg _ (funext λE=>?_))) rfl|split
def vR:∀ (q:aa Nat),cv λX k=>gU (X:=X) m q k
 |[]=>λ_ _ _ _=>rfl
 | [x]=>λX Y k g=>by
  simp only[gU]
  repeat' first|rfl|refine cN ?_ ?_|split
 |[_,_]=>λ_ _ _ _=>rfl
 | j :: i :: s :: q=>λX Y k g=>by
  simp only[gU]
  refine(vR q _ _ _ _).trans (congrArg _ (funext λy=>?_))
  repeat' first|rfl|split
  all_goals simp_all
def Dh{x:Lf}:cv λX k=>nj (X:=X) σ x k:=by
 cases x with
 |own q=>exact vR q
 |_=>exact λ_ _ _ _=>rfl
def abu{q:aa Nat}{s i j:Nat}:cv λX k=>tJ (X:=X) σ q s i j k:=λX Y k g=>by
 refine(vR q _ _ _ _).trans (congrArg _ (funext λy=>?_))
 repeat' first|rfl|refine cN ?_ ?_|split
def UG{x:A}:cv λX k=>qp (X:=X) σ x k:=by
 cases x with
 |lf l=>exact Dh
 |view=>exact abu
 |_=>exact λ_ _ _ _=>rfl
def UH{x:A}:cv λX k=>vK (X:=X) x k:=λX Y k g=>by
 unfold vK
 repeat' first|rfl|refine cN ?_ ?_|split
def an0{ty:TypeId}{C:BinOp}{x y:V}:cv λX k=>FL (X:=X) P ty C x y k:=λX Y k g=>by
 unfold FL
 repeat' first|rfl|refine cN ?_ ?_|split
def an1{C:BinOp}{t:TypeId}{x y:A}:cv λX k=>xQ (X:=X) P σ C t x y k:=λX Y k g=>by
 unfold xQ;split
 ·repeat' first|rfl|refine cN ?_ ?_|split
 ·split
  ·refine(Dh _ _ _ _).trans (congrArg _ (funext λz=>?_))
   repeat' first|rfl|refine cN ?_ ?_|split
  ·rfl
 ·exact(UH.comp λa=>UH.comp λb=>an0.comp (b:=λX k z=>k (.lf (.v z))) λz _ _ _ _=>rfl) X Y k g
def an2{C:UnOp}{x:V}:cv λX k=>FM (X:=X) C x k:=λX Y k g=>by
 unfold FM
 repeat' first|rfl|refine cN ?_ ?_|split
def MR{t:TypeId}{cs:aa Lf}:cv λX k=>vt (X:=X) P t cs k:=λX Y k g=>by
 unfold vt
 repeat' first|rfl|refine cN ?_ ?_|split
def abv{t:TypeId}{x:A}:cv λX k=>mh (X:=X) P σ t x k:=λX Y k g=>by
 unfold mh;split
 ·rfl
 ·split
  ·split
   ·exact MR _ _ _ _
   ·rfl
  ·exact MR _ _ _ _
  ·refine(vR _ _ _ _ _).trans (congrArg _ (funext λz=>?_))
   repeat' first|rfl|exact MR _ _ _ _|split
  ·rfl
def an3{s:TypeId}{x:A}{f:Nat}:cv λX k=>CV (X:=X) P s x f k:=λX Y k g=>by
 unfold CV
 repeat' first|rfl|refine cN ?_ ?_|split
def an4{t:TypeId}{x i:A}:cv λX k=>xy (X:=X) P σ t x i k:=λX Y k g=>by
 unfold xy;split
 ·rfl
 ·split
  ·split
   ·repeat' first|rfl|refine cN ?_ ?_|split
   ·refine(vR _ _ _ _ _).trans (congrArg _ (funext λz=>?_))
    repeat' first|rfl|refine cN ?_ ?_|split
   ·rfl
  ·rfl
def an5{t:TypeId}{x:A}:cv λX k=>Ag (X:=X) P σ t x k:=λX Y k g=>by
 unfold Ag;split
 ·refine(Dh _ _ _ _).trans (congrArg _ (funext λz=>?_))
  repeat' first|rfl|refine cN ?_ ?_|split
 ·repeat' first|rfl|refine cN ?_ ?_|split
 ·rfl
def an6{x:A}{i:Nat}:cv λX k=>Ah (X:=X) x i k:=λX Y k g=>by
 unfold Ah
 repeat' first|rfl|refine cN ?_ ?_|split
def an7{t:TypeId}{parts:aa (Nat×Operand)}:cv λX k=>C2 (X:=X) P σ t parts k:=λX Y k g=>by
 unfold C2
 repeat' first|rfl|refine cN ?_ ?_|split
def an8{s:TypeId}{x:A}{f:Nat}:cv λX k=>F5 (X:=X) P s x f k:=λX Y k g=>by
 unfold F5
 repeat' first|rfl|refine cN ?_ ?_|split
def abw{C:Bool}{x y:A}:cv λX k=>C3 (X:=X) C x y k:=λX Y k g=>by
 unfold C3
 repeat' first|rfl|refine cN ?_ ?_|split
def an9{t:TypeId}{x i:A}:cv λX k=>F6 (X:=X) P t x i k:=λX Y k g=>by
 unfold F6
 repeat' first|rfl|refine cN ?_ ?_|split
def aoa{C D:TypeId}{x:A}:cv λX k=>xN (X:=X) P σ C D x k:=λX Y k g=>by
 unfold xN;split
 ·repeat' first|rfl|refine cN ?_ ?_|split
 ·refine(Dh _ _ _ _).trans (congrArg _ (funext λz=>?_))
  unfold My
  repeat' first|rfl|refine cN ?_ ?_|split
 ·rfl
def Di{x:ah A}{d:Int}:cv λX k=>rE (X:=X) x d k:=λX Y k g=>by
 unfold rE
 repeat' first|rfl|refine cN ?_ ?_|split
def abx{t:TypeId}{q:aa Nat}{C:ah Nat}{lo hi:ah A}:cv λX k=>An (X:=X) P σ t q C lo hi k:=λX Y k g=>by
 unfold An;split
 ·split
  ·refine(vR _ _ _ _ _).trans (congrArg _ (funext λz=>?_))
   unfold C8;split
   ·split
    ·refine(Di _ _ _ _).trans (congrArg _ (funext λ_=>(Di _ _ _ _).trans (congrArg _ (funext λ_=>?_))))
     repeat' first|rfl|refine cN ?_ ?_|split
    ·rfl
   ·rfl
  ·rfl
 ·rfl
def aob{t:TypeId}{x:A}{lo hi:ah A}:cv λX k=>xT (X:=X) P σ t x lo hi k:=λX Y k g=>by
 unfold xT;split
 ·exact abx _ _ _ _
 ·exact abx _ _ _ _
 ·unfold vF;split
  ·split
   ·refine(Di _ _ _ _).trans (congrArg _ (funext λ_=>(Di _ _ _ _).trans (congrArg _ (funext λ_=>?_))))
    repeat' first|rfl|refine cN ?_ ?_|split
   ·rfl
  ·split
   ·split
    ·split
     ·refine cN ((Di _ _ _ _).trans (congrArg _ (funext λ_=>(Di _ _ _ _).trans (congrArg _ (funext λ_=>?_))))) rfl
      repeat' first|rfl|refine cN ?_ ?_|split
     ·rfl
    ·rfl
   ·rfl
  ·rfl
def vS{C:ah Tmp}{x:A}:cv λX k=>gd (X:=X) N σ C x k:=λX Y k g=>by
 unfold gd
 repeat' first|rfl|refine cN ?_ ?_|split
def MS{x:aU}{y:A}:cv λX k=>gj (X:=X) N σ d x y k:=λX Y k g=>cN rfl rfl
def Dj{x:aU}{y:A}{k:S -> ah X}(h:gj N σ d x y k=some r):k (((σ.drop d).root d x).set d y)=some r/\kr (λX k=>gj (X:=X) N σ d x y k) (((σ.drop d).root d x).set d y):=by
 unfold gj at h;cases C:Nat.blt d N with
 |false=>simp_all
 |true=>rw[C]at h;exact⟨h,λX k=>by simp[gj,C,cond_true]⟩
def aoc{e:TypeId}{k:S -> ah X}(h:oZ P N σ d e k=some r):∃ x y,k (((σ.drop d).root d x).set d y)=some r/\y = .aG d 0/\(∀ (C:S),kr (λX k=>oZ (X:=X) P N C d e k) (((C.drop d).root d x).set d y)):=by
 unfold oZ at h;split at h
 ·rename_i z D;obtain⟨E,_⟩:=Dj h
  refine⟨_,_,E,rfl,λC X k=>?_⟩
  obtain⟨L,_⟩:=nq h;have O:Nat.blt d N=true:=Nat.ble_eq_true_of_le L;simp[oZ,D,gj,O,cond_true]
 ·cases h
def aby{t:TypeId}{l c:A}{k:S -> ah X}(h:xE P N σ d t l c k=some r):∃ y,k (((σ.drop d).root d (.sl y)).set d (.lf (.own [d])))=some r/\(∀ (C:S),kr (λX k=>xE (X:=X) P N C d t l c k) (((C.drop d).root d (.sl y)).set d (.lf (.own [d])))):=by
 unfold xE at h;split at h
 ·rename_i e Y Z n kc c D;split at h
  ·cases h
  ·rename_i z E;split at h
   ·rename_i L;obtain⟨O,_⟩:=Dj h
    refine⟨_,O,λC X k=>?_⟩
    obtain⟨T,_⟩:=nq h;have U:Nat.blt d N=true:=Nat.ble_eq_true_of_le T;simp[xE,D,E,if_pos L,gj,U,cond_true]
   ·cases h
 ·cases h
def abz{t:TypeId}{len:Nat}{parts:aa (Nat×Operand)}{k:S -> ah X}(h:xK P N σ d t len parts k=some r):∃ y,k (((σ.drop d).root d (.sl y)).set d (.lf (.own [d])))=some r /\
  (∀(C:S),(∀p∈parts,aH C p.2=aH σ p.2) -> kr (λX k=>xK (X:=X) P N C d t len parts k) (((C.drop d).root d (.sl y)).set d (.lf (.own [d])))):=by
 unfold xK at h;split at h
 ·rename_i e D L;split at h
  ·rename_i z O;cases E:(Nat.beq (full D) 0&&Nat.beq z.cells.size (aA D)&&Nat.blt (len*aA D) 16777217)with
   |false=>simp_all
   | true=>
    rw[E,cond_true]at h;split at h
    ·rename_i cs T;split at h
     ·rename_i vs U;split at h
      ·rename_i l Y;obtain⟨Z,_⟩:=Dj h
       refine⟨_,Z,λC hσ X k=>?_⟩
       obtain⟨hN,_⟩:=nq h;have fQ:Nat.blt d N=true:=Nat.ble_eq_true_of_le hN;have e:(parts.map λp=>(p.1,aH C p.2))=parts.map λp=>(p.1,aH σ p.2):=List.map_congr_left λp hp=>by rw[hσ p hp]
       simp[xK,L,O,E,cond_true,e,T,U,Y,gj,fQ]
      ·cases h
     ·cases h
    ·cases h
  ·cases h
 ·cases h
def aod{t:TypeId}{x y:A}:cv λX k=>rA (X:=X) P N σ d t x y k:=λX Y k g=>by
 unfold rA;split
 ·refine cN ((UG _ _ _ _).trans (congrArg _ (funext λC=>?_))) rfl
  repeat' first|rfl|exact MS _ _ _ _|refine cN ?_ ?_|split
 ·rfl
def abA:∀ (q:aa Nat) (y:V),cv λX k=>vu (X:=X) m q y k
 |[],_=>λ_ _ _ _=>rfl
 | [x],y=>λX Y k g=>by
  simp only[vu]
  repeat' first|rfl|refine cN ?_ ?_|split
 |[_,_],_=>λ_ _ _ _=>rfl
 | j :: i :: s :: q,y=>λX Y k g=>by
  simp only[vu]
  refine(vR q _ _ _ _).trans (congrArg _ (funext λz=>?_))
  repeat' first|rfl|exact abA q _ _ _ _ _|split
def abC{t:TypeId}{x y:A}:cv λX k=>od (X:=X) P σ t x y k:=λX Y k g=>by
 unfold od;split
 ·split
  ·split
   ·repeat' first|rfl|refine cN ?_ ?_|split
   ·split
    ·rfl
    ·refine(vR _ _ _ _ _).trans (congrArg _ (funext λz=>?_))
     repeat' first|rfl|exact abA _ _ _ _ _ _|refine cN ?_ ?_|split
   ·rfl
  ·rfl
 ·rfl
def UI:∀ (xs:aa Lf),cv λX k=>pg (X:=X) σ xs k
 |[]=>λ_ _ _ _=>rfl
 |x::xs=>Dh.comp λy=>(UI xs).comp (b:=λX k ys=>k (y.fA::ys)) λ_ _ _ _ _=>rfl
def abD{x:A}:cv λX k=>mq (X:=X) σ x k:=λX Y k g=>by
 unfold mq
 repeat' first|rfl|exact UI _ _ _ _ _|exact abu _ _ _ _|split
def aoe{x:A}:cv λX k=>tS (X:=X) σ x k:=λX Y k g=>by
 unfold tS
 repeat' first|rfl|exact abD _ _ _ _|refine(UI _ _ _ _ _).trans (congrArg _ (funext λz=>?_))|split
def UJ{f:(X:Type)->A->(Pt->ah X)->ah X}(C:∀ x,cv λX k=>f X x k):∀ (xs:aa Operand),cv λX k=>tT (f X) σ xs k
 |[]=>λ_ _ _ _=>rfl
 |x::xs=>(C _).comp λp=>(UJ C xs).comp (b:=λX k ps=>k (p::ps)) λ_ _ _ _ _=>rfl
def Dk{xs:aa Operand}:cv λX k=>qt (X:=X) σ xs k:=UJ (λ_=>abD) xs
def abE{xs:aa Operand}:cv λX k=>Ao (X:=X) σ xs k:=UJ (λ_=>aoe) xs
def MT{C:eY}:cv λX k=>mz (X:=X) σ d C k:=λX Y k g=>by
 unfold mz
 repeat' first|rfl|refine cN ?_ ?_|split
def abF{f:Nat}{c:gI}(C:gu P f c){ev:(X:Type)->(aa Pt->ah X)->ah X}(D:cv ev):cv λX k=>qw (X:=X) N σ d c (ev X) k:=λX Y k g=>
 cN ((D.comp λps=>(C.1 ps).comp λE=>MT) X Y k g) rfl
def MU{f:Nat}{c:gI}(Y:gu P f c){ev:(X:Type)->(aa Pt->ah X)->ah X}(Z:cv ev){k:S->ah X}(h:qw N σ d c (ev X) k=some r):∃ C D,mz σ d C some=some D/\k D=some r/\
  ∀E O (L:(X:Type)->(aa Pt->ah X)->ah X),(∀(X:Type) (k:aa Pt->ah X),L X k=ev X k)->mz E d C some=some O->kr (λX k=>qw (X:=X) N E d c (L X) k) O:=by
 unfold qw at h;cases T:Nat.blt d N with
 |false=>rw[T]at h;cases h
 | true=>
  rw[T,cond_true]at h;obtain⟨ps,h2,hd⟩:=Z.lA h;obtain⟨C,h3,T0⟩:=(Y.1 ps).lA h2;obtain⟨D,h4,hd3⟩:=MT.lA h3
  refine⟨C,D,hd3 _ _,h4,λE O L ha gv X k=>?_⟩
  obtain⟨τ2,U,hd4⟩:=MT.lA gv;injection U with U;subst U;show qw N E d c (L X) k=_;unfold qw;rw[T,cond_true,ha,hd X];exact(T0 X _).trans (hd4 X k)
/-! Keys that do not end in certain names. -/
def mE(p:Nat->Bool)(k:aa Nat):Bool:=!hG p k
def tY(p pb:Nat->Bool):lu:=⟨hG p,hG p,pb⟩
def Lf.nr(p:Nat->Bool):Lf->Bool:=Lf.fr (hG p)
def A.nr(p:Nat->Bool):A->Bool:=A.fr (tY p p)
def GB{p:Nat->Bool}{n:Nat}(C:p n=true)(k:aa Nat)(h:cB n k=true):hG p k=true:=by
 unfold hG;rw[show k.getLast?=some n by simpa [cB]using h];exact C
def abG{p:Nat->Bool}{k:aa Nat}{n:Nat}(h:mE p k=true)(C:p n=true):cB n k=false:=by
 cases D:cB n k with
 |false=>rfl
 |true=>unfold mE at h;rw[GB C k D]at h;cases h
def aof{p:Nat->Bool}{n:Nat}(C:p n=true)(r:Nat)(h:Nat.beq r n=true):p r=true:=by rw[Nat.eq_of_beq_eq_true h];exact C
def Lf.yf{p:Nat->Bool}{x:Lf}{n:Nat}(h:x.nr p=true)(C:p n=true):x.drop n=x:=Lf.oU (Lf.tE (GB C) h)
def oV.yf{p:Nat->Bool}{xs:aa Lf}{n:Nat}(h:xs.all (Lf.nr p)=true)(C:p n=true):xs.map (Lf.drop n)=xs:=oV.oU (List.all_eq_true.2 λc D=>Lf.tE (GB C) (List.all_eq_true.1 h c D))
def A.Dl{p pb:Nat->Bool}{x:A}{n:Nat}(h:x.fr (tY p pb)=true)(C:p n=true)(D:pb n=true):x.drop n=x:=A.oU (A.tE (K:=vn n) (J:=tY p pb) (GB C) (GB C) (aof D) h)
def A.yf{p:Nat->Bool}{x:A}{n:Nat}(h:x.nr p=true)(C:p n=true):x.drop n=x:=A.Dl h C C
def S.ext'{σ C:S}(D:∀ k,σ.t k=C.t k)(E:∀ r,σ.m r=C.m r):σ=C:=by
 cases σ;cases C;simp
 grind
def S.set_set{e d:Nat}(h:e≠d)(v u:A):(σ.set d v).set e u=(σ.set e u).set d v:=by
 refine S.ext' (λk=>?_) λ_=>rfl
 show bO (bO σ.t d v) e u k=bO (bO σ.t e u) d v k;by_cases C:k=e
 ·subst C;rw[bR,cw _ _ _ h,bR]
 ·by_cases D:k=d
  ·subst D;rw[cw _ _ _ C,bR,bR]
  ·rw[cw _ _ _ C,cw _ _ _ D,cw _ _ _ D,cw _ _ _ C]
def S.drop_set(n:Nat){v:A}(C:v.drop n=v):(σ.set d v).drop n=(σ.drop n).set d v:=by
 refine S.ext' (λk=>?_) λ_=>rfl
 show (bO σ.t d v k).drop n=bO (λk=>(σ.t k).drop n) d v k;by_cases h:k=d
 ·subst h;rw[bR,bR,C]
 ·rw[cw _ _ _ h,cw _ _ _ h]
def UK(v:A):∀ (xs:aa V) (c:Nat) (σ:S),(∀ n,c <= n -> v.drop n=v) -> kz c (σ.set d v) xs=(kz c σ xs).set d v
 |[],c,σ,h=>rfl
 | x :: xs,c,σ,h=>by
  simp[kz];cases D:x.aC with
  | true=>
   exact UK v xs _ σ (λn C=>h n (by omega))
  | false=>
   rw[S.drop_set c (h c (Nat.le_refl _))];exact UK v xs _ ((σ.drop c).root c _) (λn C=>h n (by omega))
def abH(v:A):∀ (ps:aa Pt) (c:Nat) (σ:S),(∀ n,c <= n -> v.drop n=v) -> nE c (σ.set d v) ps=(nE c σ ps).set d v
 |[],c,σ,h=>rfl
 | p :: ps,c,σ,h=>by
  simp[nE];rw[UK v p.2 c σ h];exact abH v ps _ _ (λn C=>h n (by omega))
end
def yg{X:Type}(N:Nat)(σ:S)(d:Nat)(x:A)(k:S->ah X):ah X:=
 match x.xx with
 |some xs=>bif xs.all Lf.live then gj N σ d (.az (xs.map (Lf.drop d))) (.aG d 0) k else none
 |none=>none
def MV{X:Type}(x:A)(k:A->ah X):ah X:=
 match x with
 |.aG r j=>k (.aG r j)
 |.ptr q=>k (.ptr q)
 |.gS cs=>k (.gS cs)
 |_=>none
section
variable {P:Program} {w w':World} {w0:Wd} {B N:Nat} {aj ax:bw} {ρ ρ':Nat->Loc} {σ:S} {a:Act} {X:Type} {d:Nat} {r:X} {o:Oper}
def aog{e:TypeId}{x:A}{k:S -> ah X}(h:yg N σ d x k=some r):∃ L,k L=some r /\ ∀ aj ρ a w,Rl w0 N aj ρ σ a w -> ∀ u,RA w w0.heap.size aj ρ x u ->
  ∃w' ax ρ' v,(Instr.box e u).run P w = .ok v w'/\Rl w0 N ax ρ' L (a.put (some d) v) w':=by
 unfold yg at h;split at h
 ·rename_i xs Z;cases O:xs.all Lf.live with
  |false=>grind
  | true=>
   rw[O,cond_true]at h;obtain⟨T,h⟩:=nq h
   refine⟨_,h,λaj ρ a w D u hu=>?_⟩
   obtain⟨hl,_⟩:=FQ Z O hu;have cV:(Instr.box e u).run P w = .ok (.pointer (some ⟨w.heap.size,0,none⟩)) (w.alloc (.cells u.cells e)):=by
    simp[Instr.box,newVar,newRow]
   refine⟨_,bO aj w.heap.size (some [d]),bO ρ d (.az w.heap.size 0),_,cV,(D.CY (D.cT d (.inl T)) (λr C=>cw _ _ _ C) ?_).set ⟨w.heap.size,0,bR _ _ _,rfl⟩ T⟩
   have h1:dM (w.alloc (.cells u.cells e)) w0.heap.size (bO aj w.heap.size (some [d])) ρ xs u.cells:=
    hl.jL (by simp) (λb E=>⟨Below.heap_alloc w _ b E,cw _ _ _ (by omega)⟩) (λb k E=>(D.cL b k E).2.1)
   have U:=h1.dX (ρ':=bO ρ d (.az w.heap.size 0)) (d:=d) (λr C=>cw _ _ _ C)
   refine .az w.heap.size 0 u.cells e _ (λj=>u.cells.getD j undef) (bR _ _ _) (bR _ _ _) (heap_alloc_new w _) (by rw[U.1];omega) λj y hy=>?_
   obtain⟨v,Y,C⟩:=U.2 j y hy;have hg:u.cells.getD j undef=v:=by rw[Array.getD_eq_getD_getElem?,Y];rfl
   rw[hg,Nat.zero_add];exact⟨Y,C⟩
 ·cases h
def aoh{x:A}{k:S -> ah X}(h:yg N σ d x k=some r):∃ y u,k (((σ.drop d).root d y).set d u)=some r/\(∀ (C:S),kr (λX k=>yg (X:=X) N C d x k) (((C.drop d).root d y).set d u)):=by
 unfold yg at h;split at h
 ·rename_i xs E;cases D:xs.all Lf.live with
  |false=>simp_all
  | true=>
   rw[D]at h;obtain⟨L,_⟩:=Dj h
   refine⟨_,_,L,λC X k=>?_⟩
   obtain⟨O,_⟩:=nq h;have T:Nat.blt d N=true:=Nat.ble_eq_true_of_le O;simp[yg,E,D,gj,T,cond_true]
 ·cases h
def aoi{x:A}{k:A->ah X}(h:MV x k=some r):k x=some r/\∀ u,RA w B aj ρ x u->∃ ad,u = .pointer (some ad):=by
 unfold MV at h;split at h
 ·exact⟨h,λu C=>by obtain⟨b,off,_,rfl⟩:=C;exact⟨_,rfl⟩⟩
 ·exact⟨h,λu C=>by obtain⟨ad,rfl,_⟩:=C;exact⟨_,rfl⟩⟩
 ·exact⟨h,λu C=>by obtain⟨b,off,rfl,_⟩:=C;exact⟨_,rfl⟩⟩
 ·cases h
end
def ou(t:TypeId):Bool:=[999999,999999,82,999999,87,999999,999999,999999,999999,999999,113,999999,999999,999999,999999].any (Nat.beq t)
def vT{X:Type}(P:Program)(N:Nat)(σ:S)(d:Nat)(t:TypeId)(len:Nat)(parts:aa (Nat×Operand))(k:S->ah X):ah X:=
 match tO P t with
 | some (e,C)=>match zeroOf P e with
  | some z=>bif Nat.beq z.cells.size (aA C)&&Nat.blt (len*aA C) 16777217 then (match xJ (λi=>some (i*aA C,aA C)) (List.replicate len (z.cells.toList.map mm)).flatten (parts.map λp=>(p.1,aH σ p.2))with
   |some cs=>bif Nat.beq len 0 then gj N σ d (.sl (.sl C (full C+2) true [])) (.lf (.own [d])) k else gj N σ d (.az (cs.map (Lf.drop d))) (.pk d len) k
   |none=>none)else none
  |none=>none
 |none=>none
def AG{X:Type}(N:Nat)(σ:S)(d r D:Nat)(C:TC)(n:Nat)(k:S->ah X):ah X:=
 match σ.m D,σ.m r with
 | some (.az cs),some (.sl (.sl E (o+2) q l))=>if h:E=C then (match gi r (λj=>(j % aA C) :: (l.length+j / aA C) :: aA C :: [r]) cs.length 0 cs σ with
  | some (L,O)=>(match F3 C o n L with
   |some l2=>bif Nat.blt d N&&bD (l.length+l2.length)then k (((O.drop r).root r (.sl (.sl C (o+2) false ((h ▸ l)++l2)))).set d (.lf (.own [r])))else none
   |none=>none)
  |none=>none)else none
 |_,_=>none
def GC{X:Type}(P:Program)(N:Nat)(σ:S)(d:Nat)(t:TypeId)(x y:A)(k:S->ah X):ah X:=
 match tO P t,y with
 | some (e,C),.pk D n=>bif (zeroOf P e).any (λz=>Nat.beq z.cells.size (aA C))&&(Nat.blt d N&&Nat.blt n oT)then (match x with
  |.lf (.v .nil)=>AG N ((σ.drop d).root d (.sl (.sl C (full C+2) false []))) d d D C n k
  |.lf (.own [r])=>bif Nat.blt r N ||Nat.ble 60000 r then AG N σ d r D C n k else none
  |_=>none)else none
 |_,_=>none
def rQ{X:Type}(P:Program)(σ:S)(t:TypeId)(x y:A)(k:S->ah X):ah X:=
 match hJ P t,y.xx,x with
 | some n,some xs,.ptr [j,i,s,r]=>if xs.length=n then (bif xs.all Lf.live then (match gi r (λm=>(j+m) :: i :: s :: [r]) xs.length 0 xs σ with
  | some (E,D)=>(match D.m r with
   | some (.sl (.sl C (o+2) L l))=>if s=aA C then (if h:i<l.length then (if j+n<=aA C then (match dec C o (splice (enc C o l[i]) j E)with
    |some e=>k (D.dZ [r] [] [(r,.sl (.sl C (o+2) L (l.set i e)))])
    |none=>none)else none)else none)else none
   |_=>none)
  |none=>none)else none)else none
 |_,_,_=>none
def vU(x y:A):Bool:=match x,y.xx with
 |.ptr _,some xs=>(oX xs).isNone
 |_,_=>false
section
variable {P:Program} {w w':World} {w0:Wd} {B N:Nat} {aj ax:bw} {ρ ρ':Nat->Loc} {σ:S} {a:Act} {X:Type} {d:Nat} {r:X} {o:Oper}
def abI{place:Nat -> ah (Nat×Nat)}:∀ (parts:aa (Nat×A)) (cells out:aa Lf),xJ place cells parts=some out -> out.length=cells.length
 |[],cells,out,h=>by injection h with h;rw[h]
 | (i,x) :: rest,cells,out,h=>by
  unfold xJ at h;split at h
  ·rename_i off n xs D E;split at h
   ·rename_i L;cases C:xs.all _ with
    | true=>
     rw[C]at h;rw[abI rest _ _ h,rm _ _ _ (by omega)]
    |false=>simp_all
   ·cases h
  ·cases h
def aoj{t:TypeId}{len:Nat}{parts:Array (Nat×Operand)}{k:S -> ah X}(h:vT P N σ d t len parts.toList k=some r):∃ cy,k cy=some r /\ ∀ aj ρ a w,Rl w0 N aj ρ σ a w ->
  ∃w' ax ρ' v,(Instr.buildSlice t len (parts.map λ(i,x)=>(i,a.eval x))).run P w = .ok v w'/\Rl w0 N ax ρ' cy (a.put (some d) v) w':=by
 unfold vT at h;split at h
 ·rename_i e D nt;obtain⟨fj,ht,i,hi,Y,iE⟩:=xF nt;split at h
  ·rename_i z hz;cases Z:(Nat.beq z.cells.size (aA D)&&Nat.blt (len*aA D) 16777217)with
   |false=>rw[Z]at h;cases h
   | true=>
    rw[Z,cond_true]at h;rw[Bool.and_eq_true]at Z;have kR:=Nat.eq_of_beq_eq_true Z.1;have hsm:len*aA D<16777217:=by have:=Nat.le_of_ble_eq_true Z.2;omega
    have nu:i.zero=some z:=by unfold zeroOf at hz;simpa [hi]using hz
    split at h
    ·rename_i cs fB;have key:∀ aj ρ (a:Act) w,Rl w0 N aj ρ σ a w -> ∃ C,(Instr.buildSlice t len (parts.map λ(i,x)=>(i,a.eval x))).run P w = .ok (.slice (some ⟨w.heap.size,0,none⟩) len len) (w.alloc (.cells C e))/\dM w w0.heap.size aj ρ cs C/\C.size=cs.length:=λaj ρ a w E=>by
      have TK:dM w w0.heap.size aj ρ (List.replicate len (z.cells.toList.map mm)).flatten (madeCells z.cells (len*aA D)):=by
       have e1:(List.replicate len (z.cells.toList.map mm)).flatten=((List.replicate len z.cells.toList).flatten).map mm:=by
        rw[List.map_flatten,List.map_replicate]
       rw[e1,<- aaQ z.cells (aA D) len kR (mY D)]
       refine⟨by simp,λj x L=>?_⟩
       rw[List.getElem?_map]at L;cases U:(madeCells z.cells (len*aA D)).toList[j]? with
       |none=>rw[U]at L;cases L
       | some v=>
        rw[U]at L;injection L with L;subst L;exact⟨v,by simpa using U,Mo v⟩
      obtain⟨C,vG,hl⟩:=Mv (w:=w) (B:=w0.heap.size) (aj:=aj) (ρ:=ρ) _ _ _ (parts.toList.map λp=>(p.1,a.eval p.2)) cs fB TK (by simp) (λj p q O hq=>by
       rw[List.getElem?_map]at O hq;cases L:parts.toList[j]? with
       |none=>rw[L]at O;cases O
       | some x=>
        rw[L]at O hq;injection O with O;injection hq with hq;subst O hq;exact⟨rfl,E.aH x.2⟩)
      have cV:(Instr.buildSlice t len (parts.map λ(i,x)=>(i,a.eval x))).run P w = .ok (.slice (some ⟨w.heap.size,0,none⟩) len len) (w.alloc (.cells C e)):=by
       have F4:(parts.map λ(i,x)=>(i,a.eval x)).toList=parts.toList.map λp=>(p.1,a.eval p.2):=by simp
       by_cases h0:len*aA D=0
       ·have hm:madeCells z.cells (len*aA D) = #[]:=by rw[h0];simp[madeCells]
        rw[hm]at vG;have TL:len*i.size=0:=by rw[Y];exact h0
        rw[<- Y]at vG;have e0:∀f:Nat -> Value,Array.map f (Array.range 0) = #[]:=λf=>by simp
        simp only[Instr.buildSlice,Sem.run_bind,run_underlying fj,sizeOf,typeInfo];simp[hi,TL];rw[e0,vG];simp[newRow]
       ·exact run_buildSlice (P:=P) w t e len _ C i z fj hi nu (by rw[Y];omega) (by rw[Y];exact h0) (by rw[Y,F4];exact vG)
      exact⟨C,cV,hl,hl.1⟩
     cases mj:Nat.beq len 0 with
     | true=>
      rw[mj,cond_true]at h;have hln:=Nat.eq_of_beq_eq_true mj;subst hln;obtain⟨hd,h⟩:=nq h
      refine⟨_,h,λaj ρ a w E=>?_⟩
      obtain⟨C,cV,hl,hcz⟩:=key aj ρ a w E;have vL:cs.length=0:=by
       have h1:=abI _ _ _ fB;rw[h1];simp
      refine⟨_,bO aj w.heap.size (some [d]),bO ρ d (.dw (.slice (some ⟨w.heap.size,0,none⟩) 0 0)),_,cV,(E.CY (E.cT d (.inl hd)) (λr T=>cw _ _ _ T) (.sl _ _ (bR _ _ _) ?_)).set ⟨rfl,by simp[cH,bR]⟩ hd⟩
      exact RV.own (w:=w.alloc (.cells C e)) (B:=w0.heap.size) (aj:=bO aj w.heap.size (some [d])) [d] D (full D) true [] w.heap.size 0 C (λ_ _=>undef)
       (bR _ _ _) (by rw[ht];exact heap_alloc_new w _) (by omega) (Nat.le_refl _) ⟨by unfold maxLen;omega,λ_=>rfl⟩ (λi' h'=>absurd h' (by simp)) (λi' h'=>absurd h' (by simp))
     |false=>
     rw[mj,cond_false]at h;obtain⟨hd,h⟩:=nq h
     refine⟨_,h,λaj ρ a w E=>?_⟩
     obtain⟨C,cV,hl,_⟩:=key aj ρ a w E
     refine⟨_,bO aj w.heap.size (some [d]),bO ρ d (.az w.heap.size 0),_,cV,(E.CY (E.cT d (.inl hd)) (λr T=>cw _ _ _ T) ?_).set ⟨w.heap.size,bR _ _ _,(Tc (by have:=Nat.le_mul_of_pos_right len (mY D);unfold oT;omega)).symm⟩ hd⟩
     have h1:dM (w.alloc (.cells C e)) w0.heap.size (bO aj w.heap.size (some [d])) ρ cs C:=
      hl.jL (by simp) (λb hb=>⟨Below.heap_alloc w _ b hb,cw _ _ _ (by omega)⟩) (λb k hb=>(E.cL b k hb).2.1)
     have h2:=h1.dX (ρ':=bO ρ d (.az w.heap.size 0)) (d:=d) (λr T=>cw _ _ _ T)
     refine .az w.heap.size 0 C e _ (λj=>C.getD j undef) (bR _ _ _) (bR _ _ _) (heap_alloc_new w _) (by rw[h2.1];omega) λj y hy=>?_
     obtain⟨v,U,T⟩:=h2.2 j y hy;have hg:C.getD j undef=v:=by rw[Array.getD_eq_getD_getElem?,U];rfl
     rw[hg,Nat.zero_add];exact⟨U,T⟩
    ·cases h
  ·cases h
 ·cases h
def aok{t:TypeId}{len:Nat}{parts:aa (Nat×Operand)}{k:S -> ah X}(h:vT P N σ d t len parts k=some r):∃ y u,k (((σ.drop d).root d y).set d u)=some r /\
  (∀(C:S),(∀p∈parts,aH C p.2=aH σ p.2) -> kr (λX k=>vT (X:=X) P N C d t len parts k) (((C.drop d).root d y).set d u)):=by
 unfold vT at h;split at h
 ·rename_i e tc Z;split at h
  ·rename_i z hz;cases D:(Nat.beq _ _&&Nat.blt _ 16777217)with
   |false=>rw[D]at h;cases h
   | true=>
    rw[D]at h;split at h
    ·rename_i cs fB;cases E:Nat.beq len 0 with
     | true=>
      rw[E,cond_true]at h;obtain⟨L,_⟩:=Dj h
      refine⟨_,_,L,λC O X k=>?_⟩
      obtain⟨T,_⟩:=nq h;have U:Nat.blt d N=true:=Nat.ble_eq_true_of_le T;have e:(parts.map λp=>(p.1,aH C p.2))=parts.map λp=>(p.1,aH σ p.2):=List.map_congr_left λp Y=>by rw[O p Y]
      simp only[vT,Z,hz,D,cond_true,e,fB,gj,U,E]
     | false=>
      rw[E,cond_false]at h;obtain⟨L,_⟩:=Dj h
      refine⟨_,_,L,λC O X k=>?_⟩
      obtain⟨T,_⟩:=nq h;have U:Nat.blt d N=true:=Nat.ble_eq_true_of_le T;have e:(parts.map λp=>(p.1,aH C p.2))=parts.map λp=>(p.1,aH σ p.2):=List.map_congr_left λp Y=>by rw[O p Y]
      simp only[vT,Z,hz,D,cond_true,e,fB,gj,U,E,cond_false]
    ·cases h
  ·cases h
 ·cases h
def abJ{t e ty:TypeId}{Y:TC}{i:TypeInfo}{z:Value}{rr ry n:Nat}{k:S -> ah X}(fj:P.underlying t=some (.slice e))(ht:tid Y=e)(hi:P.info? e=some i)(hz:i.zero=some z)
  (fN:i.size=aA Y) (iE:i.bytes <= 65536) (kR:z.cells.size=aA Y) (h:AG N σ d rr ry Y n k=some r):∃cy,k cy=some r /\ ∀aj ρ a w,Rl w0 N aj ρ σ a w -> w0.F rr=none -> ∀u v b,ρ rr = .dw u -> ρ ry = .az b 0 -> v = .slice (some ⟨b,0,none⟩) n n ->
  ∃w' ax ρ' z,(Builtin.append_ #[t,t] ty #[u,v]).run P w = .ok z w'/\Rl w0 N ax ρ' cy (a.put (some d) z) w':=by
 unfold AG at h;split at h
 ·rename_i cs E o q l UL hr;split at h
  ·rename_i lD;subst lD;split at h
   ·rename_i vs τ UM;split at h
    ·rename_i l2 ji;cases U:(Nat.blt d N&&bD (l.length+l2.length))with
     |false=>rw[U]at h;cases h
     | true=>
      rw[U,cond_true]at h;rw[Bool.and_eq_true]at U;have FZ:l.length+l2.length<1073741824:=by simpa [bD]using U.2
      have hd:d<N:=by have:=Nat.le_of_ble_eq_true U.1;omega
      refine⟨_,h,λaj ρ a w hR hF u v b aol aom O=>?_⟩
      subst O;have Z:=hR.root ry _ UL;generalize C:aU.az cs=x at Z;cases Z with
      |sl=>cases C
      |mp=>cases C
      |gh=>cases C
      | az b' off cells e' dK us bW oc hh hs hc=>
       injection C with C;subst C;rw[aom]at bW;injection bW with e1 e2;subst e1 e2;have jh:dM w w0.heap.size aj ρ cs ((List.range cs.length).map us).toArray:=by
        refine⟨by simp,λj x L=>?_⟩
        have D:j<cs.length:=(List.getElem?_eq_some_iff.1 L).1;exact⟨us j,by simp[D],(hc j x L).2⟩
       obtain⟨ax,cW,Af,MW,_,lz,gq,_,_⟩:=Mk (w0:=w0) (N:=N) (λj=>by simp[cB]) _ _ _ _ _ _ UM aj ρ a w hR _ jh;obtain⟨C5,aon,gz⟩:=TJ E o n vs l2 ji;have tP:cs.length=n*aA E:=by rw[<- Af,aon]
       have jP:∀ j,j<cs.length -> (us j).oneCell'=true:=by
        intro j D;have L:=List.getElem?_eq_getElem (by rw[Af];exact D);obtain⟨u',tM,T⟩:=MW j _ L;have:u'=us j:=by simpa [D]using tM.symm
        rw[<- this];exact T.one
       have UN:b<w.heap.size:=(Array.getElem?_eq_some_iff.1 hh).1;have o7:Reads w w.heap.size (aA E) (some ⟨b,0,none⟩) n ((List.range cs.length).map us):=by
        refine⟨by simp[tP],λhn=>⟨b,0,rfl,UN,λj v O=>?_⟩⟩
        have D:j<cs.length:=by have:=(List.getElem?_eq_some_iff.1 O).1;simpa using this
        have:v=us j:=by simpa [D]using O.symm
        subst this;rw[cell_of_row w b _ cells _ _ hh];simp_all
       have fQ:rD w w0.heap.size ax rr l.length E o l2 ((List.range cs.length).map us):=by
        intro i' qE j x L;have D:j<aA E:=by have:=(List.getElem?_eq_some_iff.1 L).1;rwa [jg]at this
        obtain⟨y,Z,hw⟩:=gz i' qE j x L;obtain⟨u',tM,T⟩:=MW _ _ Z;refine⟨u',tM,?_⟩;have e1:(0+(i'*aA E+j)) % aA E=j:=by rw[Nat.zero_add,Nat.add_comm,Nat.add_mul_mod_self_right,Nat.mod_eq_of_lt D]
        have e2:(0+(i'*aA E+j)) / aA E=i':=by rw[Nat.zero_add,Nat.add_comm,Nat.add_mul_div_right _ _ (mY E),Nat.div_eq_of_lt D,Nat.zero_add]
        simp only[e1,e2]at T;exact T.wk hw
       have GD:=cW.root rr _ (lz _ hr);generalize C:aU.sl (.sl E (o+2) q l)=x at GD;cases GD with
       |az=>cases C
       |mp=>cases C
       |gh=>cases C
       | sl uu y fR T=>
        injection C with C;subst C;rw[aol]at fR;injection fR with fR;subst fR;obtain⟨v',w',cZ,cV,nG,fh⟩:=cW.amY (ty:=ty) (c:=n) hF fj ht hi hz fN iE kR T o7 (λv O=>by
         obtain⟨j,D⟩:=List.mem_iff_getElem?.1 O;have F2:j<cs.length:=by have:=(List.getElem?_eq_some_iff.1 D).1;simpa using this
         have:v=us j:=by simpa [F2]using D.symm
         rw[this];exact jP j F2) C5.symm fQ FZ
        exact⟨w',cZ,_,v',cV,nG.set ⟨fh,by simp[cH,bR]⟩ hd⟩
    ·cases h
   ·cases h
  ·cases h
 ·cases h
def aoo{rr C n:Nat}{D:TC}:cv λX k=>AG (X:=X) N σ d rr C D n k:=λX Y k g=>by
 unfold AG
 repeat' first|rfl|refine cN ?_ ?_|split
def aop{t ty:TypeId}{x y:A}{k:S -> ah X}(h:GC P N σ d t x y k=some r):∃ C,k C=some r /\ ∀ aj ρ a w,Rl w0 N aj ρ σ a w -> ∀ u v,RA w w0.heap.size aj ρ x u -> RA w w0.heap.size aj ρ y v ->
  ∃w' ax ρ' z,(Builtin.append_ #[t,t] ty #[u,v]).run P w = .ok z w'/\Rl w0 N ax ρ' C (a.put (some d) z) w':=by
 unfold GC at h;split at h
 ·rename_i e T ry n nt;obtain⟨fj,ht,i,hi,fN,iE⟩:=xF nt;cases L:((zeroOf P e).any (λz=>Nat.beq z.cells.size (aA T))&&(Nat.blt d N&&Nat.blt n oT))with
  |false=>simp_all
  | true=>
   rw[L,cond_true]at h;rw[Bool.and_eq_true]at L;obtain⟨z,hz,O⟩:=(Option.any_eq_true _ _).1 L.1;have O:=Nat.eq_of_beq_eq_true O;have nu:i.zero=some z:=by unfold zeroOf at hz;simpa [hi]using hz
   have U:=L.2;rw[Bool.and_eq_true]at U;have hd:d<N:=by have:=Nat.le_of_ble_eq_true U.1;omega
   have nJ:n<oT:=by have:=Nat.le_of_ble_eq_true U.2;omega
   split at h
   ·obtain⟨C,Y,Z⟩:=abJ (w0:=w0) (ty:=ty) fj ht hi nu fN iE O h
    refine⟨C,Y,λaj ρ a w D u v E hv=>?_⟩
    have E:u = .slice none 0 0:=by cases E.2;rfl
    subst E;obtain⟨b,hb,rfl⟩:=hv;have UL:ry≠d:=by
     rintro rfl;unfold AG at h;split at h
     ·simp_all
     ·cases h
    have hR0:=D.new (d:=d) (x:=.sl (.sl T (full T+2) false [])) (.dw (.slice none 0 0)) (.sl _ _ (bR _ _ _) (.dH _ _ _)) (D.cT d (.inl hd));exact Z _ _ a w hR0 (D.cT d (.inl hd)) _ _ b (bR _ _ _) ((cw _ _ _ UL).trans hb) (Tc nJ)
   ·rename_i rr;cases hL:(Nat.blt rr N || Nat.ble 60000 rr)with
    |false=>simp_all
    | true=>
     rw[hL,cond_true]at h;rw[Bool.or_eq_true]at hL;have lz:rr<N \/ 60000 <= rr:=hL.imp (λh=>by have:=Nat.le_of_ble_eq_true h;omega) (λh=>Nat.le_of_ble_eq_true h);obtain⟨C,Y,Z⟩:=abJ (w0:=w0) (ty:=ty) fj ht hi nu fN iE O h
     refine⟨C,Y,λaj ρ a w D u v E hv=>?_⟩
     obtain⟨b,hb,rfl⟩:=hv;have bW:ρ rr = .dw u:=by
      have h4:=E.2;simp only[cH]at h4;cases hl:ρ rr with
      |az b o=>simp_all
      |bN us=>simp_all
      |dw v=>simp_all
     exact Z aj ρ a w D (D.cT rr lz) _ _ b bW hb (Tc nJ)
   ·cases h
 ·cases h
def aoq{t:TypeId}{x y:A}:cv λX k=>GC (X:=X) P N σ d t x y k:=λX Y k g=>by
 unfold GC
 repeat' first|rfl|exact aoo _ _ _ _|refine cN ?_ ?_|split
def aor{t:TypeId}{x y:A}{k:S -> ah X}(h:rQ P σ t x y k=some r):∃ cy,k cy=some r /\ ∀ aj ρ a w,Rl w0 N aj ρ σ a w -> ∀ u v,RA w w0.heap.size aj ρ x u -> RA w w0.heap.size aj ρ y v ->
  ∃w' ax,(Instr.storeAt t u v).run P w = .ok () w'/\Rl w0 N ax ρ cy a w':=by
 unfold rQ at h;split at h
 ·rename_i n xs j i s rr hn lC;split at h
  ·rename_i hlen;cases UO:xs.all Lf.live with
   |false=>rw[UO]at h;cases h
   | true=>
    rw[UO,cond_true]at h;split at h
    ·rename_i vs τ UM;split at h
     ·rename_i C o' qn l gv;split at h
      ·rename_i nh;split at h
       ·rename_i hi;split at h
        ·rename_i hj;split at h
         ·rename_i e he
          refine⟨_,h,λaj ρ a w hR u v hu hv=>?_⟩
          obtain⟨ad,rfl,L⟩:=hu;obtain⟨hl,jP⟩:=FQ lC UO hv;have jh:dM w w0.heap.size aj ρ xs v.cells.toList.toArray:=by simpa using hl
          obtain⟨ax,cW,Af,MW,_,lz,gq,aF4,_⟩:=Mk (w0:=w0) (N:=N) (λm=>by simp[cB]) _ _ _ _ _ _ UM aj ρ a w hR _ jh;simp only[addrAt]at L;split at L
          ·rename_i b n0 c0 bW;split at L
           ·rename_i oc;injection L with L;subst L;have GD:=cW.root rr _ gv;generalize D:aU.sl (.sl C (o'+2) qn l)=x at GD;cases GD with
            |az=>cases D
            |mp=>cases D
            |gh=>cases D
            | sl uu y fR ez=>
             injection D with D;subst D;rw[bW]at fR;injection fR with fR;subst fR;cases ez with
             |aC _ _ _ _ _ _ _ _ _ ho=>omega
             |eF=>simp at hi
             |eP=>simp at hi
             | own _ _ _ _ _ _ cap cs us MX hh hs n8 hm hc hr=>
              subst nh;have UP:v.cells.size=n:=by rw[hl.1,hlen]
              have vp:i*aA C+aA C <= c0*aA C:=by
               have:(i+1)*aA C <= c0*aA C:=Nat.mul_le_mul_right _ (by omega);rw[Nat.succ_mul]at this;exact this
              have jM:i*aA C+j+v.cells.toList.length <= cs.size:=by rw[Array.length_toList,UP,hs];omega
              have T:=Me w b (i*aA C+j) v.cells.toList;obtain⟨Z,fQ,n7⟩:=Fz b (tid C) v.cells.toList (i*aA C+j) w cs hh jM;have rz:∀ m,Z[m]?=if m<i*aA C+j then cs[m]? else if m<i*aA C+j+n then v.cells[m-(i*aA C+j)]? else cs[m]?:=by
               intro m;have e2:Z[m]?=(splice cs.toList (i*aA C+j) v.cells.toList)[m]?:=by
                rw[show Z[m]?=Z.toList[m]? by simp,n7];rfl
               rw[e2,vo _ _ _ (by simpa using jM),Array.length_toList,UP];simp
              have FJ:Z.size=cs.size:=by
               rw[<- Array.length_toList,n7];have:=rm cs.toList (i*aA C+j) v.cells.toList (by simpa using jM);simp only[splice]at this;simp_all
              have UN:b<w.heap.size:=(Array.getElem?_eq_some_iff.1 hh).1;have hz:w.heap.size <= (w.setCells b (i*aA C+j) v.cells.toList).heap.size:=Nat.le_of_eq T.size.symm;have UQ:∀E,E<w.heap.size -> ax E≠some [rr] -> (w.setCells b (i*aA C+j) v.cells.toList).heap[E]?=w.heap[E]?:=λE _ cJ=>T.block E (by rintro rfl;exact cJ MX)
              have FR:w.there b (i*aA C+j) v.cells.size:=by
               intro m tL;refine⟨?_,frozen_of_row w b _ cs _ hh⟩;rw[cell_of_row w b _ cs _ _ hh];simp;omega
              have iN:vs.length=n:=by rw[Af,hlen]
              refine⟨_,ax,To w b _ t v FR (by rw[UP];exact hn) jP,cW.rN (ns:=[rr]) (cn:=[]) (dY:=ρ) (cZ:=ax) ⟨hz,λE vD U=>⟨T.block E ?_,rfl⟩,λ_ _=>rfl,λE k U=>(cW.cL E k U).2⟩
               ⟨T.os,T.tape,T.output,hz,λk U hL=>T.block k ?_⟩ (λE k U=>?_) (λr hr=>by cases hr) (λr0 x D=>?_)⟩
              ·rintro rfl;have:=U _ MX;simp[fC,cX]at this
              ·rintro rfl;rcases(cW.cL k _ MX).1 with h1 | h1
               ·exact absurd U (Nat.not_lt.2 h1)
               ·exact h1 hL
              ·have:=cW.cL E k U;exact⟨this.1,Nat.lt_of_lt_of_le this.2.1 hz,this.2.2⟩
              ·have gA:r0=rr/\x = .sl (.sl C (o'+2) qn (l.set i e)):=by
                simp only[List.lookup]at D;split at D
                next vD=>injection D with D;exact⟨by simpa using vD,D.symm⟩
                ·cases D
               obtain⟨rfl,rfl⟩:=gA;refine .sl _ _ bW ?_
               refine RV.Mf (u:=us) (us:=λ_ m=>v.cells.getD (m-j) undef) (cs:=cs) (xs:=vs) MX fQ (FJ.trans hs) n8 hm hi (by rw[iN];exact hj) he (λO h' j' x Y Mg=>?_) (λm x Y=>?_)
               ·have mg:j'<aA C:=by have:=(List.getElem?_eq_some_iff.1 Y).1;rwa [jg]at this
                refine⟨?_,(hr O h' j' x Y).under (n:=r0) (.inl (by simp)) hz UQ (λ_ _=>rfl)⟩
                rw[rz];have FK:¬ (¬ O*aA C+j'<i*aA C+j/\O*aA C+j'<i*aA C+j+n):=by
                 rintro⟨h1,h2⟩;rcases Nat.lt_trichotomy O i with cU|heq|CQ
                 ·have:(O+1)*aA C <= i*aA C:=Nat.mul_le_mul_right _ cU;rw[Nat.succ_mul]at this;omega
                 ·subst heq;exact Mg ⟨rfl,by omega,by omega⟩
                 ·have:(i+1)*aA C <= O*aA C:=Nat.mul_le_mul_right _ CQ;rw[Nat.succ_mul]at this;omega
                split
                ·exact hc O h' j' x Y
                ·rw[if_neg (by omega)];exact hc O h' j' x Y
               ·obtain⟨v0,Ak,CR⟩:=MW m x Y;have tL:m<n:=by rw[<- iN];exact(List.getElem?_eq_some_iff.1 Y).1
                have Ms:v.cells[m]?=some v0:=by simpa using Ak
                have xu:v.cells.getD (j+m-j) undef=v0:=by rw[show j+m-j=m by omega,Array.getD_eq_getD_getElem?,Ms];rfl
                show Z[_]?=some (v.cells.getD (j+m-j) undef)/\RV _ _ _ _ _ (v.cells.getD (j+m-j) undef);rw[xu,rz,if_neg (by omega),if_pos (by omega)];rw[Nat.zero_add]at CR
                refine⟨?_,CR.under (n:=r0) (.inl (by simp)) hz UQ (λ_ _=>rfl)⟩
                rw[show i*aA C+(j+m)-(i*aA C+j)=m by omega];exact Ms
           ·cases L
          ·cases L
         ·cases h
        ·cases h
       ·cases h
      ·cases h
     ·cases h
    ·cases h
  ·cases h
 ·cases h
def aos{t:TypeId}{x y:A}:cv λX k=>rQ (X:=X) P σ t x y k:=λX Y k g=>by
 unfold rQ
 repeat' first|rfl|refine cN ?_ ?_|split
end
def aot(P:Program)(f:Nat)(F:aa Int->ah Int):Prop:=
 ∀ (w:World) (l:aa (T .u8)) (h:Int) (v:Value),F l=some h->RV w w.heap.size (λ_=>none) [] (.sl .u8 0 false l) v->Hd w (λ_=>none)->Calls P f #[v] w λe w'=>
  ∃b off cells t,e = .returned (.pointer (some ⟨b,off,none⟩))/\Below w.heap.size w w'/\w.heap.size<=b/\w'.heap[b]?=some (.cells cells t (0,0))/\cells[off]?=some v/\cells[off+1]?=some (.int .i64 0)/\cells[off+2]?=some (.int .i64 h)
structure AH where
 a:Nat
 j:Nat
 t:TC
 run:List Pt->Option (Nat×Nat)
def rR(bN:Array Value)(a j:Nat):ah Value:=match bN[a]? with
 |some (.agg us)=>us[j]?
 |some u=>bif Nat.beq j 0 then some u else none
 |none=>none
def MY(P:Program)(f:Nat)(c:AH):Prop:=
 ∀ (args:aa Pt) (p:Nat×Nat),c.run args=some p->∀ (w:World) (bN:Array Value),nD w args bN->Hd w (λ_=>none)->Calls P f bN w λe w'=>
  ∃A n cap,rR bN c.a c.j=some (.slice A n cap)/\p.1<=p.2/\p.2<=n/\e = .returned (sliced A p.1 p.2 cap (aA c.t))/\Below w.heap.size w w'
def abK(σ:S)(args:aa Operand)(a j:Nat):ah Lf:=match args[a]? with
 | some x=>(match aH σ x with
  |.agg cs=>cs[j]?
  |.lf l=>bif Nat.beq j 0 then some l else none
  |_=>none)
 |none=>none
def GF{X:Type}(N:Nat)(σ:S)(d:Nat)(c:AH)(args:aa Operand)(k:S->ah X):ah X:=
 bif Nat.blt d N then qt σ args λps=>(match c.run ps with
  | some p=>(match abK σ args c.a c.j with
   |some (.v (.sl t g _ l))=>if t=c.t then (bif Nat.blt g 2&&Nat.ble p.1 p.2&&Nat.ble p.2 l.length then k (σ.set d (.lf (.v (.sl t g false ((l.take p.2).drop p.1)))))else none)else none
   |_=>none)
  |none=>none)else none
structure rS where
 run:(X:Type)->Nat->S->List A->(S->A->Option X)->Option X
def Dm{α β:Type}(f:(X:Type)->(α->β->ah X)->ah X):Prop:=∀(X Y:Type) (k:α->β->ah X) (g:X->ah Y),(f X k).bind g=f Y λa b=>(k a b).bind g
def Dm.lA{α β:Type}{f:(X:Type)->(α->β->ah X)->ah X}(n:Dm f){X:Type}{k:α->β->ah X}{r:X}(h:f X k=some r):∃ a b,k a b=some r/\∀ (X:Type) (k:α->β->ah X),f X k=k a b:=by
 obtain⟨⟨a,b⟩,C,D⟩:=cv.lA (f:=λX (k:α×β->ah X)=>f X λa b=>k (a,b)) (λX Y k g=>n X Y _ g) (k:=λp=>k p.1 p.2) h;exact⟨a,b,C,λX k=>D X λp=>k p.1 p.2⟩
def jk(P:Program)(f:Nat)(c:rS):Prop:=(∀ N σ xs,Dm λX k=>c.run X N σ xs k)/\
 ∀ [Inhabited Wd] (N:Nat) (σ:S) (xs:aa A) (C:S) (y:A),c.run (S×A) N σ xs (λσ y=>some (σ,y))=some (C,y)->
  ∀ (w0:Wd) (aj:bw) (ρ:Nat->Loc) (a:Act) (w:World) (bN:Array Value),Rl w0 N aj ρ σ a w->bN.size=xs.length->(∀ i,RA w w0.heap.size aj ρ ((xs[i]?).getD .undef) (bN.getD i undef))->
   Calls P f bN w λe w'=>∃v ax ρ',e = .returned v/\Rl w0 N ax ρ' C a w'/\RA w' w0.heap.size ax ρ' y v
inductive ov where
 |p (c:gI)
 |m (c:mA)
 |n (F:List Int->Option Int)
 |v (c:AH)
 |i (c:rS)
 |d (c:mA)
 |q (c:gI)
 |c (c:mA)
def UR(P:Program)(f:Nat):ov->Prop
 |.p c=>gu P f c
 |.m c=>rL P f c
 |.n F=>aot P f F
 |.v c=>MY P f c
 |.i c=>jk P f c
 |.d c=>rL P f c
 |.q c=>gu P f c
 |.c c=>rL P f c
section
variable {P:Program} {w w':World} {w0:Wd} {B N:Nat} {aj cZ ax:bw} {ρ dY ρ':Nat->Loc} {σ:S} {a:Act} {X:Type} {d:Nat} {r:X} {ns cn:aa Nat} {o:Oper}
def abL:∀ (xs:aa Lf),cv λX k=>vO (X:=X) σ ns xs k
 |[]=>λ_ _ _ _=>rfl
 |x::xs=>λX Y k g=>cN ((Dh.comp λy=>(abL xs).comp (b:=λX k ys=>k (y.fA::ys)) λ_ _ _ _ _=>rfl) X Y k g) rfl
def aou{x:A}:cv λX k=>tV (X:=X) σ ns x k:=λX Y k g=>by
 unfold tV
 repeat' first|rfl|exact abL _ _ _ _ _|refine cN ?_ ?_|split
def US:∀ (ps:aa PK) (xs:aa Operand) (C:aa Mu),cv λX k=>mC (X:=X) σ ns ps xs C k:=λps=>by
 induction ps with
 |nil=>intro xs C X Y k g;cases xs<;>cases C<;>rfl
 | cons p ps D=>
  intro xs C X Y k g;cases xs with
  |nil=>cases p<;>cases C<;>rfl
  | cons x xs=>
   cases p with
   | v b t=>
    refine(aou _ _ _ _).trans (congrArg _ (funext λp=>cN ?_ rfl))
    split
    ·exact D _ _ _ _ _ _
    ·rfl
   | p t E o=>
    cases C with
    |nil=>rfl
    | cons m C=>cases m with
     |sl=>rfl
     | az=>
      simp only[mC];split
      ·exact D _ _ _ _ _ _
      ·rfl
   | s t E=>
    cases C with
    |nil=>rfl
    | cons m C=>cases m with
     |az=>rfl
     | sl=>
      simp only[mC];split
      ·exact D _ _ _ _ _ _
      ·rfl
def aov{C:ah Tmp}{D:eY}:cv λX k=>tW (X:=X) N σ C D k:=λX Y k g=>by
 unfold tW
 repeat' first|rfl|exact MT _ _ _ _|refine cN ?_ ?_|split
def UT{C:ah Tmp}{c:mA}{args:aa Operand}:cv λX k=>qB (X:=X) N σ C c args k:=λX Y k g=>by
 unfold qB;split
 ·refine cN ((US _ _ _ _ _ _ _).trans (congrArg _ (funext λx=>?_))) rfl
  split
  ·exact cN (aov _ _ _ _) rfl
  ·rfl
 ·rfl
def aow{f:Nat}{args:Array Operand}{Z:Array TypeId}{c:AH}{k:S -> ah X}(ho:o.op = .call { callee:=.value (.func f),args,argTypes:=Z })(hd:o.dst=some d)(he:enters P f)(hc:MY P f c)(h:GF N σ d c args.toList k=some r):∃ cy,k cy=some r/\jN P w0 N o σ cy:=by
 unfold GF at h;cases hN:Nat.blt d N with
 |false=>grind
 | true=>
  rw[hN,cond_true]at h;have Aq:d<N:=by have:=Nat.le_of_ble_eq_true hN;omega
  obtain⟨ps,O,jQ⟩:=aa1 (w0:=w0) (N:=N) _ _ h;split at O
  ·rename_i p hp;split at O
   ·rename_i t g q l D;split at O
    ·rename_i lD;cases E:(Nat.blt g 2&&Nat.ble p.1 p.2&&Nat.ble p.2 l.length)with
     |false=>grind
     | true=>
      rw[E,cond_true]at O;rw[Bool.and_eq_true,Bool.and_eq_true]at E;have hg:g<2:=by have:=Nat.le_of_ble_eq_true E.1.1;omega
      have rT:=Nat.le_of_ble_eq_true E.1.2;have h2l:=Nat.le_of_ble_eq_true E.2
      refine⟨_,O,λa w K Q T hK=>?_⟩
      obtain⟨aj,ρ,T⟩:=T;unfold Oper.wp;rw[TZ w o a f args Z ho he,Oper.upon_enter];have As:(args.map a.eval)=(args.toList.map a.eval).toArray:=by apply Array.ext';rw[Array.toList_map]
      rw[As]
      refine(hc ps p hp w _ (jQ aj ρ a w T) (w0.on T.below (λ_ _ h=>by cases h))).mono λe w' rH=>?_
      obtain⟨A,n,cap,C,hle,hn,rfl,Y⟩:=rH;have iM:RV w w0.heap.size aj [] (.sl t g q l) (.slice A n cap):=by
       unfold abK at D;split at D
       ·rename_i x hx;have UU:((args.toList.map a.eval).toArray)[c.a]?=some (a.eval x):=by
         rw[List.getElem?_toArray,List.getElem?_map,hx];rfl
        unfold rR at C;rw[UU]at C;have L:=T.aH x;split at D
        next cs fB=>rw[fB]at L;obtain⟨us,jh,hrl⟩:=L;rw[jh]at C;obtain⟨u,U,hr⟩:=hrl.2 _ _ D;simp only at C;rw[C]at U;injection U with U;subst U;exact hr.2
        ·rename_i lf vI;rw[vI]at L;cases hj:Nat.beq c.j 0 with
         |false=>grind
         | true=>
          rw[hj]at D C;injection D with D;subst D;have L:dm w w0.heap.size aj ρ (.v (.sl t g q l)) (a.eval x):=L;have tZ:∀ us,a.eval x ≠ .agg us:=by
           intro us e;rw[e]at L;cases L.2
          generalize a.eval x=z at C L tZ;cases z<;>first|exact absurd rfl (tZ _)|(simp only[cond_true,Option.some.injEq]at C;cases C;exact L.2)|(simp only[cond_true,Option.some.injEq]at C;cases C)
        ·cases D
       ·cases D
      obtain⟨UW,xR,TR⟩:=iM.part (a:=p.1) (h:=p.2) hg rT h2l;subst lD;rw[hd];have cW:=T.grow Y (ax:=aj) (λ_ _=>rfl) (λb k E hk=>absurd (T.cL b k hk).2.1 (Nat.not_lt.2 E));refine hK _ _ ⟨aj,ρ,cW.set ⟨by simp[V.aC,hg],?_⟩ Aq⟩;exact UW.jL Y.size λb E=>⟨Y.block b E,rfl⟩
    ·cases O
   ·cases O
  ·cases O
def aox{c:AH}{args:aa Operand}:cv λX k=>GF (X:=X) N σ d c args k:=λX Y k g=>by
 unfold GF
 refine cN ((Dk _ _ _ _).trans (congrArg _ (funext λps=>?_))) rfl
 repeat' first|rfl|refine cN ?_ ?_|split
/-! Calls of functions that are run in the state of their caller. -/
def GG{X:Type}(N:Nat)(σ:S)(C:ah Tmp)(c:rS)(xs:aa A)(k:S->ah X):ah X:=c.run X N σ xs λD y=>gd N D C y k
def aoy(p:Nat×Nat):A:=.aG p.1 p.2
def GH(σ:S):aa Operand->ah (aa (Nat×Nat))
 |[]=>some []
 | x :: xs=>match aH σ x,GH σ xs with
  |.aG r j,some ps=>some ((r,j)::ps)
  |_,_=>none
def aoz(w:World)(o:Oper)(a:Act)(f:Nat)(cl:Operand)(C:Array Value)(args:Array Operand)(E:Array TypeId)(L:o.op = .call { callee:=.value cl,args,argTypes:=E })(O:a.eval cl = .func (.func f) #[] C)(T:enters P f):
  (execOp a.eval o).run P w = .ok (.enter f (args.map a.eval++C)) w:=by
 obtain⟨fn,U,Y,D⟩:=T;have Z:¬ fn.name = "runtime.NumGoroutine":=by simpa using Y
 have h3':¬ fn.body=none:=by intro e;rw[e]at D;cases D
 simp[execOp,L,resolve,O,Deferred.ofValue,invoke,callFunc,Sem.run,U,Z,h3']
def MZ:A->ah (Nat×aa A)
 |.fn f cap=>some (f,cap.map aoy)
 |.ld f cs=>some (f,[.gS cs])
 |_=>none
def aoA{x:A}{f:Nat}{ex:aa A}{u:Value}(h:MZ x=some (f,ex))(T:RA w B aj ρ x u):∃ D:Array Value,u = .func (.func f) #[] D/\D.size=ex.length /\ ∀ (j:Nat) y,ex[j]?=some y -> RA w B aj ρ y (D.getD j undef):=by
 unfold MZ at h;split at h
 ·rename_i f' cap;injection h with h;injection h with E L;subst E L;obtain⟨D,U,Y,Z⟩:=T
  refine⟨D,U,by simp[Y],λj y C=>?_⟩
  rw[List.getElem?_map]at C;cases O:cap[j]? with
  |none=>simp_all
  | some p=>
   rw[O]at C;injection C with C;subst C;obtain⟨b,off,E,L⟩:=Z _ p O;rw[Array.getD_eq_getD_getElem?,L];exact⟨b,off,E,rfl⟩
 ·injection h with h;injection h with E L;subst E L;obtain⟨pv,e,O⟩:=T
  refine⟨#[pv],e,rfl,λj y C=>?_⟩
  rcases j with _|j
  ·injection C with C;subst C;exact O
  ·cases C
 ·cases h
def abM{f:Nat}{cl:Operand}{ex:aa A}{args:Array Operand}{jB:Array TypeId}{c:rS}{k:S->ah X}(ho:o.op = .call { callee:=.value cl,args,argTypes:=jB })(tP:MZ (aH σ cl)=some (f,ex))(he:enters P f)(hc:jk P f c)
  (h:GG N σ o.dst c (args.toList.map (aH σ)++ex) k=some r):∃cy,k cy=some r/\jN P w0 N o σ cy:=by
 unfold GG at h
 haveI:Inhabited Wd:=⟨w0⟩
 obtain⟨ot,y,D,E⟩:=(hc.1 _ _ _).lA h;have Ge:=hc.2 _ _ _ _ _ (E _ _);have step:∀ a w K Q,R w0 N σ a w->(∀ v w' ax ρ',Rl w0 N ax ρ' ot a w'->RA w' w0.heap.size ax ρ' y v->K (a.put o.dst v) w')->o.wp P a w K Q:=by
  intro a w K Q C L;obtain⟨aj,ρ,C⟩:=C;obtain⟨T,hv,hs,iN⟩:=aoA tP (C.aH cl);unfold Oper.wp;rw[aoz w o a f cl T args jB ho hv he,Oper.upon_enter]
  refine(Ge w0 aj ρ a w _ C (by simp[hs]) λi=>?_).mono λe w' rH=>?_
  ·by_cases hi:i<args.size
   ·have e1:(args.toList.map (aH σ)++ex)[i]?=some (aH σ args[i]):=by
     rw[List.getElem?_append_left (by simpa using hi),List.getElem?_map,Array.getElem?_toList,Array.getElem?_eq_getElem hi];rfl
    have U:(args.map a.eval++T).getD i undef=a.eval args[i]:=by
     rw[Array.getD_eq_getD_getElem?,Array.getElem?_append_left (by simpa using hi)];simp[hi]
    rw[e1,U];exact C.aH _
   ·have e0:(args.toList.map (aH σ)++ex)[i]?=ex[i-args.size]?:=by
     rw[List.getElem?_append_right (by simp;omega)];simp
    rw[e0];cases hp:ex[i-args.size]? with
    |none=>trivial
    | some p=>
     have U:(args.map a.eval++T).getD i undef=T.getD (i-args.size) undef:=by
      rw[Array.getD_eq_getD_getElem?,Array.getElem?_append_right (by simp;omega),Array.getD_eq_getD_getElem?];simp
     rw[U];exact iN _ p hp
  ·obtain⟨v,ax,ρ',rfl,O,Y⟩:=rH;exact L v w' ax ρ' O Y
 unfold gd at D;split at D
 ·rename_i E
  refine⟨ot,D,λa w K Q C L=>step a w K Q C λv w' ax ρ' O _=>?_⟩
  rw[E];exact L _ _ ⟨ax,ρ',O⟩
 ·rename_i d E;cases Z:Nat.blt d N with
  |false=>rw[Z]at D;cases D
  | true=>
   rw[Z,cond_true]at D
   refine⟨_,D,λa w K Q C L=>step a w K Q C λv w' ax ρ' O Y=>?_⟩
   rw[E];exact L _ _ ⟨ax,ρ',O.set Y (by have:=Nat.le_of_ble_eq_true Z;omega)⟩
def abN:∀ (xs:aa Operand) (ps:aa (Nat×Nat)),GH σ xs=some ps -> ps.length=xs.length /\ ∀ aj ρ a w,Rl w0 N aj ρ σ a w -> ∀ (j:Nat) p,ps[j]?=some p -> ∃ b off,ρ p.1 = .az b off/\(xs.map a.eval)[j]?=some (.pointer (some ⟨b,off+p.2,none⟩))
 | [],ps,h=>by
  simp only[GH,Option.some.injEq]at h;simp_all
 | x :: xs,ps,h=>by
  unfold GH at h;split at h
  ·rename_i rr j L O T;injection h with h;subst h;obtain⟨U,Z⟩:=abN xs L T
   refine⟨by simp[U],λaj ρ a w Y C p D=>?_⟩
   cases C with
   | zero=>
    simp at D;subst D;have E:=Y.aH x;rw[O]at E;obtain⟨b,off,e1,e2⟩:=E;simp_all
   |succ C =>grind
  ·cases h
end
def A.yh(q s n:Nat):A->A
 |.lf (.own [C])=>bif Nat.beq C q then .view [q] s 0 n else .lf (.own [C])
 |x=>x
def S.yh(σ:S)(p:Nat×Nat×Nat):S:=⟨λk=>(σ.t k).yh p.1 p.2.1 p.2.2,σ.m⟩
def UX:aa (Nat×Nat×Nat)->S->S
 |[],σ=>σ
 |p::l,σ=>UX l (σ.yh p)
def UY(c0 g:Nat):Mu->aa (Nat×Nat×Nat)
 |.sl q (.sl t _ _ l)=>bif Nat.ble 1000000 g&&Nat.blt q c0 then [(q,aA t,l.length)]else []
 |_=>[]
def GI(c0:Nat):aa PK->aa Mu->aa (Nat×Nat×Nat)
 |.v _ _::ps,C=>GI c0 ps C
 |.p _ _ _::ps,_::C=>GI c0 ps C
 |.s _ g::ps,D::C=>UY c0 g D++GI c0 ps C
 |_,_=>[]
def GJ{X:Type}(N:Nat)(σ:S)(C:ah Tmp)(c:mA)(args:aa Operand)(k:S->ah X):ah X:=
 match lF σ c.ps args with
 |some D=>qB N σ C c args λE=>k (UX (GI (gJ C) c.ps D) E)
 |none=>none
section
variable {P:Program} {w w':World} {w0:Wd} {B N:Nat} {aj cZ ax:bw} {ρ dY ρ':Nat->Loc} {σ:S} {a:Act} {X:Type} {d:Nat} {r:X} {o:Oper}
def Rl.yh{p:Nat×Nat×Nat}{ad:ah Addr}{c:Nat}(h:Rl w0 N aj ρ σ a w)(E:ρ p.1 = .dw (.slice ad p.2.2 c)):Rl w0 N aj ρ (σ.yh p) a w:=by
 refine⟨h.below,h.cL,h.root,λk=>?_,h.size,h.defers,h.fix,h.cT⟩
 have C:=h.tmp k;show RA _ _ _ _ ((σ.t k).yh p.1 p.2.1 p.2.2) _;generalize σ.t k=x at C;unfold A.yh;split
 ·rename_i L;cases O:Nat.beq L p.1 with
  |false=>exact C
  | true=>
   obtain rfl:=Nat.eq_of_beq_eq_true O;have D:=C.2;simp only[cH,E]at D;injection D with D;refine⟨ad,p.2.2,c,by simp[cH,E],Nat.zero_le _,Nat.le_refl _,?_⟩;rw[<- D];cases ad<;>simp[sliced,Addr.add]
 ·exact C
def abO:∀ (l:aa (Nat×Nat×Nat)) (σ:S),Rl w0 N aj ρ σ a w->(∀ p∈l,∃ A c,ρ p.1 = .dw (.slice A p.2.2 c))->Rl w0 N aj ρ (UX l σ) a w
 |[],σ,h,_=>h
 | p :: l,σ,h,D=>by
  obtain⟨A,c,C⟩:=D p (.head _);exact abO l _ (h.yh C) λp C=>D p (.tail _ C)
def aoB{c0 g:Nat}{E:Mu}{p:Nat×Nat×Nat}(h:p∈UY c0 g E):∃ q t o C l,E = .sl q (.sl t o C l)/\p=(q,aA t,l.length)/\q<c0:=by
 unfold UY at h;split at h
 ·rename_i q t o C l;cases D:(Nat.ble 1000000 g&&Nat.blt q c0)with
  |false=>simp_all
  | true=>
   rw[D]at h;rw[Bool.and_eq_true]at D;exact⟨q,t,o,C,l,rfl,List.mem_singleton.1 h,Nat.le_of_ble_eq_true D.2⟩
 ·cases h
def M0{c0:Nat}{p:Nat×Nat×Nat}:∀ (ps:aa PK) (C:aa Mu),p∈GI c0 ps C -> ∃ q t o D l,Mu.sl q (.sl t o D l)∈C/\p=(q,aA t,l.length)/\q<c0
 |.v _ _::ps,C,h=>M0 ps C h
 |.p _ _ _::ps,O::C,h=>let ⟨q,t,o,D,l,L,E⟩:=M0 ps C h;⟨q,t,o,D,l,.tail _ L,E⟩
 | .s _ g :: ps,O :: C,h=>by
  rcases List.mem_append.1 h with h|h
  ·obtain⟨q,t,o,D,l,rfl,E⟩:=aoB h;exact⟨q,t,o,D,l,.head _,E⟩
  ·obtain⟨q,t,o,D,l,L,E⟩:=M0 ps C h;exact⟨q,t,o,D,l,.tail _ L,E⟩
def RV.aoC{q:aa Nat}{t:TC}{g:Nat}{C:Bool}{l:aa (T t)}{v:Value}(h:RV w B aj q (.sl t g C l) v):∃ A c,v = .slice A l.length c:=by
 cases h<;>exact⟨_,_,rfl⟩
def aoD{f:Nat}{args:Array Operand}{Y:Array TypeId}{c:mA}{k:S->ah X}(Z:o.op = .call { callee:=.value (.func f),args,argTypes:=Y })(he:enters P f)(hc:rL P f c)(h:GJ N σ o.dst c args.toList k=some r):∃ L,k L=some r/\jN P w0 N o σ L:=by
 unfold GJ at h;split at h
 ·rename_i Uz O;obtain⟨ot,qA,cn,h1,D,_,h4,h5⟩:=Uw (w0:=w0) Z he hc h;rw[O]at D;injection D with D;subst D
  refine⟨_,h1,λa w K Q E hK=>?_⟩
  obtain⟨aj,ρ,E⟩:=E
  refine h5 a w K Q aj ρ E λv w' cZ dY qD cW hv _ bW=>hK _ _ ⟨cZ,qD,abO _ _ cW λp hp=>?_⟩
  obtain⟨q,t,oo,qn,l,T,rfl,hq⟩:=M0 _ _ hp;have iy:=(MG _ _ _ O _ T).1;have U:=E.root q _ iy;generalize C:aU.sl _=z at U;cases U with
  |az=>cases C
  |mp=>cases C
  |gh=>cases C
  | sl u y TY hr=>
   injection C with C;subst C;obtain⟨A,c,rfl⟩:=hr.aoC;exact⟨A,c,(bW q hq).trans ((hv.dX q (h4 _ T)).trans TY)⟩
 ·cases h
def aoE{C:ah Tmp}{c:mA}{args:aa Operand}:cv λX k=>GJ (X:=X) N σ C c args k:=λX Y k g=>by
 unfold GJ;split
 ·exact UT _ _ _ _
 ·rfl
end
def bw.un(aj:bw)(q:Nat):bw:=λb=>match aj b with
 |some k=>bif cB q k then none else some k
 |none=>none
def GK{X:Type}(P:Program)(σ:S)(q s i j:Nat)(t:TypeId)(x:A)(k:S->ah X):ah X:=
 match σ.m q with
 |some (.sl (.sl C (o+2) D l))=>bif Nat.beq s (aA C)&&Nat.beq (full C) 0 then od P (σ.drop q) t (x.drop q) (.lf (.v (.sl C 0 false ((l.take j).drop i)))) k else none
 |_=>none
section
variable {P:Program} {w w':World} {w0:Wd} {B N:Nat} {aj ax:bw} {ρ ρ':Nat->Loc} {σ:S} {a:Act} {X:Type} {d q:Nat} {r:X} {o:Oper} {y:V}
def aoF(C:∀ b,aj b≠some []):Rel q aj (aj.un q):=
 ⟨C,λb h=>by simp[bw.un,h],λb k h D=>by simp[bw.un,h,D]⟩
def RV.ice{C:TC}{g:Nat}{Y:Bool}{l:aa (T C)}{A:ah Addr}{n c:Nat}(E:RV w B aj [q] (.sl C (g+2) Y l) (.slice A n c))(hf:full C=0):RV w B (aj.un q) [] (.sl C 0 false l) (.slice A n c)/\n=l.length:=by
 cases E with
 |dH=>exact⟨.dH _ _ _,rfl⟩
 |eF=>grind
 |eP=>grind
 |aC _ _ _ _ _ _ _ _ _ ho=>omega
 | own=>
  rename_i b cs u Z O hc E hs hn hm;have U:∀ (i:Nat) (h:i<l.length) (j:Nat) (x:V),(enc C 0 l[i])[j]?=some x -> (enc C g l[i])[j]?=some x/\x.plain=true:=by
   intro i h j x D;obtain⟨y,L,rfl⟩:=vk C g l[i] j x D;have hp:=L8 C g l[i] y (List.mem_of_getElem? L);cases y with
   | sl t' o' q' l'=>
    have:=Nat.le_of_ble_eq_true (show Nat.ble _ _=true from hp);omega
   | nil=>
    have:=Ta C g l[i] _ (List.mem_of_getElem? L);cases this
   |_=>exact⟨L,rfl⟩
  refine⟨.aC _ _ _ _ _ b 0 c u (by omega) (by simp[bw.un,Z,cB]) (Array.getElem?_eq_some_iff.1 O).1 (by omega) hn (λi h j x D=>?_) (λi h j x D=>?_),rfl⟩
  ·rw[Nat.zero_add,cell_of_row w b _ cs _ _ O];simp_all
  ·exact(E i h j x (U i h j x D).1).ru (U i h j x D).2
def aoG{s i j:Nat}{t:TypeId}{x:A}{k:S -> ah X}(h:GK P σ q s i j t x k=some r):∃ L,k L=some r /\ ∀ aj ρ a w,Rl w0 N aj ρ σ a w -> ∀ u v,RA w w0.heap.size aj ρ x u -> RA w w0.heap.size aj ρ (.view [q] s i j) v ->
  ∃w' ax,(Instr.storeAt t u v).run P w = .ok () w'/\Rl w0 N ax ρ L a w':=by
 unfold GK at h;split at h
 ·rename_i T g qn l hm;cases E:(Nat.beq s (aA T)&&Nat.beq (full T) 0)with
  |false=>rw[E]at h;cases h
  | true=>
   rw[E,cond_true]at h;rw[Bool.and_eq_true]at E;obtain rfl:=Nat.eq_of_beq_eq_true E.1;have hf:=Nat.eq_of_beq_eq_true E.2;obtain⟨L,h1,hs⟩:=aaz (w0:=w0) (N:=N) h
   refine⟨L,h1,λaj ρ a w O u v hu hv=>?_⟩
   have Y:Rel q aj (aj.un q):=aoF O.vw;have tX:=O.rel Y (λb k C=>by
    unfold bw.un at C;cases U:aj b with
    |none=>rw[U]at C;cases C
    | some Z=>
     rw[U]at C;simp only at C;cases hq:cB q Z with
     |true=>rw[hq]at C;cases C
     | false=>
      rw[hq]at C;injection C with C;subst C;exact⟨⟨_,rfl⟩,(O.cL b Z U).2.2⟩)
   obtain⟨A,n,c,gq,h3,h4,rfl⟩:=hv;have dN:=O.root q _ hm;generalize D:aU.sl (.sl T (g+2) qn l)=z at dN;cases dN with
   |az=>cases D
   |mp=>cases D
   |gh=>cases D
   | sl vq y bW hr=>
    injection D with D;subst D;have hvq:vq = .slice A n c:=by
     simp only[cH,bW]at gq;injection gq
    subst hvq;obtain⟨h5,h6⟩:=hr.ice hf;have h7:=(h5.part (by omega) h3 (by omega)).1;obtain⟨w',cV,nG⟩:=hs _ _ _ _ tX u _ (hu.rel Y) (show RA _ _ _ _ (.lf (.v _)) _ from ⟨rfl,h7⟩);exact⟨w',_,cV,nG⟩
 ·cases h
def aoH{q s i j:Nat}{t:TypeId}{x:A}:cv λX k=>GK (X:=X) P σ q s i j t x k:=λX Y k g=>by
 unfold GK
 repeat' first|rfl|exact abC _ _ _ _|refine cN ?_ ?_|split
def Dn{X:Type}(P:Program)(σ:S)(t:TypeId)(x lo hi C:A)(k:ah X):ah X:=
 match x,lo,hi,C with
 | .lf (.own q),.lf (.v (.int _ a)),.lf (.v (.int _ b)),.lf (.v (.int _ c))=>(match n9 P t with
  | some e=>(match hJ P e with
   | some _=>gU σ.m q λy=>(match y with
    |.sl _ _ _ l=>if 0<=a/\a<=b/\b<=c/\c<=(l.length:Int)then k else none
    |_=>none)
   |none=>none)
  |none=>none)
 |_,_,_,_=>none
def aoI{t:TypeId}{x lo hi Z:A}{k:ah X}(h:Dn P σ t x lo hi Z k=some r):k=some r /\
  ∀aj ρ a w,Rl w0 N aj ρ σ a w -> ∀u L O T,RA w w0.heap.size aj ρ x u -> RA w w0.heap.size aj ρ lo L -> RA w w0.heap.size aj ρ hi O -> RA w w0.heap.size aj ρ Z T -> ∃v,(Instr.sliceAt t u (some L) (some O) (some T)).run P w = .ok v w:=by
 unfold Dn at h;split at h
 ·rename_i q kl a kh b km c;split at h
  ·rename_i e U;split at h
   ·rename_i n hn;obtain⟨y0,TS,C⟩:=qm q _ h;split at C
    ·rename_i tc g qn xs;split at C
     ·rename_i Y
      refine⟨C,λaj ρ ac w hR u L O T hu hl hh hm=>?_⟩
      rw[hl.2.gf,hh.2.gf,hm.2.gf];have fj:P.underlying t=some (.slice e):=by
       unfold n9 at U;split at U
       ·grind
       ·cases U
      have gz:P.elem t=e:=by simp[Program.elem,fj]
      have abP:P.underlying t=some (.slice (P.elem t)):=by rw[gz];exact fj
      have hss:(sizeOf (P.elem t)).run P w = .ok n w:=by
       unfold hJ at hn;cases hi:P.info? e with
       |none=>grind
       | some i=>
        have:i.size=n:=by simpa [hi]using hn
        simp[sizeOf,typeInfo,gz,hi,this]
      obtain⟨v0,Ak,gA⟩:=TS.ok hR.root;have fh:∃ D n c,u = .slice D n c:=by
       have:=hu.1;cases u<;>first|cases this;done|exact⟨_,_,_,rfl⟩
      obtain⟨D,n',c',rfl⟩:=fh;have E:=hu.2;rw[Ak]at E;injection E with E;subst E;have hf:RV w 0 (λ_=>none) [] (.sl tc 0 qn xs) (.slice D n' c'):=gA.fA;obtain⟨_,xR,TR⟩:=RV.part (w:=w) hf (a:=0) (h:=xs.length) (by omega) (by omega) (by omega);refine⟨sliced D a.toNat b.toNat c.toNat n,?_⟩;rw[run_sliceAt_slice w t _ _ _ _ abP,run_slice_lhm w t D n' c' abP kl kh km a b c Y.1 Y.2.1 Y.2.2.1 (by omega),hss];rfl
     ·cases C
    ·cases C
   ·cases h
  ·cases h
 ·cases h
end
section
variable {P:Program} (w:World)
end
section
variable {P:Program} {w w':World} {w0:Wd} {B N:Nat} {aj ax:bw} {ρ ρ':Nat->Loc} {σ:S} {a:Act} {X:Type} {d:Nat} {r:X}
end
def kC(l:aa (Int×Bool))(k:Int):Bool:=match l with
 |[]=>false
 |p::ps=>bif k==p.1 then p.2 else kC ps k
def lG(l:aa (Int×Bool))(k:Int)(v:Bool):aa (Int×Bool):=match l with
 |[]=>[(k,v)]
 |p::ps=>bif k==p.1 then (k,v)::ps else p::lG ps k v
def Dp(P:Program)(t:TypeId):Bool:=match P.underlying t with
 | some (.map k e)=>(match P.underlying k with
  |some (.int .i64)=>true
  |_=>false)&&(match zeroOf P e with
  |some (.bool false)=>true
  |_=>false)
 |_=>false
def UZ{X:Type}(N:Nat)(σ:S)(d:Nat)(k:S->ah X):ah X:=gj N σ d (.mp []) (.pk d oT) k
def AI{X:Type}(P:Program)(σ:S)(t:TypeId)(x i:A)(k:A->ah X):ah X:=
 match x,i with
 | .pk r n,.lf (.v (.int .i64 key))=>bif Nat.beq n oT&&Dp P t then (match σ.m r with
  |some (.mp l)=>k (.lf (.v (.bool (kC l key))))
  |_=>none)else none
 |_,_=>none
def AJ{X:Type}(P:Program)(σ:S)(t:TypeId)(x i v:A)(k:S->ah X):ah X:=
 match x,i,v with
 | .pk r n,.lf (.v (.int .i64 key)),.lf (.v (.bool b))=>bif Nat.beq n oT&&Dp P t then (match σ.m r with
  |some (.mp l)=>k ⟨σ.t,bO σ.m r (some (.mp (lG l key b)))⟩
  |_=>none)else none
 |_,_,_=>none
section
variable {P:Program} {w w':World} {w0:Wd} {B N:Nat} {aj ax:bw} {ρ ρ':Nat->Loc} {σ:S} {a:Act} {X:Type} {d:Nat} {r:X} {o:Oper}
def abQ{t:TypeId}(h:Dp P t=true):∃ k e i,P.underlying t=some (.map k e)/\P.underlying k=some (.int .i64)/\P.info? e=some i/\i.zero=some (.bool false):=by
 unfold Dp at h;split at h
 ·rename_i k e D;rw[Bool.and_eq_true]at h;obtain⟨E,L⟩:=h;have O:P.underlying k=some (.int .i64):=by
   grind
  have C:zeroOf P e=some (.bool false):=by
   grind
  unfold zeroOf at C;cases hi:P.info? e with
  |none=>simp_all
  |some i =>grind
 ·cases h
def Rl.newObj{E:Obj}{x:aU}{ρ':Nat -> Loc}(h:Rl w0 N aj ρ σ a w)(L:w0.F d=none)(O:∀ r,r≠d -> ρ' r=ρ r)
  (T:dx (w.alloc E) w0.heap.size (bO aj w.heap.size (some [d])) ρ' d x):Rl w0 N (bO aj w.heap.size (some [d])) ρ' ((σ.drop d).root d x) a (w.alloc E):=by
 refine h.xD L (gT.aaG w0 w _ h.below.size) ⟨by simp,λb D _=>Below.heap_alloc w _ b D,λb D=>cw _ _ _ (by omega),λb D=>(h.cL b [] D).2.2 rfl⟩ (λb k D C=>?_) O T
 by_cases e:b=w.heap.size
 ·subst e;rw[bR]at C;injection C with C;subst C;simp_all
 ·rw[cw _ _ _ e]at C;have:=(h.cL b k C).2.1;omega
def aoJ{t:TypeId}{k:S -> ah X}(h:UZ N σ d k=some r):∃ C,k C=some r /\ ∀ aj ρ a w,Rl w0 N aj ρ σ a w -> ∃ w' ax ρ' v,(Instr.makeMap t none).run P w = .ok v w'/\Rl w0 N ax ρ' C (a.put (some d) v) w':=by
 obtain⟨D,h⟩:=nq h
 refine⟨_,h,λaj ρ a w E=>?_⟩
 have L:(Instr.makeMap t none).run P w = .ok _ _:=rfl
 refine⟨_,bO aj _ _,bO ρ d _,_,L,(E.newObj (E.cT d (.inl D)) (λr O=>cw _ _ _ O) ?_).set ⟨w.heap.size,bR _ _ _,(Td _).symm⟩ D⟩
 exact .mp _ 0 #[] [] (bR _ _ _) (bR _ _ _) (heap_alloc_new w _) rfl
def aoK:cv λX k=>UZ (X:=X) N σ d k:=MS
def aoL{t:TypeId}{x i:A}:cv λX k=>AI (X:=X) P σ t x i k:=λX Y k g=>by
 unfold AI
 repeat' first|rfl|refine cN ?_ ?_|split
def aoM{t:TypeId}{x i v:A}:cv λX k=>AJ (X:=X) P σ t x i v k:=λX Y k g=>by
 unfold AJ
 repeat' first|rfl|refine cN ?_ ?_|split
def AK(l:aa (Int×Bool)):aa (Value×Value):=l.map λp=>(.int .i64 p.1,.bool p.2)
def U0:∀ (D:aa MapEntry) (l:aa (Int×Bool)) (k:Int) (n:Nat),D.map (λe=>(e.key,e.val))=AK l ->
  (Instr.findNow (.int .i64) (.int .i64 k) D n=some none/\kC l k=false /\ ∀v,lG l k v=l++[(k,v)]) \/
  (∃i b,Instr.findNow (.int .i64) (.int .i64 k) D n=some (some (n+i,.bool b))/\kC l k=b /\ ∃h:i<D.length,D[i].key = .int .i64 k /\ ∀v,AK (lG l k v)=(D.modify i λe=>{ e with key:=.int .i64 k,val:=.bool v }).map (λe=>(e.key,e.val)))
 |[],[],k,n,_=>.inl ⟨rfl,rfl,λv=>rfl⟩
 |[],_::_,k,n,h=>by cases h
 |_::_,[],k,n,h=>by cases h
 | e :: D,p :: l,k,n,h=>by
  have h:(e.key,e.val) :: D.map (λe=>(e.key,e.val))=(.int .i64 p.1,.bool p.2) :: AK l:=h;injection h with Z T;injection Z with U hv;have E:Instr.sameNow (.int .i64) (.int .i64 k) e.key=some (k==p.1):=by
   rw[U];simp[Instr.sameNow]
  cases C:(k==p.1)with
  | true=>
   have hkp:k=p.1:=by simpa using C
   refine .inr ⟨0,p.2,?_,by simp only[kC,C,cond_true],by simp,by simp[U,hkp],λv=>?_⟩
   ·simp only[Instr.findNow,E,C,hv];rfl
   ·simp only[lG,C];simp;show _::AK l=_;rw[T]
  | false=>
   rcases U0 D l k (n+1) T with ⟨Y,L,O⟩|⟨i,b,Y,L,hi,O,a4⟩
   ·refine .inl ⟨?_,by simp[kC,C,cond_false,L],λv=>by simp only[lG,C,O];rfl⟩
    simp[Instr.findNow,E,C];exact Y
   ·refine .inr ⟨i+1,b,?_,by simp only[kC,C,cond_false,L],by simpa using hi,by simpa using O,λv=>?_⟩
    ·simp[Instr.findNow,E,C]
     grind
    ·simp only[lG,C];simp;show _ :: AK _=_
     grind
def M1{kt:TypeId}{k:Int}{C:aa MapEntry}{z:ah (Nat×Value)}(D:P.underlying kt=some (.int .i64))(h:Instr.findNow (.int .i64) (.int .i64 k) C 0=some z):(Instr.findKey kt (.int .i64 k) C).run P w = .ok z w:=by
 unfold Instr.findKey;simp only[Sem.run_bind,run_underlying D,Result.andThen_ok,h];rfl
def aoN{t:TypeId}{x i:A}{k:A -> ah X}(h:AI P σ t x i k=some r):∃ v,k v=some r/\kr (λX k=>AI (X:=X) P σ t x i k) v /\ ∀ aj ρ a w,Rl w0 N aj ρ σ a w -> ∀ u z,RA w w0.heap.size aj ρ x u -> RA w w0.heap.size aj ρ i z ->
  ∃y,(Instr.lookup t u z false).run P w = .ok y w/\RA w w0.heap.size aj ρ v y:=by
 unfold AI at h;split at h
 ·rename_i rr n key;cases D:(Nat.beq n oT&&Dp P t)with
  |false=>grind
  | true=>
   rw[D,cond_true]at h;split at h
   ·rename_i l T
    refine⟨_,h,λX k=>by simp only[AI,D,cond_true,T],λaj ρ a w hR u z hu E=>?_⟩
    rw[Bool.and_eq_true]at D;obtain⟨kt,et,ti,ht,L,hi,hz0⟩:=abQ D.2;have hn:=Nat.eq_of_beq_eq_true D.1;subst hn;obtain⟨b,bW,rfl⟩:=hu;have E:z = .int .i64 key:=by
     have h2:=E.2;cases h2;rfl
    subst E;have U:=hR.root rr _ T;generalize C:aU.mp l=y at U;cases U with
    |az=>cases C
    |sl=>cases C
    |gh=>cases C
    | mp b' c es l' Y hl hh M3=>
     injection C with C;subst C;rw[bW]at Y;injection Y with e1 _;subst e1;refine⟨.bool (kC l key),?_,rfl,.bool _ _⟩;rw[Td];unfold Instr.lookup;simp only[Sem.run_bind,run_underlying ht,Result.andThen_ok,MapKept.run_getObj_map hh,Sem.run_pure];rw[MapKept.run_checkKey (k:=.int .i64 key) L rfl];simp only[Result.andThen_ok];rcases U0 es.toList l key 0 M3 with ⟨O,Z,_⟩|⟨i,v,O,Z,_⟩
     ·rw[M1 L O];have CZ:(zeroValue et).run P w = .ok (.bool false) w:=by simp[zeroValue,typeInfo,hi,hz0]
      simp_all
     ·rw[M1 L O];simp only[ Z,Sem.run_bind];rfl
   ·cases h
 ·cases h
def aoO{t:TypeId}{x i v:A}{k:S -> ah X}(h:AJ P σ t x i v k=some r):∃ U,k U=some r/\kr (λX k=>AJ (X:=X) P σ t x i v k) U /\ ∀ aj ρ a w,Rl w0 N aj ρ σ a w -> ∀ u z y,RA w w0.heap.size aj ρ x u -> RA w w0.heap.size aj ρ i z -> RA w w0.heap.size aj ρ v y ->
  ∃w',(Instr.mapUpdate t u z y).run P w = .ok () w'/\Rl w0 N aj ρ U a w':=by
 unfold AJ at h;split at h
 ·rename_i rr n key Y;cases L:(Nat.beq n oT&&Dp P t)with
  |false=>grind
  | true=>
   rw[L,cond_true]at h;split at h
   ·rename_i l hm
    refine⟨_,h,λX k=>by simp only[AJ,L,cond_true,hm],λaj ρ a w Z u z y hu hz C=>?_⟩
    rw[Bool.and_eq_true]at L;obtain⟨kt,et,ti,ht,U1,hi,hz0⟩:=abQ L.2;have hn:=Nat.eq_of_beq_eq_true L.1;subst hn;obtain⟨b,bW,rfl⟩:=hu;have hz:z = .int .i64 key:=by
     have h2:=hz.2;cases h2;rfl
    subst hz;have C:y = .bool Y:=by
     have h2:=C.2;cases h2;rfl
    subst C;have dN:=Z.root rr _ hm;generalize D:aU.mp l=y at dN;cases dN with
    |az=>cases D
    |sl=>cases D
    |gh=>cases D
    | mp b' c es l' fR hl T M3=>
     injection D with D;subst D;rw[bW]at fR;injection fR with e1 _;subst e1;have UN:b<w.heap.size:=(Array.getElem?_eq_some_iff.1 T).1;have AF:∀ (E:Array MapEntry) (O:Nat),E.toList.map (λe=>(e.key,e.val))=AK (lG l key Y) -> Rl w0 N aj ρ ⟨σ.t,bO σ.m rr (some (.mp (lG l key Y)))⟩ a { w with heap:=w.heap.setIfInBounds b (.map E O) }:=by
      intro E O aoP;have hW:tG w { w with heap:=w.heap.setIfInBounds b (.map E O) } b:=by
       refine⟨by simp,rfl,rfl,rfl,λk hk=>?_⟩
       show _[k]?=_;rw[Array.getElem?_setIfInBounds_ne (Ne.symm hk)]
      have hC:oW w { w with heap:=w.heap.setIfInBounds b (.map E O) } aj ρ:=by
       intro k ad v ha hv fh;obtain⟨j',i',s',q,rfl,hq,_,_,hh'⟩:=Ab k ad ha;have cJ:ad.block≠b:=by
        grind
       exact(World.cell?_of_block (hW.block _ cJ)).trans hv
      refine Z.wrote hW hl hC λr' y C=>?_
      by_cases lz:r'=rr
      ·subst lz;rw[bR]at C;injection C with C;subst C;refine .mp b O E _ bW hl ?_ aoP;simp_all
      ·rw[cw _ _ _ lz]at C;exact(Z.root r' y C).wrote hW hl hC (aar lz)
     rw[Td];unfold Instr.mapUpdate;simp only[Sem.run_bind,run_underlying ht,Result.andThen_ok,MapKept.run_getObj_map T,Sem.run_pure];rw[MapKept.run_checkKey (k:=.int .i64 key) U1 rfl];simp only[Result.andThen_ok];rcases U0 es.toList l key 0 M3 with ⟨a1,a2,a3⟩|⟨i,v,a1,a2,qE,a3,a4⟩
     ·rw[M1 U1 a1];simp;rw[MapKept.run_setObj_map _ T];refine⟨_,rfl,AF _ _ ?_⟩;rw[a3];simp only[Array.toList_push,List.map_append,M3,AK];rfl
     ·rw[M1 U1 a1];simp only[Result.andThen_ok,Nat.zero_add];have vA:(es[i]?.map (·.key)).getD (.int .i64 key) = .int .i64 key:=by
       grind
      rw[vA];have iO:(Instr.keyThatStays (.int .i64 key) (.int .i64 key)).run P w = .ok (.int .i64 key) w:=by
       unfold Instr.keyThatStays;simp[Instr.sameBits]
      simp only[Sem.run_bind];rw[iO];simp only[Result.andThen_ok];rw[MapKept.run_setObj_map _ T];refine⟨_,rfl,AF _ _ ?_⟩;rw[a4];simp
   ·cases h
 ·cases h
end
def M4(t:TypeId)(d:Nat)(x:Operand):Bool:=[(89,26,22)].any λ(p:Nat×Nat×Nat)=>Nat.beq p.1 t&&Nat.beq p.2.1 d&&(match x with
 |.tmp n=>Nat.beq n p.2.2 ||Nat.beq p.2.2 1000000
 |_=>false)
def AL(C:ah Tmp)(t:TypeId)(x:Operand):Bool:=match C with
 |some d=>M4 t d x
 |none=>false
def GL{X:Type}(P:Program)(N:Nat)(σ:S)(d:Nat)(t:TypeId)(x y:A)(k:S->ah X):ah X:=
 match tO P t with
 | some (e,C)=>bif Nat.beq (full C) 0&&(zeroOf P e).any (λz=>Nat.beq z.cells.size (aA C))then qp σ y λD=>(match D.Mn C with
  |none=>none
  | some l2=>match x with
   | .lf (.own [r])=>(match σ.m r with
    |some (.sl (.sl E (o+2) true l))=>if h:E=C then (bif !ir l2&&bD (l.length+l2.length)then gj N σ d (.sl (.sl C (o+2) false ((h ▸ l)++l2))) (.lf (.own [d])) k else none)else none
    |_=>none)
   |_=>none)else none
 |none=>none
section
variable {P:Program} {w w':World} {w0:Wd} {B N:Nat} {aj ax:bw} {ρ ρ':Nat->Loc} {σ:S} {a:Act} {X:Type} {d:Nat} {r:X}
def Rl.aoQ{t e ty:TypeId}{C:TC}{i:TypeInfo}{z:Value}{rr o g:Nat}{qn:Bool}{l l2:aa (T C)}{u v:Value}{q':aa Nat}{Bx:Nat}{TD:bw}(h:Rl w0 N aj ρ σ a w)(hF:w0.F d=none)(fj:P.underlying t=some (.slice e))(ht:tid C=e)(hi:P.info? e=some i)(hz:i.zero=some z)
  (fN:i.size=aA C) (iE:i.bytes <= 65536) (kR:z.cells.size=aA C) (hf:full C=0) (hd:RV w w0.heap.size aj [rr] (.sl C (o+2) true l) u) (hs:RV w Bx TD q' (.sl C g qn l2) v) (cJ:l2≠[]) (hlen:l.length+l2.length<1073741824):
  ∃L w' ax,(Builtin.append_ #[t,t] ty #[u,v]).run P w = .ok L w'/\Rl w0 N ax (bO ρ d (.dw L)) ((σ.drop d).root d (.sl (.sl C (o+2) false (l++l2)))) a w'/\kZ L=true:=by
 subst ht;obtain⟨xs,O,Mx,FW,gz⟩:=hd.aaJ hf (B':=0) (λb _=>Nat.zero_le b);obtain⟨A,c,news,rfl,o7,jP,FX⟩:=hs.reads hf;have fQ:(l.length+l2.length)*i.bytes <= 140737488355328:=by
  have h1:(l.length+l2.length)*i.bytes <= 1073741824*65536:=Nat.mul_le_mul (by omega) iE;omega
 have rC:0<l2.length:=List.length_pos_iff.2 cJ;obtain⟨L,w',cV,abR,hgr,ku⟩:=SY (P:=P) w 0 t ty (tid C) i z (aA C) i.bytes fj hi hz fN rfl kR (mY C) u l.length xs O _ A l2.length c news o7 jP (by unfold maxLen;omega) fQ (Nat.zero_le _);have FY:(l++l2).length=l.length+l2.length:=List.length_append;have hex:∃ b,u = .slice (some ⟨b,0,none⟩) l.length l.length:=by
  cases hd with
  |aC _ _ _ _ _ _ _ _ _ ho=>omega
  |eP _ _ _ _ _ ho=>omega
  |own _ _ _ _ _ b cap cs us hl hh hs hn hm hc hr=>exact⟨b,by rw[hm.2 rfl]⟩
 obtain⟨b,rfl⟩:=hex;obtain⟨U,Y,rfl,_,fB⟩:=o7.2 rC;have aoR:∀ j x,news[j]?=some x -> w.cell? ((⟨U,Y,none⟩:Addr).add j)=some x:=by
  intro j x hx;have L6:(⟨U,Y,none⟩:Addr).add j=⟨U,Y+j,none⟩:=by unfold Addr.add;split<;>simp_all
  grind
 have abS:=run_append_grow (P:=P) w t ty (tid C) i z fj hi hz ⟨b,0,none⟩ l.length l.length xs (by rw[fN];exact O.1) (O.cells (g:=b) rfl) ⟨U,Y,none⟩ l2.length c news (by rw[fN];exact o7.1) aoR (by omega) (by omega) (growslice_fits (by omega) fQ);rw[cV]at abS;injection abS with e1 e2;have hold:∀ k,k<w.heap.size -> w'.heap[k]?=w.heap[k]?:=by
  intro k E;rw[e2];exact heap_alloc_old _ _ E
 have hvb:L.ownBlock=some w.heap.size:=by rw[e1];rfl
 have cU:w.heap.size<w'.heap.size:=by rw[e2];simp
 rw[<- FY]at abR;have Aj:=gz.append FX O.1;have fh:kZ L=true:=by rw[e1];rfl
 have Z:Below 0 w w':=(Below.refl 0 w).grown hgr (Nat.zero_le _) (λ_ _=>Nat.zero_le _);have jj:gT w0 w w':=⟨Z.os,Z.tape,Z.output,Z.size,λk E hL=>hold k (Nat.lt_of_lt_of_le E h.below.size)⟩
 refine⟨L,w',bO aj w.heap.size (some [d]),cV,h.xD hF jj ⟨hgr.size,λb D _=>hold b D,λb D=>cw _ _ _ (by omega),λb D=>(h.cL b [] D).2.2 rfl⟩ (λb k D E=>?_) (λr hr=>cw _ _ _ hr) (.sl L _ (bR _ _ _) (TB abR Aj (λb D=>?_))),fh⟩
 ·by_cases e:b=w.heap.size
  ·subst e;rw[bR]at E;injection E with E
   grind
  ·rw[cw _ _ _ e]at E;have:=(h.cL b k E).2.1;omega
 ·rw[hvb]at D;injection D with D;subst D;exact bR _ _ _
def aoS{t ty:TypeId}{x y:A}{k:S -> ah X}(h:GL P N σ d t x y k=some r):∃ Y,k Y=some r /\ ∀ aj ρ a w,Rl w0 N aj ρ σ a w -> ∀ u v,RA w w0.heap.size aj ρ x u -> RA w w0.heap.size aj ρ y v ->
  ∃w' ax ρ' z,(Builtin.append_ #[t,t] ty #[u,v]).run P w = .ok z w'/\Rl w0 N ax ρ' Y (a.put (some d) z) w':=by
 unfold GL at h;split at h
 ·rename_i e Z nt;obtain⟨fj,ht,i,hi,fN,iE⟩:=xF nt;cases E:(Nat.beq (full Z) 0&&(zeroOf P e).any (λz=>Nat.beq z.cells.size (aA Z)))with
  |false=>grind
  | true=>
   rw[E,cond_true]at h;rw[Bool.and_eq_true]at E;have hf:=Nat.eq_of_beq_eq_true E.1;obtain⟨z,hz,T⟩:=(Option.any_eq_true _ _).1 E.2;have T:=Nat.eq_of_beq_eq_true T;have nu:i.zero=some z:=by unfold zeroOf at hz;simpa [hi]using hz
   obtain⟨yv,Mr,C⟩:=aaK (w0:=w0) (N:=N) h;clear h;split at C
   ·cases C
   ·rename_i l2 ji;split at C
    ·rename_i rr;split at C
     ·rename_i t' o l hm;split at C
      ·rename_i lD;subst lD;cases L:(!ir l2&&bD (l.length+l2.length))with
       |false=>grind
       | true=>
        rw[L,cond_true]at C;rw[Bool.and_eq_true]at L;have cJ:l2≠[]:=by rintro rfl;cases L.1
        have FZ:l.length+l2.length<1073741824:=by simpa [bD]using L.2
        obtain⟨hd,h3⟩:=nq C
        refine⟨_,h3,λaj ρ a w O u v hu hv=>?_⟩
        obtain⟨q',_,_,U⟩:=Mr aj ρ a w O v hv;obtain⟨g,qn,U⟩:=TF ji U;have dN:=O.root rr _ hm;generalize D:aU.sl (.sl t' (o+2) true l)=x at dN;cases dN with
        |az=>cases D
        |mp=>cases D
        |gh=>cases D
        | sl uu y bW hr=>
         injection D with D;subst D;have FU:uu=u:=by
          have h4:=hu.2;simp only[cH,bW]at h4;simp_all
         subst FU;obtain⟨v',w',ax,cV,cW,fh⟩:=O.aoQ (ty:=ty) (d:=d) (O.cT d (.inl hd)) fj ht hi nu fN iE T hf hr U cJ FZ;exact⟨w',ax,_,v',cV,cW.set ⟨fh,by simp[cH,bR]⟩ hd⟩
      ·cases C
     ·cases C
    ·cases C
 ·cases h
def aoT{t:TypeId}{x y:A}:cv λX k=>GL (X:=X) P N σ d t x y k:=λX Y k g=>by
 unfold GL;split
 ·refine cN ((UG _ _ _ _).trans (congrArg _ (funext λC=>?_))) rfl
  repeat' first|rfl|exact MS _ _ _ _|refine cN ?_ ?_|split
 ·rfl
def GM{X:Type}(P:Program)(N:Nat)(σ:S)(d:Nat)(t:TypeId)(x y:A)(k:S->ah X):ah X:=
 match x with
 |.view q s i j=>F0 P N σ d t (.view q s i j) y k
 |x=>GL P N σ d t x y k
def aoU{t ty:TypeId}{x y:A}{k:S->ah X}(h:GM P N σ d t x y k=some r):∃ C,k C=some r/\∀ aj ρ a w,Rl w0 N aj ρ σ a w->∀ u v,RA w w0.heap.size aj ρ x u->RA w w0.heap.size aj ρ y v->
  ∃w' ax ρ' z,(Builtin.append_ #[t,t] ty #[u,v]).run P w = .ok z w'/\Rl w0 N ax ρ' C (a.put (some d) z) w':=by
 unfold GM at h;split at h
 ·exact amQ h
 ·exact aoS h
def aoV{t:TypeId}{x y:A}:cv λX k=>GM (X:=X) P N σ d t x y k:=λX Y k g=>by
 unfold GM;split
 ·exact amR _ _ _ _
 ·exact aoT _ _ _ _
end
abbrev dJ:=Nat->ah ov
def eR(P:Program)(Φ:dJ):Prop:=∀f c,Φ f=some c->enters P f/\UR P f c
def fS{X:Type}(o:Oper)(k:Nat->ah X):ah X:=
 match o.dst with
 |some d=>k d
 |none=>none
def eS:Op->Bool
 |.move _|.assign _|.pick .. |.build .. |.load .. |.binOp .. |.unOp .. |.convert .. |.fieldAddr .. |.field .. |.indexAddr .. |.index .. |.extract .. |.nilCheck _=>true
 |.call ⟨.builtin .len,_,_⟩|.call ⟨.builtin .max,_,_⟩|.call ⟨.builtin .min,_,_⟩=>true
 |.slice _ _ _ _ none=>true
 |_=>false
def kD{X:Type}(P:Program)(σ:S)(C:Op)(k:A->ah X):ah X:=
 match C with
 |.move x=>k (aH σ x)
 |.assign x=>k (aH σ x)
 | .pick c x y=>(match aH σ c with
  |.lf (.v (.bool b))=>bif b then k (aH σ x)else k (aH σ y)
  |_=>none)
 |.build t parts=>C2 P σ t parts.toList k
 |.load t x=>mh P σ t (aH σ x) k
 |.binOp C t x y _=>xQ P σ C t (aH σ x) (aH σ y) k
 |.unOp C _ x=>vK (aH σ x) λa=>FM C a λz=>k (.lf (.v z))
 |.convert s d x=>xN P σ s d (aH σ x) k
 |.fieldAddr s x f=>CV P s (aH σ x) f k
 |.field s x f=>F5 P s (aH σ x) f k
 |.indexAddr t x i=>xy P σ t (aH σ x) (aH σ i) k
 |.index t x i=>F6 P t (aH σ x) (aH σ i) k
 |.extract x i=>Ah (aH σ x) i k
 |.nilCheck x=>MV (aH σ x) k
 |.call ⟨.builtin .len,⟨[x]⟩,⟨[t]⟩⟩=>Ag P σ t (aH σ x) k
 |.call ⟨.builtin .max,⟨[x,y]⟩,⟨[_,_]⟩⟩=>C3 true (aH σ x) (aH σ y) k
 |.call ⟨.builtin .min,⟨[x,y]⟩,⟨[_,_]⟩⟩=>C3 false (aH σ x) (aH σ y) k
 |.slice t x lo hi none=>xT P σ t (aH σ x) (lo.map (aH σ)) (hi.map (aH σ)) k
 |_=>none
def gC{X:Type}(P:Program)(N:Nat)(Φ:dJ)(σ:S)(o:Oper)(k:S->ah X):ah X:=
 match o.op with
 |.alloc e=>fS o λd=>oZ P N σ d e k
 |.box e x=>fS o λd=>yg N σ d (aH σ x) k
 |.buildSlice t len parts=>fS o λd=>bif ou t then vT P N σ d t len parts.toList k else xK P N σ d t len parts.toList k
 | .store t x y=>(match o.dst with
  |none=>bif vU (aH σ x) (aH σ y)then rQ P σ t (aH σ x) (aH σ y) k else od P σ t (aH σ x) (aH σ y) k
  |some _=>none)
 |.makeSlice t l c=>fS o λd=>xE P N σ d t (aH σ l) (aH σ c) k
 | .call ⟨.value (.func f),args,_⟩=>(match Φ f with
  |some (.p c)=>fS o λd=>anf N σ d c args.toList k
  |some (.m c)=>qB N σ o.dst c args.toList k
  |some (.v c)=>fS o λd=>GF N σ d c args.toList k
  |some (.n F)=>none
  |some (.i c)=>GG N σ o.dst c (args.toList.map (aH σ)++[]) k
  |some (.d c)=>GA N σ o.dst c args.toList k
  |some (.q c)=>fS o λd=>ane N σ d c args.toList k
  |some (.c c)=>GJ N σ o.dst c args.toList k
  |none=>none)
 |.call ⟨.builtin .append,⟨[x,y]⟩,⟨[t,C]⟩⟩=>bif Nat.beq t C then fS o λd=>bif ou t then GC P N σ d t (aH σ x) (aH σ y) k else bif M4 t d x then GM P N σ d t (aH σ x) (aH σ y) k else rA P N σ d t (aH σ x) (aH σ y) k else none
 |.makeMap _ none=>fS o λd=>UZ N σ d k
 |.lookup t x i false=>AI P σ t (aH σ x) (aH σ i) λv=>gd N σ o.dst v k
 | .mapUpdate t x i v=>(match o.dst with
  |none=>AJ P σ t (aH σ x) (aH σ i) (aH σ v) k
  |some _=>none)
 | .call ⟨.value (.tmp t),args,_⟩=>(match MZ (aH σ (.tmp t))with
  | some (f,ex)=>(match Φ f with
   |some (.i c)=>GG N σ o.dst c (args.toList.map (aH σ)++ex) k
   |_=>none)
  |none=>none)
 | .makeFunc (.func f) ⟨[]⟩ D=>(match GH σ D.toList with
  |some ps=>gd N σ o.dst (.fn f ps) k
  |none=>none)
 |.call ⟨.builtin .clear,⟨[x]⟩,⟨[t]⟩⟩=>F1 P σ t (aH σ x) λE=>gd N E o.dst .undef k
 |_=>none
def di{X:Type}(P:Program)(N:Nat)(Φ:dJ)(σ:S)(o:Oper)(k:S->ah X):ah X:=
 bif eS o.op then kD P σ o.op λv=>gd N σ o.dst v k else gC P N Φ σ o k
def GN{X:Type}(P:Program)(N:Nat)(Φ:dJ)(σ:S)(o:Oper)(k:S->ah X):ah X:=
 match o.op,o.dst with
 | .store t x y,none=>(match aH σ y with
  |.view [q] s i j=>GK P σ q s i j t (aH σ x) k
  |_=>di P N Φ σ o k)
 |.slice t x (some lo) (some hi) (some C),some d=>Dn P σ t (aH σ x) (aH σ lo) (aH σ hi) (aH σ C) (bif Nat.blt d N then k (σ.set d .undef)else none)
 |_,_=>di P N Φ σ o k
def eT(σ:S)(ops:Array Oper)(o:Oper):ah Bool:=
 match o.guard with
 |none=>some true
 | some (j,want)=>match (ops[j]?).bind (·.dst)with
  | some t=>(match σ.t t with
   |.lf (.v (.bool b))=>some (b==want)
   |.skip=>some false
   |_=>none)
  |none=>none
def GO(ops:Array Oper)(j:Nat):Bool:=ops.toList.any λo=>match o.guard with
 |some (i,_)=>Nat.beq i j
 |none=>false
def qF{X:Type}(σ:S)(C:ah Tmp)(g:Bool)(k:S->ah X):ah X:=
 bif g then (match C with
  | some d=>(match σ.t d with
   |.lf (.v (.bool b))=>bif b then k (σ.set d (.lf (.v (.bool true))))else k (σ.set d (.lf (.v (.bool false))))
   |_=>k σ)
  |none=>k σ)else k σ
def AM{X:Type}(P:Program)(N:Nat)(Φ:dJ)(ops:Array Oper):Nat->aa Oper->S->(S->ah X)->ah X
 |_,[],σ,k=>k σ
 | j,o :: rest,σ,k=>match eT σ ops o with
  |some true=>GN P N Φ σ o λC=>qF C o.dst (GO ops j) λD=>AM P N Φ ops (j+1) rest D k
  |some false=>gd N σ o.dst .skip λC=>AM P N Φ ops (j+1) rest C k
  |none=>none
/-! Regions whose order is open: what is listed is a set of bits. -/
def cY{X:Type}(P:Program)(N:Nat)(Φ:dJ)(ops:Array Oper)(σ:S)(o:Oper)(k:S->ah X):ah X:=
 match eT σ ops o with
 |some true=>di P N Φ σ o k
 |some false=>gd N σ o.dst .skip k
 |none=>none
def jT(ops:Array Oper)(L j:Nat):Bool:=!L.testBit j&&(match ops[j]? with
 |some o=>o.after.toList.all λe=>!Region.binds .any e ||L.testBit e.on
 |none=>false)
def GP(ops:Array Oper)(i W j:Nat):Bool:=(match ops[j]? with
 |some o=>o.after.toList.any λe=>Region.binds .any e&&(Nat.beq e.on i ||W.testBit e.on)
 |none=>false)
def waits(ops:Array Oper)(i:Nat):Nat->Nat->Nat->Nat
 |0,_,W=>W
 |n+1,j,W=>waits ops i n (j+1) (bif GP ops i W j then W |||2 ^ j else W)
def eJ(o:Oper)(n:Nat):Bool:=match o.dst with
 | some d=>(match o.op with
  |.alloc _|.box .. |.buildSlice .. |.makeSlice ..=>Nat.beq n d
  |.call ⟨.value (.func _),_,_⟩=>Nat.ble (1000000000100000+1000*d) n
  |.call ⟨.builtin .append,_,_⟩=>Nat.beq n d
  |_=>false)
 |none=>false
def M5(Φ:dJ)(C:Op):Bool:=eS C || (match C with
 |.alloc _|.box .. |.buildSlice .. |.makeSlice ..=>true
 | .call ⟨.value (.func f),_,_⟩=>(match Φ f with
  |some (.p _)=>true
  |some (.q _)=>true
  |_=>false)
 |_=>false)
def iz(g:Oper->Bool)(ops:Array Oper)(i L W:Nat):Nat->Nat->Bool
 |0,_=>false
 | f+1,j=>(!(Nat.beq j i || L.testBit j || W.testBit j)&&(match ops[j]? with
  |some C=>g C
  |none=>false)) ||iz g ops i L W f (j+1)
def GQ(g:Oper->Bool)(ops:Array Oper)(C:Oper)(i L W:Nat):Nat->Nat->Bool
 |0,_=>true
 | n+1,j=>(Nat.beq j i || L.testBit j || (bif W.testBit j then GP ops i W j else (match ops[j]? with
  |some D=>g D&&C.apart ops D
  |none=>true)))&&GQ g ops C i L W n (j+1)
def abU(ok:Nat->Nat->Bool)(σ:S):aa PK->aa Operand->Bool
 | .p _ _ _ :: ps,.tmp t :: xs=>(match σ.t t with
  |.aG r _=>ok t r
  |_=>false)&&abU ok σ ps xs
 |.v _ _::ps,_::xs=>abU ok σ ps xs
 |[],[]=>true
 |_,_=>false
def mF(σ:S):aa PK->aa Operand->aa Nat
 | .p _ _ _ :: ps,x :: xs=>(match aH σ x with
  |.aG r _=>r::mF σ ps xs
  |_=>mF σ ps xs)
 |_::ps,_::xs=>mF σ ps xs
 |_,_=>[]
def qG(Φ:dJ)(σ:S)(o:Oper):aa Nat:=match o.op with
 | .call ⟨.value (.func f),args,_⟩=>(match Φ f with
  |some (.m c)=>mF σ c.ps args.toList
  |_=>[])
 |_=>[]
def jD(t:Nat)(o:Oper):Bool:=match o.dst with
 |some d=>Nat.beq d t
 |none=>false
def ua(o:Oper):Bool:=(match o.op with
 |.alloc _=>true
 |_=>false)&&o.guard.isNone&&(match o.dst with
 |some d=>Nat.blt d 20000
 |none=>false)
def mG(o:Oper):Bool:=(match o.op with
 |.alloc _=>true
 |.buildSlice t _ _=>!ou t
 |.makeSlice ..=>true
 |_=>false)&&(match o.dst with
 |some d=>Nat.blt d 20000
 |none=>false)
def isApp(o:Oper):Bool:=match o.op with
 |.call ⟨.builtin .append,⟨[x,_]⟩,⟨[t,C]⟩⟩=>!ou t&&Nat.beq t C && !AL o.dst t x
 |_=>false
def A.nK(p pb:Nat->Bool):A->Bool:=A.fr (tY p pb)
def AN(σ:S)(o:Oper):aa Nat:=match o.op with
 | .store _ (.tmp t) _=>(match σ.t t with
  |.aG r _=>[r]
  |_=>[])
 | .call ⟨.builtin .append,⟨[.tmp t,_]⟩,⟨[_,_]⟩⟩=>(match σ.t t with
  |.lf (.own [r])=>[r]
  |_=>[])
 |_=>[]
def M6(σ:S)(o:Oper):aa Nat:=match o.op with
 | .call ⟨.builtin .append,⟨[.tmp t,_]⟩,⟨[_,_]⟩⟩=>(match σ.t t with
  |.lf (.own [r])=>[r]
  |_=>[])
 |_=>[]
def aoW(t:Nat)(o:Oper):Bool:=match o.op with
 |.store _ (.tmp C) _=>Nat.beq C t
 |_=>false
def faR(ops:Array Oper)(i L W:Nat)(σ:S)(o:Oper):aa Nat:=match o.op,o.dst with
 | .fieldAddr _ (.tmp x) _,some t=>bif iz (aoW t) ops i L W ops.size 0 then (match σ.t x with
  |.aG r _=>[r]
  |_=>[])else []
 |_,_=>[]
def AO(Φ:dJ)(ops:Array Oper)(i L W:Nat)(σ:S)(n:Nat):Bool:=
 iz (λo=>eJ o n) ops i L W ops.size 0 ||iz (λo=>cX n (qG Φ σ o) ||cX n (AN σ o)) ops i L W ops.size 0
def yj(Φ:dJ)(ops:Array Oper)(i L W:Nat)(σ:S)(n:Nat):Bool:=
 AO Φ ops i L W σ n ||iz (λo=>cX n (faR ops i L W σ o)) ops i L W ops.size 0
def AP(σ:S)(ops:Array Oper)(i L W n:Nat):Bool:=iz (λo=>eJ o n) ops i L W ops.size 0 ||iz (λo=>cX n (M6 σ o)) ops i L W ops.size 0
def yl(Φ:dJ)(o:Oper):Bool:=match o.op with
 | .call ⟨.value (.func f),_,_⟩=>(match Φ f with
  |some (.p _)=>true
  |_=>false)
 |_=>false
def kE(Φ:dJ)(ops:Array Oper)(i L W t:Nat):Bool:=!iz (λok=>jD t ok && !(mG ok ||isApp ok ||yl Φ ok)) ops i L W ops.size 0
def U2(Φ:dJ)(ops:Array Oper)(i L W:Nat)(o:Oper):Bool:=match o.op with
 |.call ⟨.builtin .append,⟨[.tmp t,_]⟩,⟨[ty,C]⟩⟩=>kE Φ ops i L W t&&(!ou ty&&Nat.beq ty C && !AL o.dst ty (.tmp t))
 |_=>false
def kF(Φ:dJ)(ops:Array Oper)(i L W:Nat)(σ:S)(x:Nat):Bool:=!iz (jD x) ops i L W ops.size 0&&(match σ.t x with
 |.aG r _=>yj Φ ops i L W σ r
 |.gS _=>true
 |_=>false)
def M7(Φ:dJ)(ops:Array Oper)(i L W:Nat)(σ:S)(o:Oper):Bool:=match o.op with
 |.fieldAddr _ (.tmp x) _=>kF Φ ops i L W σ x
 |_=>false
def M8(Φ:dJ)(ops:Array Oper)(i L W:Nat)(σ:S)(t:Nat):Bool:=!iz (λok=>jD t ok && !(ua ok ||M7 Φ ops i L W σ ok)) ops i L W ops.size 0
def FI(Φ:dJ)(ops:Array Oper)(i L W:Nat)(σ:S)(o:Oper):Bool:=match o.op with
 | .store _ (.tmp t) _=>o.dst.isNone&&M8 Φ ops i L W σ t&&(match σ.t t with
  |.ptr _=>false
  |_=>true)
 |_=>false
def U3(σ:S)(p:Nat->Bool)(o:Oper):Bool:=o.op.operands.toList.all λx=>(aH σ x).nr p
def U4(σ:S)(p pb:Nat->Bool)(o:Oper):Bool:=(o.op.operands.toList.all λx=>(aH σ x).nK p pb)&&(match o.op with
 | .load _ x=>(match aH σ x with
  |.aG r _=>!p r
  |_=>true)
 |_=>true)
def abV(Φ:dJ)(ops:Array Oper)(L:Nat)(σ:S)(i:Nat):Bool:=match ops[i]? with
 | some C=>(eS C.op || (match eT σ ops C with
  |some b=>!b
  |none=>false))&&Nat.beq ((L |||2 ^ i) &&& waits ops i ops.size 0 0) 0&&GQ (λD=>M5 Φ D.op ||false ||FI Φ ops i L (waits ops i ops.size 0 0) σ D ||U2 Φ ops i L (waits ops i ops.size 0 0) D) ops C i L (waits ops i ops.size 0 0) ops.size 0&&U4 σ (yj Φ ops i L (waits ops i ops.size 0 0) σ) (AP σ ops i L (waits ops i ops.size 0 0)) C
 |none=>false
def GR{X:Type}(P:Program)(N:Nat)(Φ:dJ)(ops:Array Oper)(L i:Nat)(σ:S)(o:Oper)(k:S->ah X):ah X:=
 match eT σ ops o with
 |some true=>kD P σ o.op λv=>bif v.nK (yj Φ ops i L (waits ops i ops.size 0 0) σ) (AP σ ops i L (waits ops i ops.size 0 0))then gd N σ o.dst v k else none
 |some false=>gd N σ o.dst .skip k
 |none=>none
/-! A call may be taken first where all that is free beside it are new blocks. -/
def A.eS:A->Bool
 |.lf (.v _)=>true
 | .agg cs=>cs.all λl=>match l with
  |.v _=>true
  |_=>false
 |_=>false
def U5(ops:Array Oper)(i L W:Nat)(σ:S)(o:Oper):Bool:=mG o&&(match eT σ ops o with
 |some b=>b
 | none=>false)&&(o.op.operands.toList.all λx=>(aH σ x).eS&&(match x with
  |.tmp t=>!iz (jD t) ops i L W ops.size 0
  |_=>true))&&(match o.guard with
 | some (g,_)=>(match (ops[g]?).bind (·.dst)with
  |some t=>!iz (jD t) ops i L W ops.size 0
  |none=>true)
 |none=>true)
def lH(Φ:dJ)(o:Oper):Bool:=match o.op with
 | .call ⟨.value (.func f),_,_⟩=>(match Φ f with
  |some (.p _)=>true
  |some (.m _)=>true
  |_=>false)
 |_=>false
def GS(o:Oper):Bool:=(match o.op with
 |.store _ (.tmp _) _=>true
 |_=>false)&&o.dst.isNone
def vV(σ:S)(o:Oper):Bool:=match o.op with
 | .store _ (.tmp t) _=>(match σ.t t with
  |.aG _ _=>true
  |_=>false)
 |_=>true
def GU(Φ:dJ)(o:Oper):Bool:=lH Φ o ||mG o ||isApp o ||GS o
def vW(σ:S)(p:Nat->Bool)(r:Nat):Bool:=match σ.m r with
 |some (.az cs)=>cs.all (Lf.nr p)
 |_=>true
def Dq(o:Oper)(n:Nat):Bool:=jD n o
def abW(Φ:dJ)(ops:Array Oper)(L:Nat)(σ:S)(i:Nat):Bool:=match ops[i]? with
 | some C=>GU Φ C&&Nat.beq ((L ||| 2 ^ i) &&& waits ops i ops.size 0 0) 0&&GQ (U5 ops i L (waits ops i ops.size 0 0) σ) ops C i L (waits ops i ops.size 0 0) ops.size 0 &&
   U3 σ (λn=>iz (λo=>Dq o n) ops i L (waits ops i ops.size 0 0) ops.size 0) C&&(qG Φ σ C).all (vW σ (λn=>iz (λo=>Dq o n) ops i L (waits ops i ops.size 0 0) ops.size 0))&&vV σ C
 |none=>false
def pz(x:A)(n:Nat):ah V:=match x with
 | .dW xs=>(match xs[n]? with
  |some (false,[.v z])=>some z
  |_=>none)
 |_=>none
def U6(ops:Array Oper)(L:Nat)(σ:S)(i:Nat):Bool:=match ops[i]?,(List.range ops.size).filter (λj=>!(Nat.beq j i || L.testBit j))with
 | some C,[E]=>(match C.op,C.dst,C.guard,ops[E]? with
  | .extract (.tmp x) n,some _,none,some D=>(match D.op,D.dst,D.guard with
   |.store _ a b,none,none=>(pz (σ.t x) n).isSome&&vU (aH σ a) (aH σ b)&&C.apart ops D
   |_,_,_=>false)
  |_,_,_,_=>false)
 |_,_=>false
def pE{X:Type}(P:Program)(N:Nat)(Φ:dJ)(ops:Array Oper):Nat->Nat->S->(S->ah X)->ah X
 | 0,L,σ,k=>(match (List.range ops.size).filter (jT ops L)with
  |[]=>k σ
  |_=>none)
 | f+1,L,σ,k=>(match (List.range ops.size).filter (jT ops L)with
  |[]=>k σ
  | [i]=>(match ops[i]? with
   |some o=>cY P N Φ ops σ o λC=>qF C o.dst (GO ops i) λD=>pE P N Φ ops f (L |||2 ^ i) D k
   |none=>none)
  | rs=>(match rs.find? (abV Φ ops L σ)with
   | some i=>(match ops[i]? with
    |some o=>GR P N Φ ops L i σ o λC=>qF C o.dst (GO ops i) λD=>pE P N Φ ops f (L |||2 ^ i) D k
    |none=>none)
   | none=>(match rs.find? (abW Φ ops L σ)with
    | some i=>(match ops[i]? with
     |some o=>cY P N Φ ops σ o λC=>qF C o.dst (GO ops i) λD=>pE P N Φ ops f (L |||2 ^ i) D k
     |none=>none)
    | none=>(match rs.find? (U6 ops L σ)with
     | some i=>(match ops[i]? with
      |some o=>cY P N Φ ops σ o λC=>qF C o.dst (GO ops i) λD=>pE P N Φ ops f (L |||2 ^ i) D k
      |none=>none)
     |none=>none))))
/-! A new slice of constants may come first,beside values and calls of contents. -/
structure qH where
 run:(X:Type)->S->(Exit->S->Option X)->Option X
abbrev lI:=Nat->ah qH
def jU{X:Type}(P:Program)(N:Nat)(Φ:dJ)(Λ:lI):Code->S->(Exit->S->ah X)->ah X
 |.skip,σ,k=>k .normal σ
 |.label _,σ,k=>k .normal σ
 |.ret,σ,k=>k .ret σ
 |.exit id,σ,k=>k (.exit id) σ
 |.region _ ops false,σ,k=>AM P N Φ ops 0 ops.toList σ λC=>k .normal C
 |.region _ ops true,σ,k=>bif P.follows .mixedOrders then pE P N Φ ops ops.size 0 σ λC=>k .normal C else none
 | .seq x y,σ,k=>jU P N Φ Λ x σ λe C=>match e with
  |.normal=>jU P N Φ Λ y C k
  |e=>k e C
 | .cond c x y,σ,k=>match aH σ c with
  |.lf (.v (.bool b))=>bif b then jU P N Φ Λ x σ k else jU P N Φ Λ y σ k
  |_=>none
 | .block id c,σ,k=>match Λ id with
  |some b=>b.run X σ k
  | none=>jU P N Φ Λ c σ λe C=>match e with
   |.exit D=>if D=id then k .normal C else k (.exit D) C
   |e=>k e C
 |_,_,_=>none
def AW(P:Program)(w0:Wd)(N:Nat)(c:Code)(σ:S)(K:Exit->S->Prop):Prop:=
 ∀a w,R w0 N σ a w->c.wp P (λe D w'=>∃C,K e C/\R w0 N C D w') a w
def occs:Code->aa (Nat×Code)
 |.seq x y=>occs x++occs y
 |.cond _ x y=>occs x++occs y
 |.block id c=>(id,c)::occs c
 |_=>[]
def AQ(P:Program)(N:Nat)(c:Code)(b:qH):Prop:=∀(X:Type) σ k (r:X) w0,b.run X σ k=some r->AW P w0 N c σ λe C=>k e C=some r
def ow(P:Program)(N:Nat)(Λ:lI)(l:aa (Nat×Code)):Prop:=∀p∈l,∀b,Λ p.1=some b->AQ P N (.block p.1 p.2) b
section
variable {P:Program} {w w':World} {w0:Wd} {B N:Nat} {aj ax:bw} {ρ ρ':Nat->Loc} {σ:S} {a:Act} {X:Type} {d:Nat} {r:X} {o:Oper} {Φ:dJ} {Λ:lI}
def jN.mem{D:S}(E:o.dst=some d)(h:∀ aj ρ a w,Rl w0 N aj ρ σ a w->∃ w' ax ρ' v,(execOp a.eval o).run P w = .ok (.value v) w'/\Rl w0 N ax ρ' D (a.put (some d) v) w'):jN P w0 N o σ D:=by
 intro a w K Q C L;obtain⟨aj,ρ,C⟩:=C;obtain⟨w',ax,ρ',v,O,T⟩:=h aj ρ a w C;unfold Oper.wp;rw[O,Oper.upon_value,E];exact L _ _ ⟨ax,ρ',T⟩
def iQ{k:Nat -> ah X}(h:fS o k=some r):∃ d,o.dst=some d/\k d=some r:=by
 unfold fS at h
 grind
def ia{s:Sem Value}{v:Value}(h:s.run P w = .ok v w'):(do pure (.value (<-s)):Sem Next).run P w = .ok (.value v) w':=by
 rw[Sem.run_bind,h];rfl
def abX{b:Go.Builtin}{x:Operand}{t:TypeId}{v:Value}(C:o.op = .call ⟨.builtin b,⟨[x]⟩,⟨[t]⟩⟩)(h:∀ cs,(builtin b #[t] o.type cs #[a.eval x]).run P w = .ok (.value v) w'):(execOp a.eval o).run P w = .ok (.value v) w':=by
 simp only[execOp,C,resolve,Sem.run_bind,Sem.run_pure,Result.andThen_ok,invoke,List.map_toArray,List.map_cons,List.map_nil];exact h _
def U7{b:Go.Builtin}{x y:Operand}{t C:TypeId}{v:Value}(D:o.op = .call ⟨.builtin b,⟨[x,y]⟩,⟨[t,C]⟩⟩)(h:∀ cs,(builtin b #[t,C] o.type cs #[a.eval x,a.eval y]).run P w = .ok (.value v) w'):(execOp a.eval o).run P w = .ok (.value v) w':=by
 simp only[execOp,D,resolve,Sem.run_bind,Sem.run_pure,Result.andThen_ok,invoke,List.map_toArray,List.map_cons,List.map_nil];exact h _
def U8{C:Op}:cv λX k=>kD (X:=X) P σ C k:=λX Y k g=>by
 unfold kD;split
 ·rfl
 ·rfl
 ·repeat' first|rfl|refine cN ?_ ?_|split
 ·exact an7 _ _ _ _
 ·exact abv _ _ _ _
 ·exact an1 _ _ _ _
 ·exact(UH.comp λa=>an2.comp (b:=λX k z=>k (.lf (.v z))) λz _ _ _ _=>rfl) X Y k g
 ·exact aoa _ _ _ _
 ·exact an3 _ _ _ _
 ·exact an8 _ _ _ _
 ·exact an4 _ _ _ _
 ·exact an9 _ _ _ _
 ·exact an6 _ _ _ _
 ·unfold MV;split<;>rfl
 ·exact an5 _ _ _ _
 ·exact abw _ _ _ _
 ·exact abw _ _ _ _
 ·exact aob _ _ _ _
 ·rfl
def U9{op:Op}{k:A->ah X}(h:kD P σ op k=some r):∃ v,k v=some r/\kr (λX k=>kD (X:=X) P σ op k) v/\∀ aj ρ a w (o:Oper),o.op=op->Rl w0 N aj ρ σ a w->∃ u,(execOp a.eval o).run P w = .ok (.value u) w/\RA w w0.heap.size aj ρ v u:=by
 obtain⟨z,U,hd⟩:=U8.lA h
 refine⟨z,U,hd,λaj ρ a w o O C=>?_⟩
 replace h:kD P σ op some=some z:=hd A some;clear hd U;unfold kD at h;split at h
 ·cases h;exact⟨_,by simp[execOp,O],C.aH _⟩
 ·cases h;exact⟨_,by simp[execOp,O],C.aH _⟩
 ·rename_i c x y;split at h
  ·rename_i b T;have hc:=C.aH c;rw[T]at hc;have hv:=hc.2.xw;cases b with
   |true=>cases h;exact⟨a.eval x,by simp[execOp,O,hv,asBool],C.aH x⟩
   |false=>cases h;exact⟨a.eval y,by simp[execOp,O,hv,asBool],C.aH y⟩
  ·cases h
 next t parts=>obtain⟨_,⟨⟩,D⟩:=amW (w0:=w0) (N:=N) h;obtain⟨v,E,L⟩:=D aj ρ a w C;exact⟨v,by simp only[execOp,O];exact ia E,L⟩
 next t x=>obtain⟨_,⟨⟩,D⟩:=aax (w0:=w0) (N:=N) h;obtain⟨v,E,L⟩:=D aj ρ a w C _ (C.aH x);exact⟨v,by simp only[execOp,O];exact ia E,L⟩
 next op t x y yt=>obtain⟨_,⟨⟩,D⟩:=am7 (w0:=w0) (N:=N) h;obtain⟨v,E,L⟩:=D aj ρ a w C x y _ _ (C.aH x) (C.aH y);exact⟨v,by simp only[execOp,O];exact ia E,L⟩
 next op t x=>obtain⟨u,hx,h⟩:=Tl h;obtain⟨_,⟨⟩,hp,D⟩:=amA (P:=P) h;have U:=C.aH x;rw[hx]at U;obtain⟨Y,E,hr⟩:=D w _ aj [] _ U.2;exact⟨Y,by simp only[execOp,O];exact ia E,V.FN hp,hr⟩
 next s d' x=>obtain⟨_,⟨⟩,D⟩:=am3 (w0:=w0) (N:=N) h;obtain⟨v,E,L⟩:=D aj ρ a w C _ (C.aH x);exact⟨v,by simp only[execOp,O];exact ia E,L⟩
 next s x f=>obtain⟨_,⟨⟩,D⟩:=amE h;obtain⟨v,E,L⟩:=D w _ aj ρ _ (C.aH x);exact⟨v,by simp only[execOp,O];exact ia E,L⟩
 next s x f=>obtain⟨_,⟨⟩,D⟩:=am4 h;obtain⟨v,E,L⟩:=D w _ aj ρ _ (C.aH x);exact⟨v,by simp only[execOp,O];exact ia E,L⟩
 next t x i=>obtain⟨_,⟨⟩,D⟩:=amF (w0:=w0) (N:=N) h;obtain⟨v,E,L⟩:=D aj ρ a w C _ _ (C.aH x) (C.aH i);exact⟨v,by simp only[execOp,O];exact ia E,L⟩
 next t x i=>obtain⟨_,⟨⟩,D⟩:=am2 h;obtain⟨v,E,L⟩:=D w _ aj ρ _ _ (C.aH x) (C.aH i);exact⟨v,by simp only[execOp,O];exact ia E,L⟩
 next x i=>obtain⟨_,⟨⟩,D⟩:=amH (P:=P) h;obtain⟨v,E,L⟩:=D w _ aj ρ _ (C.aH x);exact⟨v,by simp only[execOp,O];exact ia E,L⟩
 next x=>obtain⟨h,D⟩:=aoi (w:=w) (B:=w0.heap.size) (aj:=aj) (ρ:=ρ) h;cases h;obtain⟨ad,hu⟩:=D _ (C.aH x);refine⟨a.eval x,?_,C.aH x⟩;simp only[execOp,O,hu];rfl
 next x t=>obtain⟨_,⟨⟩,D⟩:=amG (w0:=w0) (N:=N) (ty:=o.type) h;obtain⟨v,E,L⟩:=D aj ρ a w C _ (C.aH x);exact⟨v,abX O λ_=>ia E,L⟩
 next x y t Y=>obtain⟨_,⟨⟩,D⟩:=aaS (P:=P) h;obtain⟨v,E,L⟩:=D w _ aj ρ t o.type _ _ (C.aH x) (C.aH y);exact⟨v,U7 O λ_=>ia (s:=Builtin.max_ #[t,Y] o.type #[a.eval x,a.eval y]) E,L⟩
 next x y t Y=>obtain⟨_,⟨⟩,D⟩:=aaS (P:=P) h;obtain⟨v,E,L⟩:=D w _ aj ρ t o.type _ _ (C.aH x) (C.aH y);exact⟨v,U7 O λ_=>ia (s:=Builtin.min_ #[t,Y] o.type #[a.eval x,a.eval y]) E,L⟩
 ·rename_i t x lo hi;obtain⟨_,⟨⟩,D⟩:=anc (w0:=w0) (N:=N) h;have Z:∀ z:ah Operand,(∀ b,z.map (aH σ)=some b->∃ v,z.map a.eval=some v/\RA w w0.heap.size aj ρ b v)/\(z.map (aH σ)=none->z.map a.eval=none):=by
   intro z;cases z with
   |none=>exact⟨λb T=>(by cases T),λ_=>rfl⟩
   |some z=>exact⟨λb T=>(by cases T;exact⟨_,rfl,C.aH z⟩),λT=>(by cases T)⟩
  obtain⟨v,E,hr⟩:=D aj ρ a w C _ _ _ (C.aH x) (Z lo).1 (Z lo).2 (Z hi).1 (Z hi).2;exact⟨v,by simp only[execOp,O];exact ia E,hr⟩
 ·cases h
def jN.skip{D:S}(E:o.dst=none)(h:∀ aj ρ a w,Rl w0 N aj ρ σ a w->∃ w' ax,(execOp a.eval o).run P w = .ok .skip w'/\Rl w0 N ax ρ D a w'):jN P w0 N o σ D:=by
 intro a w K Q C L;obtain⟨aj,ρ,C⟩:=C;obtain⟨w',ax,O,T⟩:=h aj ρ a w C;unfold Oper.wp;rw[O,Oper.upon_skip,E];exact L _ _ ⟨ax,ρ,T⟩
def M9{s:Sem af}(h:s.run P w = .ok () w'):(do s;pure .skip:Sem Next).run P w = .ok .skip w':=by
 rw[Sem.run_bind,h];rfl
def aoX{k:S->ah X}(dB:eR P Φ)(h:gC P N Φ σ o k=some r):∃ T,k T=some r/\jN P w0 N o σ T:=by
 unfold gC at h;split at h
 ·rename_i e D;obtain⟨d,E,h⟩:=iQ h;obtain⟨T,h,U⟩:=amN (w0:=w0) h
  refine⟨T,h,.mem E λaj ρ a w C=>?_⟩
  obtain⟨w',ax,ρ',v,L,O⟩:=U aj ρ a w C;exact⟨w',ax,ρ',v,by simp only[execOp,D];exact ia L,O⟩
 ·rename_i e x D;obtain⟨d,E,h⟩:=iQ h;obtain⟨T,h,U⟩:=aog (w0:=w0) (e:=e) h
  refine⟨T,h,.mem E λaj ρ a w C=>?_⟩
  obtain⟨w',ax,ρ',v,L,O⟩:=U aj ρ a w C _ (C.aH x);exact⟨w',ax,ρ',v,by simp only[execOp,D];exact ia L,O⟩
 ·rename_i t len parts D;obtain⟨d,E,h⟩:=iQ h;cases hn:ou t with
  | true=>
   rw[hn,cond_true]at h;obtain⟨T,h,U⟩:=aoj (w0:=w0) h
   refine⟨T,h,.mem E λaj ρ a w C=>?_⟩
   obtain⟨w',ax,ρ',v,L,O⟩:=U aj ρ a w C;exact⟨w',ax,ρ',v,by simp only[execOp,D];exact ia L,O⟩
  | false=>
   rw[hn,cond_false]at h;obtain⟨T,h,U⟩:=am0 (w0:=w0) h
   refine⟨T,h,.mem E λaj ρ a w C=>?_⟩
   obtain⟨w',ax,ρ',v,L,O⟩:=U aj ρ a w C;exact⟨w',ax,ρ',v,by simp only[execOp,D];exact ia L,O⟩
 ·rename_i t x y D;split at h
  ·rename_i E;cases hn:vU (aH σ x) (aH σ y)with
   | true=>
    rw[hn,cond_true]at h;obtain⟨T,h,U⟩:=aor (w0:=w0) (N:=N) h
    refine⟨T,h,.skip E λaj ρ a w C=>?_⟩
    obtain⟨w',ax,L,O⟩:=U aj ρ a w C _ _ (C.aH x) (C.aH y);exact⟨w',ax,by simp only[execOp,D];exact M9 L,O⟩
   | false=>
    rw[hn,cond_false]at h;obtain⟨T,h,U⟩:=aaz (w0:=w0) (N:=N) h
    refine⟨T,h,.skip E λaj ρ a w C=>?_⟩
    obtain⟨w',L,O⟩:=U aj ρ a w C _ _ (C.aH x) (C.aH y);exact⟨w',aj,by simp only[execOp,D];exact M9 L,O⟩
  ·cases h
 ·rename_i t l c D;obtain⟨d,E,h⟩:=iQ h;obtain⟨T,h,U⟩:=amO (w0:=w0) h
  refine⟨T,h,.mem E λaj ρ a w C=>?_⟩
  obtain⟨w',ax,ρ',v,L,O⟩:=U aj ρ a w C _ _ (C.aH l) (C.aH c);exact⟨w',ax,ρ',v,by simp only[execOp,D];exact ia L,O⟩
 ·rename_i f args jB D;split at h
  next c Y=>obtain⟨d,E,h⟩:=iQ h;obtain⟨Z,eB⟩:=dB f _ Y;exact aa3 D E Z eB (aa1 (w0:=w0) (N:=N) _) h
  next c Y=>obtain⟨Z,eB⟩:=dB f _ Y;exact anG D Z eB h
  next c Y=>obtain⟨d,E,h⟩:=iQ h;obtain⟨Z,eB⟩:=dB f _ Y;exact aow D E Z eB h
  ·cases h
  next c Y=>obtain⟨Z,eB⟩:=dB f _ Y;exact abM (ex:=[]) D rfl Z eB h
  next c Y=>obtain⟨Z,eB⟩:=dB f _ Y;exact anM D Z eB h
  next c Y=>obtain⟨d,E,h⟩:=iQ h;obtain⟨Z,eB⟩:=dB f _ Y;exact aa3 D E Z eB (ani (w0:=w0) (N:=N) _) h
  next c Y=>obtain⟨Z,eB⟩:=dB f _ Y;exact aoD D Z eB h
  ·cases h
 ·rename_i x y t t' D;cases lD:Nat.beq t t' with
  |false=>rw[lD]at h;cases h
  | true=>
   rw[lD,cond_true]at h;obtain rfl:=Nat.eq_of_beq_eq_true lD;obtain⟨d,E,h⟩:=iQ h;have hh:∃ T,k T=some r/\∀ aj ρ a w,Rl w0 N aj ρ σ a w->∀ u v,RA w w0.heap.size aj ρ (aH σ x) u->RA w w0.heap.size aj ρ (aH σ y) v->
     ∃w' ax ρ' z,(Builtin.append_ #[t,t] o.type #[u,v]).run P w = .ok z w'/\Rl w0 N ax ρ' T (a.put (some d) z) w':=by
    cases hn:ou t with
    |true=>rw[hn,cond_true]at h;exact aop h
    | false=>
     rw[hn,cond_false]at h;cases hk:M4 t d x with
     |true=>rw[hk,cond_true]at h;exact aoU h
     |false=>rw[hk,cond_false]at h;exact amP h
   obtain⟨T,h,U⟩:=hh
   refine⟨T,h,.mem E λaj ρ a w C=>?_⟩
   obtain⟨w',ax,ρ',v,L,O⟩:=U aj ρ a w C _ _ (C.aH x) (C.aH y);exact⟨w',ax,ρ',v,U7 D λ_=>ia L,O⟩
 ·rename_i t D;obtain⟨d,E,h⟩:=iQ h;obtain⟨T,h,U⟩:=aoJ (w0:=w0) (t:=t) (P:=P) h
  refine⟨T,h,.mem E λaj ρ a w C=>?_⟩
  obtain⟨w',ax,ρ',v,L,O⟩:=U aj ρ a w C;exact⟨w',ax,ρ',v,by simp only[execOp,D];exact ia L,O⟩
 ·rename_i t x i D;obtain⟨v,h1,_,U⟩:=aoN (w0:=w0) (N:=N) h
  refine jN.val h1 λaj ρ a w C=>?_
  obtain⟨y,L,O⟩:=U aj ρ a w C _ _ (C.aH x) (C.aH i);exact⟨y,by simp only[execOp,D];exact ia L,O⟩
 ·rename_i t x i v D;split at h
  ·rename_i E;obtain⟨T,h,_,U⟩:=aoO (w0:=w0) (N:=N) h
   refine⟨T,h,.skip E λaj ρ a w C=>?_⟩
   obtain⟨w',L,O⟩:=U aj ρ a w C _ _ _ (C.aH x) (C.aH i) (C.aH v);exact⟨w',aj,by simp only[execOp,D];exact M9 L,O⟩
  ·cases h
 ·rename_i t args jB D;split at h
  ·rename_i f cap tP;split at h
   next c Y=>obtain⟨Z,eB⟩:=dB f _ Y;exact abM D tP Z eB h
   ·cases h
  ·cases h
 ·rename_i f abY D;split at h
  ·rename_i ps pn;obtain⟨h1,h2⟩:=abN (w0:=w0) (N:=N) _ _ pn
   refine jN.val h λaj ρ a w C=>⟨.func (.func f) #[] (abY.map a.eval),by simp[execOp,D,Instr.makeFunc],_,rfl,by simp[h1],λj p hp=>?_⟩
   obtain⟨b,off,e1,e2⟩:=h2 aj ρ a w C j p hp;exact⟨b,off,e1,by simpa using e2⟩
  ·cases h
 ·rename_i x t D;obtain⟨ot,h1,U⟩:=amS (w0:=w0) (N:=N) (ty:=o.type) h;have run:∀ aj ρ a w,Rl w0 N aj ρ σ a w->∃ w',(execOp a.eval o).run P w = .ok (.value (.tuple #[])) w'/\Rl w0 N aj ρ ot a w':=by
   intro aj ρ a w C;obtain⟨w',L,O⟩:=U aj ρ a w C _ (C.aH x);exact⟨w',abX D λ_=>ia L,O⟩
  unfold gd at h1;split at h1
  ·rename_i E
   refine⟨_,h1,λa w K Q C hK=>?_⟩
   obtain⟨aj,ρ,C⟩:=C;obtain⟨w',L,O⟩:=run aj ρ a w C;unfold Oper.wp;rw[L,Oper.upon_value,E];exact hK _ _ ⟨aj,ρ,O⟩
  ·rename_i d E;cases hN:Nat.blt d N with
   |false=>rw[hN]at h1;cases h1
   | true=>
    rw[hN,cond_true]at h1
    refine⟨_,h1,.mem E λaj ρ a w C=>?_⟩
    obtain⟨w',L,O⟩:=run aj ρ a w C;exact⟨w',aj,ρ,_,L,O.set trivial (by have:=Nat.le_of_ble_eq_true hN;omega)⟩
 ·cases h
def Va{k:S -> ah X}(E:eR P Φ)(h:di P N Φ σ o k=some r):∃ C,k C=some r/\jN P w0 N o σ C:=by
 unfold di at h;cases D:eS o.op with
 | true=>
  rw[D,cond_true]at h;obtain⟨v,L,_,O⟩:=U9 h;exact jN.val L λaj ρ a w T=>O aj ρ a w o rfl T
 | false=>
  rw[D]at h;exact aoX E h
def aoY{k:S->ah X}(Z:eR P Φ)(h:GN P N Φ σ o k=some r):∃ E,k E=some r/\jN P w0 N o σ E:=by
 unfold GN at h;split at h
 ·rename_i t x y L O;split at h
  ·rename_i q s i j hy;obtain⟨E,D,T⟩:=aoG (w0:=w0) (N:=N) h
   refine⟨E,D,.skip O λaj ρ a w C=>?_⟩
   have hv:=C.aH y;rw[hy]at hv;obtain⟨w',ax,U,cW⟩:=T aj ρ a w C _ _ (C.aH x) hv;exact⟨w',ax,by simp only[execOp,L];exact M9 U,cW⟩
  ·exact Va Z h
 ·rename_i t x lo hi mx d L O;obtain⟨D,T⟩:=aoI (w0:=w0) (N:=N) h;cases Y:Nat.blt d N with
  |false=>rw[Y]at D;cases D
  | true=>
   rw[Y,cond_true]at D
   refine⟨_,D,.mem O λaj ρ a w C=>?_⟩
   obtain⟨v,U⟩:=T aj ρ a w C _ _ _ _ (C.aH x) (C.aH lo) (C.aH hi) (C.aH mx);refine⟨w,aj,ρ,v,?_,C.set trivial (by have:=Nat.le_of_ble_eq_true Y;omega)⟩;simp only[execOp,L,Option.map_some];exact ia U
 ·exact Va Z h
/-! What an operation gives hangs on its operands and on the roots that they name. -/
def A.key:A->ah (aa Nat)
 |.lf (.own q)=>some q
 |.view q _ _ _=>some q
 |.ptr (_::_::_::q)=>some q
 |_=>none
def Sm(σ2 σ:S)(x:A):Prop:=∀q,x.key=some q->∀(X:Type) (k:V->ah X),gU σ2.m q k=gU σ.m q k
def Sm.eq{σ2:S}(C:σ2.m=σ.m)(x:A):Sm σ2 σ x:=λq _ X k=>by rw[C]
def Sm.lf{σ2:S}{l:Lf}(h:Sm σ2 σ (.lf l))(k:V->ah X):nj σ2 l k=nj σ l k:=by
 cases l with
 |own q=>exact h q rfl X k
 |_=>rfl
def Sm.bin{σ2:S}{C:BinOp}{t:TypeId}{x y:A}(h:Sm σ2 σ x)(k:A->ah X):xQ P σ2 C t x y k=xQ P σ C t x y k:=by
 unfold xQ;split
 ·rfl
 ·split
  ·exact h.lf _
  ·rfl
 ·rfl
def Sm.conv{σ2:S}{t C:TypeId}{x:A}(h:Sm σ2 σ x)(k:A->ah X):xN P σ2 t C x k=xN P σ t C x k:=by
 unfold xN;split
 ·rfl
 ·exact h.lf _
 ·rfl
def Sm.idx{σ2:S}{t:TypeId}{x i:A}(h:Sm σ2 σ x)(k:A->ah X):xy P σ2 t x i k=xy P σ t x i k:=by
 unfold xy;split
 ·rfl
 ·split
  ·split
   ·rfl
   ·exact h _ rfl _ _
   ·rfl
  ·rfl
def Sm.len{σ2:S}{t:TypeId}{x:A}(h:Sm σ2 σ x)(k:A->ah X):Ag P σ2 t x k=Ag P σ t x k:=by
 cases x with
 |lf l=>exact h.lf _
 |_=>rfl
def Sm.slc{σ2:S}{t:TypeId}{x:A}{lo hi:ah A}(h:Sm σ2 σ x)(k:A->ah X):xT P σ2 t x lo hi k=xT P σ t x lo hi k:=by
 unfold xT An;split
 ·simp only[h _ rfl]
 ·simp only[h _ rfl]
 ·rfl
def Sm.load{σ2:S}{t:TypeId}{x:A}(h:Sm σ2 σ x)(C:∀ r j,x = .aG r j->σ2.m r=σ.m r)(k:A->ah X):mh P σ2 t x k=mh P σ t x k:=by
 unfold mh;split
 ·rfl
 ·split
  ·rw[C _ _ rfl]
  ·rfl
  ·exact h _ rfl _ _
  ·rfl
def abZ{σ2:S}(C:Op)(h:∀ x∈C.operands,aH σ2 x=aH σ x/\Sm σ2 σ (aH σ x))(L:∀ t x,C = .load t x->∀ k:A->ah X,mh P σ2 t (aH σ x) k=mh P σ t (aH σ x) k)(k:A->ah X):kD P σ2 C k=kD P σ C k:=by
 unfold kD;split
 case h_4 t parts=>
  have e:(parts.toList.map λp=>(p.1,aH σ2 p.2))=parts.toList.map λp=>(p.1,aH σ p.2):=List.map_congr_left λp O=>by rw[(h p.2 (by simp only[Op.operands];exact List.mem_toArray.2 (List.mem_map_of_mem (f:=(·.2)) O))).1]
  simp only[C2,e]
 case h_18 t x lo hi=>
  have e:∀ z:ah Operand,(∀ y,z=some y->aH σ2 y=aH σ y)->z.map (aH σ2)=z.map (aH σ):=by
   intro z T;cases z with
   |none=>rfl
   |some z=>exact congrArg some (T z rfl)
  have E:=h x (by simp[Op.operands]);rw[E.1,e lo (λy D=>(h y (by subst D;simp[Op.operands])).1),e hi (λy D=>(h y (by subst D;simp[Op.operands])).1)];exact E.2.slc k
 all_goals simp[Op.operands,Call.operands]at h
 case h_5=>rw[h.1];exact L _ _ rfl k
 case h_6=>rw[h.1.1,h.2.1];exact h.1.2.bin k
 case h_8=>rw[h.1];exact h.2.conv k
 case h_11=>rw[h.1.1,h.2.1];exact h.1.2.idx k
 case h_15=>rw[h.1];exact h.2.len k
 all_goals first|rfl|simp only[h]
def ab0{σ2:S}(C:Op)(D:σ2.m=σ.m)(h:∀ x∈C.operands,aH σ2 x=aH σ x)(k:A->ah X):kD P σ2 C k=kD P σ C k:=
 abZ C (λx E=>⟨h x E,.eq D _⟩) (λt x _ k=>(Sm.eq D _).load (λr _ _=>by rw[D]) k) k
def ab1{σ2:S}(C:σ2.m=σ.m)(q:aa Nat)(s i j:Nat)(k:V->ah X):tJ σ2 q s i j k=tJ σ q s i j k:=by
 simp only[tJ,C]
def ab2{σ2:S}(C:σ2.m=σ.m)(x:Lf)(k:V->ah X):nj σ2 x k=nj σ x k:=(Sm.eq C _).lf k
def aoZ{σ2:S}(C:σ2.m=σ.m)(x:A)(k:V->ah X):qp σ2 x k=qp σ x k:=by
 cases x<;>simp only[qp,ab2 C,ab1 C]
def Vb{σ2:S}(C:σ2.m=σ.m):∀ (xs:aa Lf) (k:aa V->ah X),pg σ2 xs k=pg σ xs k
 |[],k=>rfl
 | x :: xs,k=>by
  simp only[pg,ab2 C,Vb C xs]
def ab3{σ2:S}(C:σ2.m=σ.m)(x:A)(k:Pt->ah X):mq σ2 x k=mq σ x k:=by
 unfold mq;simp only[Vb C,ab1 C]
def Vc{σ2:S}{f:A->(Pt->ah X)->ah X}:∀ (xs:aa Operand) (k:aa Pt->ah X),(∀ x∈xs,aH σ2 x=aH σ x)->tT f σ2 xs k=tT f σ xs k
 |[],k,_=>rfl
 | x :: xs,k,h=>by
  simp only[tT,h x (.head _),Vc xs _ λy C=>h y (.tail _ C)]
def ao0{σ2:S}(C:σ2.m=σ.m)(xs:aa Operand)(k:aa Pt->ah X)(h:∀ x∈xs,aH σ2 x=aH σ x):qt σ2 xs k=qt σ xs k:=by
 unfold qt;rw[show mq σ2=mq σ from funext λx=>funext λk=>ab3 C x k,Vc xs k h]
def ao1{σ2:S}(C:σ2.m=σ.m)(x:A)(k:Pt->ah X):tS σ2 x k=tS σ x k:=by
 unfold tS;simp only[ab3 C,Vb C,C]
def ao2{σ2:S}(C:σ2.m=σ.m)(xs:aa Operand)(k:aa Pt->ah X)(h:∀ x∈xs,aH σ2 x=aH σ x):Ao σ2 xs k=Ao σ xs k:=by
 unfold Ao;rw[show tS σ2=tS σ from funext λx=>funext λk=>ao1 C x k,Vc xs k h]
/-! .. and a root that it does not name is of no account. -/
def GV(n:Nat)(x:aU)(m:Nat->ah aU):Nat->ah aU:=bO (λr=>bif Nat.beq r n then none else (m r).map (aU.drop n)) n (some x)
def ab4{n:Nat}{x:aU}{m:Nat->ah aU}{q:Nat}(h:q≠n):GV n x m q=(m q).map (aU.drop n):=by
 unfold GV;rw[cw _ _ _ h,nc h];rfl
def Na{m m':Nat->ah aU}{p:Nat->Bool}(D:∀ r,p r=false->∀ y,m' r=some (.sl y) ↔ m r=some (.sl y)):∀ (q:aa Nat) (k:V->ah X),mE p q=true->gU m' q k=gU m q k
 |[],_,_=>rfl
 | [r],k,h=>by
  have E:=D r (by simpa [mE,hG]using h);simp only[gU];split
  next y C=>rw[(E y).1 C]
  ·rename_i L;split
   next y C=>exact absurd ((E y).2 C) (L y)
   ·rfl
 |[_,_],_,_=>rfl
 |[j,i,s],k,h=>rfl
 | j :: i :: s :: O :: q,k,h=>by
  simp only[gU];exact Na D (O::q) _ (by simpa [mE,Mc]using h)
def ao3{n:Nat}{q:aa Nat}(h:cB n q=false):mE (λr=>Nat.beq r n) q=true:=by
 unfold mE hG;unfold cB at h;split
 next r C=>rw[C]at h;show (!Nat.beq r n)=true;rw[nc (show r≠n by simpa using h)];rfl
 ·rfl
def aU.GW(n:Nat)(cs:aa Lf):(aU.az cs).drop n = .az (cs.map (Lf.drop n)):=rfl
def ao4{n:Nat}(z:ah aU)(y:V):z.map (aU.drop n)=some (.sl y) ↔ z=some (.sl y):=by
 cases z with
 |none=>simp
 |some z=>cases z<;>simp[aU.drop,aU.cc]
def ab5{n:Nat}{x:aU}{m:Nat->ah aU}{r:Nat}(h:r≠n)(y:V):GV n x m r=some (.sl y) ↔ m r=some (.sl y):=by
 rw[ab4 h];exact ao4 _ y
def GX{p:Nat->Bool}{r n:Nat}(h:p r=false)(C:p n=true):r≠n:=by
 rintro rfl;rw[C]at h;cases h
def ao5{n:Nat}{x:aU}{m:Nat->ah aU}(q:aa Nat)(k:V->ah X)(h:cB n q=false):gU (GV n x m) q k=gU m q k:=
 Na (p:=λr=>Nat.beq r n) (λr C y=>ab5 (GX (p:=λr=>Nat.beq r n) C (Nat.beq_refl n)) y) q k (ao3 h)
def ao6{p:Nat->Bool}{r j n:Nat}(h:(A.aG r j).nr p=true)(C:p n=true):r≠n:=
 GX (by simpa [A.nr,A.fr,tY]using h) C
def ab6{p pb:Nat->Bool}{x:A}{q:aa Nat}(h:x.nK p pb=true)(e:x.key=some q):mE p q=true:=by
 unfold A.key at e;split at e
 ·injection e with e;subst e;exact h
 ·injection e with e;subst e;exact h
 ·rename_i j i s C;injection e with e;subst e;have h:mE p (j :: i :: s :: C)=true:=h;cases C with
  |nil=>rfl
  |cons D q=>simpa [mE,Mc]using h
 ·cases e
def ao7{p pb:Nat->Bool}{t:TypeId}{cs:aa Lf}{y:A}(h:vt P t cs some=some y)(C:y.nK p pb=true):∀ c∈cs,c.nr p=true:=by
 unfold vt at h;split at h
 ·split at h
  ·split at h
   ·injection h with h;subst h;exact List.all_eq_true.1 C
   ·split at h
    ·injection h with h;subst h;intro c D;rw[List.mem_singleton.1 D];exact C
    ·cases h
   ·cases h
  ·cases h
 ·cases h
def A.vX:A->Bool
 |.aG .. |.ptr _|.lf (.own _)=>true
 |_=>false
def A.ao8(x:A)(K:lu):x.cc K=x\/(x.cc K).vX=false:=by
 cases x with
 | lf l=>cases l with
  |own k=>cases h:K.l k<;>simp[A.cc,Lf.cc,h,A.vX]
  |_=>exact .inl rfl
 |ptr k=>cases h:K.p k<;>simp[A.cc,h,A.vX]
 |aG r j=>cases h:K.r r<;>simp[A.cc,h,A.vX]
 |pk r j=>cases h:K.r r<;>simp[A.cc,h,A.vX]
 |view k s i j=>cases h:K.p k<;>simp[A.cc,h,A.vX]
 |fn f cap=>cases h:(cap.any λp=>K.r p.1)<;>simp[A.cc,h,A.vX]
 |_=>exact .inr rfl
structure gK (p pb:Nat->Bool) (σ cy:S):Prop where
 t:∀{g},(σ.t g).nK p pb=true->cy.t g=σ.t g
 sl:∀r,p r=false->∀y,cy.m r=some (.sl y) ↔ σ.m r=some (.sl y)
 az:∀r,p r=false->∀cs,σ.m r=some (.az cs)->∃f:Lf->Lf,cy.m r=some (.az (cs.map f))/\∀l,l.nr p=true->f l=l
 nw:∀g,cy.t g=σ.t g\/(cy.t g).vX=false
def gK.refl{p pb:Nat->Bool}(σ:S):gK p pb σ σ:=
 ⟨λ_=>rfl,λ_ _ _=>.rfl,λ_ _ cs h=>⟨id,by rw[List.map_id];exact h,λ_ _=>rfl⟩,λ_=>.inl rfl⟩
def gK.trans{p pb:Nat->Bool}{σ E L:S}(h:gK p pb σ E)(D:gK p pb E L):gK p pb σ L:=by
 refine⟨λ{g} O=>?_,λr C y=>(D.sl r C y).trans (h.sl r C y),λr C cs Y=>?_,λg=>?_⟩
 ·have e:=h.t O;rw[D.t (by rw[e];exact O),e]
 ·obtain⟨f,Z,h2⟩:=h.az r C cs Y;obtain⟨T,h3,h4⟩:=D.az r C _ Z;exact⟨T ∘ f,by rw[<-List.map_map];exact h3,λl U=>by show T (f l)=l;rw[h2 l U,h4 l U]⟩
 ·rcases D.nw g with e | e
  ·rw[e];exact h.nw g
  ·exact .inr e
def gK.root{p pb:Nat->Bool}{σ D:S}(n:Nat)(x:aU)(C:p n=true)(L:pb n=true)(h:gK p pb σ D):gK p pb σ ((D.drop n).root n x):=by
 refine h.trans ⟨λO=>A.Dl O C L,λr E y=>ab5 (GX E C) y,λr E cs T=>⟨Lf.drop n,?_,λl U=>Lf.yf U C⟩,λg=>A.ao8 _ _⟩
 show GV n x D.m r=_;rw[ab4 (GX E C),T];rfl
def gK.rt{p pb:Nat->Bool}{σ D:S}(n:Nat)(x:aU)(E:p n=true)(h:gK p pb σ D):gK p pb σ (D.root n x):=by
 have e:∀r,p r=false->(D.root n x).m r=D.m r:=λr C=>cw _ _ _ (GX C E)
 exact h.trans ⟨λ_=>rfl,λr C y=>by rw[e r C],λr C cs L=>⟨id,by rw[e r C,List.map_id];exact L,λ_ _=>rfl⟩,λ_=>.inl rfl⟩
end
end Go.Proofs.YtnilicojgkhpnaaGreat
