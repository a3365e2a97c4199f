/-
  Running the program over pure contents, and that it follows (part 3). Nothing here is a claim.
-/
import Derived.Lib.AppendStr
import Derived.MapKept
import Derived.Test.YtnilicojgkhpnaaGreatV2
set_option linter.unusedSimpArgs false
namespace Go.Proofs.YtnilicojgkhpnaaGreat
set_option linter.defProp false
open Go.RowKit
set_option linter.unusedVariables false
def dT:Nat:=89999
def pS(aj:bG)(k:aa Nat):bG:=λb=>match aj b with
 |some q=>bif k.isSuffixOf q then some (q.take (q.length-k.length)++[dT])else bif cU dT q then none else some q
 |none=>none
def VD(σ:S)(c:nW)(args:aa Operand)(q:Nat):Bool:=match mX σ c.ps args with
 |some C=>!dG q ((nX 0 C).map (·.1))&&C.any λD=>Nat.beq D.root dT
 |none=>false
def HI{X:Type}(N:Nat)(σ:S)(E:ah Tmp)(c:nW)(args:aa Operand)(k:S->ah X):ah X:=
 match args with
 | .tmp t :: _=>(match σ.t t with
  | .lf (.own [j,i,s,q])=>(match σ.m q with
   | some (.sl (.sl C (o+2) L l))=>if s=aD C then (if hi:i<l.length then (match (enc C o l[i])[j]? with
    | some y=>bif Nat.ble N 20000&&Nat.ble 20000 q&&Nat.blt q 60000&&VD ((σ.eV [q,dT] [dT] [(dT,.sl y)]).set t (.lf (.own [dT]))) c args q then rW N ((σ.eV [q,dT] [dT] [(dT,.sl y)]).set t (.lf (.own [dT]))) E c args λD=>(match D.m dT with
      | some (.sl O)=>(match dec C o (splice (enc C o l[i]) j [O])with
       |some e=>k ((D.drop dT).root q (.sl (.sl C (o+2) L (l.set i e))))
       |none=>none)
      |_=>none)else none
    |none=>none)else none)else none
   |_=>none)
  |_=>none)
 |_=>none
section
variable {P:Program} {w w':World} {w0:Wd} {B N:Nat} {aj dI aA:bG} {ρ eU ρ':Nat->Loc} {σ:S} {a:Act} {X:Type} {d:Nat} {r:X} {o:Oper} {K:aa Nat} {m:Nat->ah bg}
def NR{b:Nat}(h:aj b=none):pS aj K b=none:=by simp[pS,h]
def aoD{b:Nat}{p:aa Nat}(h:aj b=some (p++K)):pS aj K b=some (p++[dT]):=by
 have C:K.isSuffixOf _=true:=List.isSuffixOf_iff_suffix.2 ⟨p,rfl⟩;simp[pS,h,C]
def VE{b:Nat}{k:aa Nat}(h:aj b=some k)(C:¬ K <:+ k)(D:cU dT k=false):pS aj K b=some k:=by
 have C:K.isSuffixOf k=false:=by
  grind
 simp[pS,h,C,D]
def RV.cut{k:aa Nat}{x:V}{v:Value}(h:RV w B aj k x v)(p:aa Nat)(D:k=p++K\/x.aF=true):RV w B (pS aj K) (p++[dT]) x v:=
 h.map (Q:=λk C=>∃ p,k=p++K/\C=p++[dT]) (dM _) (λb _ h=>⟨rfl,NR h⟩) (λb k C _ E e=>by
  obtain⟨p,rfl,rfl⟩:=e;exact⟨rfl,aoD E,λj i s=>⟨j::i::s::p,rfl,rfl⟩⟩) (D.symm.imp_right λh=>⟨p,h,rfl⟩)
def RV.aoE{k:aa Nat}{x:V}{v:Value}(h:RV w B aj k x v)(O:∀ b,aj b≠some [])(T:((∀ p,¬ K <:+ p++k)/\cU dT k=false)\/x.aF=true):RV w B (pS aj K) k x v:=
 h.map (Q:=λk C=>k=C/\(∀ p,¬ K <:+ p++k)/\cU dT k=false) (dM _) (λb _ h=>⟨rfl,NR h⟩) (λb k C _ D e=>by
  obtain⟨rfl,E,L⟩:=e
  refine⟨rfl,VE D (E []) L,λj i s=>⟨rfl,λp=>?_,?_⟩⟩
  ·have:=E (p++[j,i,s])
   rwa [List.append_assoc]at this
  ·rw[Nm (by rintro rfl;exact O b D)];exact L) (T.symm.imp_right λh=>⟨rfl,h⟩)
def Rl.aoF{t:Nat}{x:A}(h:Rl w0 N aj ρ σ a w)(D:RA w w0.heap.size aj ρ x (a.tmps.getD t undef)):Rl w0 N aj ρ (σ.set t x) a w:=by
 refine⟨h.below,h.dg,h.root,λk=>?_,h.size,h.defers,h.fix,h.dz⟩
 show RA w _ aj ρ (cc σ.t t x k) _;by_cases C:k=t
 ·subst C;rw[cm];exact D
 ·rw[cM _ _ _ C];exact h.tmp k
def Rl.aoG{q:Nat}{x:bg}(h:Rl w0 N aj ρ σ a w)(E:dY w w0.heap.size aj ρ q x):Rl w0 N aj ρ (σ.root q x) a w:=by
 refine⟨h.below,h.dg,λr y C=>?_,h.tmp,h.size,h.defers,h.fix,h.dz⟩
 have C:cc σ.m q _ r=some y:=C;by_cases D:r=q
 ·subst D;rw[cm]at C;simp_all
 ·rw[cM _ _ _ D]at C;exact h.root r y C
def ja.aoH(h:Rl w0 N aj ρ σ a w):ja w0 w w:=⟨rfl,rfl,rfl,dM _,λ_ _ _=>rfl⟩
def aoI{f:Nat}{args:Array Operand}{kQ:Array TypeId}{c:nW}{k:S -> ah X}(ho:o.op = .call { callee:=.value (.func f),args,argTypes:=kQ })(he:enters P f)(hc:tu P f c)(h:HI N σ o.dst c args.toList k=some r):∃ cS,k cS=some r/\lA P w0 N o σ cS:=by
 unfold HI at h;split at h
 ·rename_i t rest lE;split at h
  ·rename_i j i s q ht;split at h
   ·rename_i E oo qn l hm;split at h
    ·rename_i hs;subst hs;split at h
     ·rename_i hi;split at h
      ·rename_i y hy;generalize aoJ:((σ.eV [q,dT] [dT] [(dT,.sl y)]).set t (.lf (.own [dT])))=pT at h;cases hb:(Nat.ble N 20000&&Nat.ble 20000 q&&Nat.blt q 60000&&VD pT c args.toList q)with
       |false=>rw[hb]at h;cases h
       | true=>
        rw[hb,au]at h;simp only[aN]at hb;obtain⟨⟨⟨hN,DZ⟩,Bk⟩,NS⟩:=hb;have hN:=cQ hN;have DZ:=cQ DZ;have Bk:q<60000:=cQ Bk;obtain⟨τ,VC,cn,Z,zy,oM,HG,Hp⟩:=Vz (w0:=w0) ho he hc h;clear h;unfold VD at NS;rw[zy]at NS;simp only[aN,hU]at NS;obtain⟨G0,hdT⟩:=NS;obtain⟨mu,jw,VF⟩:=List.any_eq_true.1 hdT;have VF:=cD VF;have aoK:dG dT cn=false:=by rw[<- VF];exact HG mu jw
        have aoL:dG q cn=false:=by
         cases D:dG q cn with
         |false=>rfl
         |true=>have:=oM q D;omega
        have VG:q≠dT:=by unfold dT;omega
        split at Z
        ·rename_i y' Hf;split at Z
         ·rename_i e VH
          refine⟨_,Z,λa w KK Q T hK=>?_⟩
          obtain⟨aj,ρ,T⟩:=T;have dc:=T.wT;have aoM:w0.F dT=none:=T.dz dT (.inr (by decide));have eE:=T.root q _ hm;generalize D:bg.sl (.sl E (oo+2) qn l)=x at eE;cases eE with
          |aC=>cases D
          |mp=>cases D
          |gh=>cases D
          | sl v yq cz hr=>
           injection D with D;subst D;cases hr with
           |ep=>simp at hi
           |fA=>simp at hi
           |fK=>simp at hi
           |aF _ _ _ _ _ _ _ _ _ ho=>omega
           | own _ _ _ _ _ b cap cs u hl hh hs hn rK hcc mS=>
            have hKv:wM σ.m [j,i,aD E,q] y:=.elem j i [q] E oo qn l y (.root q _ hm) hi hy;obtain⟨u0,qC,aoN⟩:=hKv.ok T.root;have w7:=T.tmp t;rw[ht]at w7;have ic:a.tmps.getD t undef=u0:=by
             have h2:=w7.2;rw[qC]at h2;injection h2 with h2;exact h2.symm
            have aoO:u0=u i j:=by
             have h3:c8 w aj ρ [j,i,aD E,q]=some (u i j):=by
              rw[Nd,A9 j i _ (show c8 w aj ρ [q]=some (.slice (some ⟨b,0,none⟩) l.length cap) by simp[c8,cz]) hl];show w.cell? _=_;rw[cell_of_row w b _ cs _ _ hh];simp[*]
             rw[qC]at h3;injection h3
            have fW:mP u0=true:=by rw[<- ic];exact w7.1
            -- the state that the callee's caller sees
            have Vf:∀ k:aa Nat,gq k [q,dT]=false -> cU q k=false/\cU dT k=false:=by
             intro k Z;unfold gq at Z;unfold cU;split at Z
             next z U=>rw[U];have:=ab5 Z;simp only[gW,List.not_mem_nil,not_or]at this;exact⟨by simpa using this.1,by simpa using this.2⟩
             next U=>rw[U];exact⟨rfl,rfl⟩
            have hKq:∀ k:aa Nat,[j,i,aD E,q] <:+ k -> cU q k=true:=by
             rintro k ⟨p,rfl⟩;simp[cU]
            have UR:tv w w aj (pS aj [j,i,aD E,q]) ρ (cc ρ dT (.dX u0)) [q,dT] [dT]:=by
             refine⟨dM _,λL wX C=>⟨rfl,?_⟩,λn hn=>?_,λL k C=>(T.dg L k C).2⟩
             ·cases O:aj L with
              |none=>exact NR O
              | some k=>
               obtain⟨g1,g2⟩:=Vf k (C k O);exact VE O (λoE=>by rw[hKq k oE]at g1;cases g1) g2
             ·refine cM _ _ _ ?_;rintro rfl;simp[dG]at hn
            have vh:∀ L k,pS aj [j,i,aD E,q] L=some k -> (∃ Y,aj L=some Y)/\k≠[]:=by
             intro L k C;cases O:aj L with
             |none=>rw[NR O]at C;cases C
             | some Y=>
              refine⟨⟨Y,rfl⟩,?_⟩;unfold pS at C;rw[O]at C;simp only at C;cases h1:List.isSuffixOf [j,i,aD E,q] Y with
              | true=>
               rw[h1,au]at C;injection C with C;rw[<- C];simp
              | false=>
               rw[h1,aq]at C;cases h2:cU dT Y with
               |true=>rw[h2,au]at C;cases C
               | false=>
                rw[h2,aq]at C;injection C with C;rw[<- C];exact(T.dg L Y O).2.2
            have vr:Rl w0 N (pS aj [j,i,aD E,q]) (cc ρ dT (.dX u0)) (σ.eV [q,dT] [dT] [(dT,.sl y)]) a w:=by
             refine T.tw UR (ja.aoH T) (λL k C=>?_) (λn hn=>?_) (λn z U=>?_)
             ·obtain⟨⟨Y,O⟩,NT⟩:=vh L k C;have:=T.dg L Y O;exact⟨this.1,this.2.1,NT⟩
             ·have:n=dT:=by simpa [dG]using hn
              rw[this];exact aoM
             ·have hn:n=dT/\z = .sl y:=by
               rw[List.lookup_cons]at U;cases Ee:(n==dT)with
               |false=>rw[Ee]at U;cases U
               | true=>
                rw[Ee]at U;injection U with U;exact⟨by simpa using Ee,U.symm⟩
              obtain⟨rfl,rfl⟩:=hn;exact .sl u0 y (cm _ _ _) (aoN.cut [] (.inl rfl))
            have oQ:Rl w0 N (pS aj [j,i,aD E,q]) (cc ρ dT (.dX u0)) pT a w:=by
             rw[<- aoJ];refine vr.aoF ?_;rw[ic];exact⟨fW,by simp only[c8,cm]⟩
            refine Hp a w KK Q _ _ oQ λvv w' dI eU rY HH w6 kz xj=>?_
            -- behind the call
            have xb:90000 <= iL o.dst:=by unfold iL;split<;>omega
            have aoP:rY dT = .dX u0:=by
             rw[xj dT (by unfold dT;omega),w6.eT dT aoK,cm]
            have aoQ:rY q = .dX (.slice (some ⟨b,0,none⟩) l.length cap):=by
             rw[xj q (by omega),w6.eT q aoL,cM _ _ _ VG,cz]
            have eE:=HH.root dT _ Hf;generalize D:bg.sl y'=x at eE;cases eE with
            |aC=>cases D
            |mp=>cases D
            |gh=>cases D
            | sl v' y'' gK fl=>
             injection D with D;subst D;rw[aoP]at gK;injection gK with gK;subst gK;have VI:=HH.wT;have hrel:Rel dT dI (dI.gP dT [j,i,aD E,q]):=GX VI;have acs:cU dT [q]=false:=by simpa [cU]using λe=>VG e
             have Ed:pS aj [j,i,aD E,q] b=some [q]:=VE hl (λoE=>by have:=oE.length_le;simp at this) acs;have aoR:gq [q] ((nX 0 VC).map (·.1))=false:=G0;obtain⟨g1,g2⟩:=w6.same b (w6.aj b _ Ed).1 (λk C=>by rw[Ed]at C;injection C with C;subst C;exact aoR);have aoS:dI b=some [q]:=g2.trans Ed;have aoT:dI.gP dT [j,i,aD E,q] b=some [q]:=hrel.lu b _ aoS acs;have hR4:=HH.rel hrel (λL k C=>by
              unfold bG.gP at C;cases O:dI L with
              |none=>rw[O]at C;cases C
              | some Y=>
               rw[O]at C;injection C with C;subst C;exact⟨⟨Y,rfl⟩,abx (by simp) (λe=>VI L (by rw[O,e]))⟩)
             refine hK _ _ ⟨_,rY,hR4.aoG (.sl _ _ aoQ ?_)⟩;have hj:j<aD E:=by
              have:=(dQ.1 hy).1
              rwa [ko]at this
             refine RV.Ni (w':=w') (cs:=cs) (xs:=[y']) (u:=u) (us:=u) aoT (g1.trans hh) hs hn rK hi (show j+1 <= aD E from hj) VH (λi' rZ j' x D hij=>⟨hcc i' rZ j' x D,?_⟩) (λn x D=>?_)
             ·have wU:=mS i' rZ j' x D;have aoU:¬ (i'=i/\j'=j):=λe=>hij ⟨e.1,by simp;omega⟩
              have acu:cU dT [j',i',aD E,q]=false:=by simpa [cU]using λe=>VG e
              have a1:=wU.aoE (K:=[j,i,aD E,q]) dc (.inl ⟨λp oE=>?_,acu⟩)
              ·have a2:=a1.tw w6 (.inl (by simpa [gq]using G0));exact a2.rel hrel (.inl acu)
              ·have e1:[j,i,aD E,q]=[j',i',aD E,q]:=Uo oE ⟨p,rfl⟩ rfl;injection e1 with e1 e2;injection e2 with e2 e3;exact aoU ⟨e2.symm,e1.symm⟩
             ·cases n with
              | zero=>
               simp only[List.getElem?_cons_zero,iu]at D;subst D;refine⟨hcc i hi j y hy,?_⟩;have:=fl.gP (q:=dT) (nk:=[j,i,aD E,q]) VI;rw[abw,aoO]at this;exact this
              |succ n=>simp at D
         ·cases Z
        ·cases Z
      ·cases h
     ·cases h
    ·cases h
   ·cases h
  ·cases h
 ·cases h
def aoV{C:ah Tmp}{c:nW}{args:aa Operand}(D:∀ σ,cL λX k=>rW (X:=X) N σ C c args k):cL λX k=>HI (X:=X) N σ C c args k:=λX Y k g=>by
 unfold HI
 repeat' first|rfl|refine dj ((D _ _ _ _ _).trans (aY _ (funext λE=>?_))) rfl|split
def xk:∀ (q:aa Nat),cL λX k=>jb (X:=X) m q k
 |[]=>λ_ _ _ _=>rfl
 | [x]=>λX Y k g=>by
  simp only[jb]
  repeat' first|rfl|refine dj ?_ ?_|split
 |[_,_]=>λ_ _ _ _=>rfl
 | j :: i :: s :: q=>λX Y k g=>by
  simp only[jb]
  refine(xk q _ _ _ _).trans (aY _ (funext λy=>?_))
  repeat' first|rfl|split
  all_goals simp_all
def Ef{x:Lf}:cL λX k=>oG (X:=X) σ x k:=by
 cases x with
 |own q=>exact xk q
 |_=>exact λ_ _ _ _=>rfl
def acv{q:aa Nat}{s i j:Nat}:cL λX k=>va (X:=X) σ q s i j k:=λX Y k g=>by
 refine(xk q _ _ _ _).trans (aY _ (funext λy=>?_))
 repeat' first|rfl|refine dj ?_ ?_|split
def VJ{x:A}:cL λX k=>rN (X:=X) σ x k:=by
 cases x with
 |lf l=>exact Ef
 |view=>exact acv
 |_=>exact λ_ _ _ _=>rfl
def VK{x:A}:cL λX k=>vK (X:=X) x k:=λX Y k g=>by
 unfold vK
 repeat' first|rfl|refine dj ?_ ?_|split
def aoW{ty:TypeId}{C:BinOp}{x y:V}:cL λX k=>GP (X:=X) P ty C x y k:=λX Y k g=>by
 unfold GP
 repeat' first|rfl|refine dj ?_ ?_|split
def aoX{C:BinOp}{t:TypeId}{x y:A}:cL λX k=>zc (X:=X) P σ C t x y k:=λX Y k g=>by
 unfold zc;split
 ·repeat' first|rfl|refine dj ?_ ?_|split
 ·split
  ·refine(Ef _ _ _ _).trans (aY _ (funext λz=>?_))
   repeat' first|rfl|refine dj ?_ ?_|split
  ·rfl
 ·exact(VK.comp λa=>VK.comp λb=>aoW.comp (b:=λX k z=>k (.lf (.v z))) λz _ _ _ _=>rfl) X Y k g
def aoY{C:UnOp}{x:V}:cL λX k=>GQ (X:=X) C x k:=λX Y k g=>by
 unfold GQ
 repeat' first|rfl|refine dj ?_ ?_|split
def NU{t:TypeId}{cs:aa Lf}:cL λX k=>wR (X:=X) P t cs k:=λX Y k g=>by
 unfold wR
 repeat' first|rfl|refine dj ?_ ?_|split
def acw{t:TypeId}{x:A}:cL λX k=>nP (X:=X) P σ t x k:=λX Y k g=>by
 unfold nP;split
 ·rfl
 ·split
  ·split
   ·exact NU _ _ _ _
   ·rfl
  ·exact NU _ _ _ _
  ·refine(xk _ _ _ _ _).trans (aY _ (funext λz=>?_))
   repeat' first|rfl|exact NU _ _ _ _|split
  ·rfl
def aoZ{s:TypeId}{x:A}{f:Nat}:cL λX k=>DT (X:=X) P s x f k:=λX Y k g=>by
 unfold DT
 repeat' first|rfl|refine dj ?_ ?_|split
def ao0{t:TypeId}{x i:A}:cL λX k=>yQ (X:=X) P σ t x i k:=λX Y k g=>by
 unfold yQ;split
 ·rfl
 ·split
  ·split
   ·repeat' first|rfl|refine dj ?_ ?_|split
   ·refine(xk _ _ _ _ _).trans (aY _ (funext λz=>?_))
    repeat' first|rfl|refine dj ?_ ?_|split
   ·rfl
  ·rfl
def ao1{t:TypeId}{x:A}:cL λX k=>Bf (X:=X) P σ t x k:=λX Y k g=>by
 unfold Bf;split
 ·refine(Ef _ _ _ _).trans (aY _ (funext λz=>?_))
  repeat' first|rfl|refine dj ?_ ?_|split
 ·repeat' first|rfl|refine dj ?_ ?_|split
 ·rfl
def ao2{x:A}{i:Nat}:cL λX k=>Bg (X:=X) x i k:=λX Y k g=>by
 unfold Bg
 repeat' first|rfl|refine dj ?_ ?_|split
def ao3{t:TypeId}{parts:aa (Nat×Operand)}:cL λX k=>D0 (X:=X) P σ t parts k:=λX Y k g=>by
 unfold D0
 repeat' first|rfl|refine dj ?_ ?_|split
def ao4{s:TypeId}{x:A}{f:Nat}:cL λX k=>G9 (X:=X) P s x f k:=λX Y k g=>by
 unfold G9
 repeat' first|rfl|refine dj ?_ ?_|split
def acy{C:Bool}{x y:A}:cL λX k=>D1 (X:=X) C x y k:=λX Y k g=>by
 unfold D1
 repeat' first|rfl|refine dj ?_ ?_|split
def ao5{t:TypeId}{x i:A}:cL λX k=>He (X:=X) P t x i k:=λX Y k g=>by
 unfold He
 repeat' first|rfl|refine dj ?_ ?_|split
def ao6{C D:TypeId}{x:A}:cL λX k=>yZ (X:=X) P σ C D x k:=λX Y k g=>by
 unfold yZ;split
 ·repeat' first|rfl|refine dj ?_ ?_|split
 ·refine(Ef _ _ _ _).trans (aY _ (funext λz=>?_))
  unfold NB
  repeat' first|rfl|refine dj ?_ ?_|split
 ·rfl
def Eg{x:ah A}{d:Int}:cL λX k=>s9 (X:=X) x d k:=λX Y k g=>by
 unfold s9
 repeat' first|rfl|refine dj ?_ ?_|split
def acz{t:TypeId}{q:aa Nat}{C:ah Nat}{lo hi:ah A}:cL λX k=>Bm (X:=X) P σ t q C lo hi k:=λX Y k g=>by
 unfold Bm;split
 ·split
  ·refine(xk _ _ _ _ _).trans (aY _ (funext λz=>?_))
   unfold D6;split
   ·split
    ·refine(Eg _ _ _ _).trans (aY _ (funext λ_=>(Eg _ _ _ _).trans (aY _ (funext λ_=>?_))))
     repeat' first|rfl|refine dj ?_ ?_|split
    ·rfl
   ·rfl
  ·rfl
 ·rfl
def ao7{t:TypeId}{x:A}{lo hi:ah A}:cL λX k=>zf (X:=X) P σ t x lo hi k:=λX Y k g=>by
 unfold zf;split
 ·exact acz _ _ _ _
 ·exact acz _ _ _ _
 ·unfold wZ;split
  ·split
   ·refine(Eg _ _ _ _).trans (aY _ (funext λ_=>(Eg _ _ _ _).trans (aY _ (funext λ_=>?_))))
    repeat' first|rfl|refine dj ?_ ?_|split
   ·rfl
  ·split
   ·split
    ·split
     ·refine dj ((Eg _ _ _ _).trans (aY _ (funext λ_=>(Eg _ _ _ _).trans (aY _ (funext λ_=>?_))))) rfl
      repeat' first|rfl|refine dj ?_ ?_|split
     ·rfl
    ·rfl
   ·rfl
  ·rfl
def xl{C:ah Tmp}{x:A}:cL λX k=>gX (X:=X) N σ C x k:=λX Y k g=>by
 unfold gX
 repeat' first|rfl|refine dj ?_ ?_|split
def NV{x:bg}{y:A}:cL λX k=>g9 (X:=X) N σ d x y k:=λX Y k g=>dj rfl rfl
def Eh{x:bg}{y:A}{k:S -> ah X}(h:g9 N σ d x y k=some r):k (((σ.drop d).root d x).set d y)=some r/\lW (λX k=>g9 (X:=X) N σ d x y k) (((σ.drop d).root d x).set d y):=by
 unfold g9 at h;cases C:Nat.blt d N with
 |false=>simp_all
 |true=>rw[C]at h;exact⟨h,λX k=>by simp[g9,C,au]⟩
def ao8{e:TypeId}{k:S -> ah X}(h:qD P N σ d e k=some r):∃ x y,k (((σ.drop d).root d x).set d y)=some r/\y = .aJ d 0/\(∀ (C:S),lW (λX k=>qD (X:=X) P N C d e k) (((C.drop d).root d x).set d y)):=by
 unfold qD at h;split at h
 ·rename_i z D;obtain⟨E,_⟩:=Eh h
  refine⟨_,_,E,rfl,λC X k=>?_⟩
  obtain⟨L,_⟩:=oH h;have O:Nat.blt d N=true:=js L;simp[qD,D,g9,O,au]
 ·cases h
def acA{t:TypeId}{l c:A}{k:S -> ah X}(h:yU P N σ d t l c k=some r):∃ y,k (((σ.drop d).root d (.sl y)).set d (.lf (.own [d])))=some r/\(∀ (C:S),lW (λX k=>yU (X:=X) P N C d t l c k) (((C.drop d).root d (.sl y)).set d (.lf (.own [d])))):=by
 unfold yU at h;split at h
 ·rename_i e Y Z n kc c D;split at h
  ·cases h
  ·rename_i z E;split at h
   ·rename_i L;obtain⟨O,_⟩:=Eh h
    refine⟨_,O,λC X k=>?_⟩
    obtain⟨T,_⟩:=oH h;have U:Nat.blt d N=true:=js T;simp[yU,D,E,bL L,g9,U,au]
   ·cases h
 ·cases h
def acB{t:TypeId}{len:Nat}{parts:aa (Nat×Operand)}{k:S -> ah X}(h:yY P N σ d t len parts k=some r):∃ y,k (((σ.drop d).root d (.sl y)).set d (.lf (.own [d])))=some r /\
  (∀(C:S),(∀p∈parts,aK C p.2=aK σ p.2) -> lW (λX k=>yY (X:=X) P N C d t len parts k) (((C.drop d).root d (.sl y)).set d (.lf (.own [d])))):=by
 unfold yY at h;split at h
 ·rename_i e D L;split at h
  ·rename_i z O;cases E:(Nat.beq (full D) 0&&Nat.beq z.cells.size (aD D)&&Nat.blt (len*aD D) 16777217)with
   |false=>simp_all
   | true=>
    rw[E,au]at h;split at h
    ·rename_i cs T;split at h
     ·rename_i vs U;split at h
      ·rename_i l Y;obtain⟨Z,_⟩:=Eh h
       refine⟨_,Z,λC hσ X k=>?_⟩
       obtain⟨hN,_⟩:=oH h;have gJ:Nat.blt d N=true:=js hN;have e:(parts.map λp=>(p.1,aK C p.2))=parts.map λp=>(p.1,aK σ p.2):=List.map_congr_left λp hp=>by rw[hσ p hp]
       simp[yY,L,O,E,au,e,T,U,Y,g9,gJ]
      ·cases h
     ·cases h
    ·cases h
  ·cases h
 ·cases h
def ao9{t:TypeId}{x y:A}:cL λX k=>sY (X:=X) P N σ d t x y k:=λX Y k g=>by
 unfold sY;split
 ·refine dj ((VJ _ _ _ _).trans (aY _ (funext λC=>?_))) rfl
  repeat' first|rfl|exact NV _ _ _ _|refine dj ?_ ?_|split
 ·rfl
def acC:∀ (q:aa Nat) (y:V),cL λX k=>wS (X:=X) m q y k
 |[],_=>λ_ _ _ _=>rfl
 | [x],y=>λX Y k g=>by
  simp only[wS]
  repeat' first|rfl|refine dj ?_ ?_|split
 |[_,_],_=>λ_ _ _ _=>rfl
 | j :: i :: s :: q,y=>λX Y k g=>by
  simp only[wS]
  refine(xk q _ _ _ _).trans (aY _ (funext λz=>?_))
  repeat' first|rfl|exact acC q _ _ _ _ _|split
def acD{t:TypeId}{x y:A}:cL λX k=>pN (X:=X) P σ t x y k:=λX Y k g=>by
 unfold pN;split
 ·split
  ·split
   ·repeat' first|rfl|refine dj ?_ ?_|split
   ·split
    ·rfl
    ·refine(xk _ _ _ _ _).trans (aY _ (funext λz=>?_))
     repeat' first|rfl|exact acC _ _ _ _ _ _|refine dj ?_ ?_|split
   ·rfl
  ·rfl
 ·rfl
def VL:∀ (xs:aa Lf),cL λX k=>qI (X:=X) σ xs k
 |[]=>λ_ _ _ _=>rfl
 |x::xs=>Ef.comp λy=>(VL xs).comp (b:=λX k ys=>k (y.gn::ys)) λ_ _ _ _ _=>rfl
def acE{x:A}:cL λX k=>nS (X:=X) σ x k:=λX Y k g=>by
 unfold nS
 repeat' first|rfl|exact VL _ _ _ _ _|exact acv _ _ _ _|split
def apa{x:A}:cL λX k=>vk (X:=X) σ x k:=λX Y k g=>by
 unfold vk
 repeat' first|rfl|exact acE _ _ _ _|refine(VL _ _ _ _ _).trans (aY _ (funext λz=>?_))|split
def VM{f:(X:Type)->A->(Pt->ah X)->ah X}(C:∀ x,cL λX k=>f X x k):∀ (xs:aa Operand),cL λX k=>vm (f X) σ xs k
 |[]=>λ_ _ _ _=>rfl
 |x::xs=>(C _).comp λp=>(VM C xs).comp (b:=λX k ps=>k (p::ps)) λ_ _ _ _ _=>rfl
def Ei{xs:aa Operand}:cL λX k=>rP (X:=X) σ xs k:=VM (λ_=>acE) xs
def acF{xs:aa Operand}:cL λX k=>Bn (X:=X) σ xs k:=VM (λ_=>apa) xs
def NW{C:fR}:cL λX k=>nU (X:=X) σ d C k:=λX Y k g=>by
 unfold nU
 repeat' first|rfl|refine dj ?_ ?_|split
def acG{f:Nat}{c:iK}(C:ig P f c){ev:(X:Type)->(aa Pt->ah X)->ah X}(D:cL ev):cL λX k=>rR (X:=X) N σ d c (ev X) k:=λX Y k g=>
 dj ((D.comp λps=>(C.1 ps).comp λE=>NW) X Y k g) rfl
def NX{f:Nat}{c:iK}(Y:ig P f c){ev:(X:Type)->(aa Pt->ah X)->ah X}(Z:cL ev){k:S->ah X}(h:rR N σ d c (ev X) k=some r):∃ C D,nU σ d C some=some D/\k D=some r/\
  ∀E O (L:(X:Type)->(aa Pt->ah X)->ah X),(∀(X:Type) (k:aa Pt->ah X),L X k=ev X k)->nU E d C some=some O->lW (λX k=>rR (X:=X) N E d c (L X) k) O:=by
 unfold rR at h;cases T:Nat.blt d N with
 |false=>rw[T]at h;cases h
 | true=>
  rw[T,au]at h;obtain⟨ps,h2,hd⟩:=Z.mT h;obtain⟨C,h3,U3⟩:=(Y.1 ps).mT h2;obtain⟨D,h4,hd3⟩:=NW.mT h3
  refine⟨C,D,hd3 _ _,h4,λE O L ha ij X k=>?_⟩
  obtain⟨τ2,U,hd4⟩:=NW.mT ij;injection U with U;subst U;show rR N E d c (L X) k=_;unfold rR;rw[T,au,ha,hd X];exact(U3 X _).trans (hd4 X k)
/-! Keys that do not end in certain names. -/
def n5(p:Nat->Bool)(k:aa Nat):Bool:=!jj p k
def vt(p pb:Nat->Bool):mR:=⟨jj p,jj p,pb⟩
def Lf.nr(p:Nat->Bool):Lf->Bool:=Lf.fr (jj p)
def A.nr(p:Nat->Bool):A->Bool:=A.fr (vt p p)
def HJ{p:Nat->Bool}{n:Nat}(C:p n=true)(k:aa Nat)(h:cU n k=true):jj p k=true:=by
 unfold jj;rw[show k.getLast?=some n by simpa [cU]using h];exact C
def acH{p:Nat->Bool}{k:aa Nat}{n:Nat}(h:n5 p k=true)(C:p n=true):cU n k=false:=by
 cases D:cU n k with
 |false=>rfl
 |true=>unfold n5 at h;rw[HJ C k D]at h;cases h
def apb{p:Nat->Bool}{n:Nat}(C:p n=true)(r:Nat)(h:Nat.beq r n=true):p r=true:=by rw[cD h];exact C
def Lf.zz{p:Nat->Bool}{x:Lf}{n:Nat}(h:x.nr p=true)(C:p n=true):x.drop n=x:=Lf.qy (Lf.uW (HJ C) h)
def qz.zz{p:Nat->Bool}{xs:aa Lf}{n:Nat}(h:xs.all (Lf.nr p)=true)(C:p n=true):xs.map (Lf.drop n)=xs:=qz.qy (cw.2 λc D=>Lf.uW (HJ C) (cw.1 h c D))
def A.Ej{p pb:Nat->Bool}{x:A}{n:Nat}(h:x.fr (vt p pb)=true)(C:p n=true)(D:pb n=true):x.drop n=x:=A.qy (A.uW (K:=wN n) (J:=vt p pb) (HJ C) (HJ C) (apb D) h)
def A.zz{p:Nat->Bool}{x:A}{n:Nat}(h:x.nr p=true)(C:p n=true):x.drop n=x:=A.Ej h C C
def S.ext'{σ C:S}(D:∀ k,σ.t k=C.t k)(E:∀ r,σ.m r=C.m r):σ=C:=by
 cases σ;cases C;simp
 grind
def S.set_set{e d:Nat}(h:e≠d)(v u:A):(σ.set d v).set e u=(σ.set e u).set d v:=by
 refine S.ext' (λk=>?_) λ_=>rfl
 show cc (cc σ.t d v) e u k=cc (cc σ.t e u) d v k;by_cases C:k=e
 ·subst C;rw[cm,cM _ _ _ h,cm]
 ·by_cases D:k=d
  ·subst D;rw[cM _ _ _ C,cm,cm]
  ·rw[cM _ _ _ C,cM _ _ _ D,cM _ _ _ D,cM _ _ _ C]
def S.drop_set(n:Nat){v:A}(C:v.drop n=v):(σ.set d v).drop n=(σ.drop n).set d v:=by
 refine S.ext' (λk=>?_) λ_=>rfl
 show (cc σ.t d v k).drop n=cc (λk=>(σ.t k).drop n) d v k;by_cases h:k=d
 ·subst h;rw[cm,cm,C]
 ·rw[cM _ _ _ h,cM _ _ _ h]
def VN(v:A):∀ (xs:aa V) (c:Nat) (σ:S),(∀ n,c <= n -> v.drop n=v) -> lY c (σ.set d v) xs=(lY c σ xs).set d v
 |[],c,σ,h=>rfl
 | x :: xs,c,σ,h=>by
  simp[lY];cases D:x.aF with
  | true=>
   exact VN v xs _ σ (λn C=>h n (by omega))
  | false=>
   rw[S.drop_set c (h c (dM _))];exact VN v xs _ ((σ.drop c).root c _) (λn C=>h n (by omega))
def acI(v:A):∀ (ps:aa Pt) (c:Nat) (σ:S),(∀ n,c <= n -> v.drop n=v) -> oP c (σ.set d v) ps=(oP c σ ps).set d v
 |[],c,σ,h=>rfl
 | p :: ps,c,σ,h=>by
  simp[oP];rw[VN v p.2 c σ h];exact acI v ps _ _ (λn C=>h n (by omega))
end
def zB{X:Type}(N:Nat)(σ:S)(d:Nat)(x:A)(k:S->ah X):ah X:=
 match x.yP with
 |some xs=>bif xs.all Lf.live then g9 N σ d (.aC (xs.map (Lf.drop d))) (.aJ d 0) k else none
 |none=>none
def NY{X:Type}(x:A)(k:A->ah X):ah X:=
 match x with
 |.aJ r j=>k (.aJ r j)
 |.ptr q=>k (.ptr q)
 |.iZ cs=>k (.iZ cs)
 |_=>none
section
variable {P:Program} {w w':World} {w0:Wd} {B N:Nat} {aj aA:bG} {ρ ρ':Nat->Loc} {σ:S} {a:Act} {X:Type} {d:Nat} {r:X} {o:Oper}
def apc{e:TypeId}{x:A}{k:S -> ah X}(h:zB N σ d x k=some r):∃ L,k L=some r /\ ∀ aj ρ a w,Rl w0 N aj ρ σ a w -> ∀ u,RA w w0.heap.size aj ρ x u ->
  ∃w' aA ρ' v,(Instr.box e u).run P w = .ok v w'/\Rl w0 N aA ρ' L (a.put (some d) v) w':=by
 unfold zB at h;split at h
 ·rename_i xs Z;cases O:xs.all Lf.live with
  |false=>grind
  | true=>
   rw[O,au]at h;obtain⟨T,h⟩:=oH h
   refine⟨_,h,λaj ρ a w D u hu=>?_⟩
   obtain⟨hl,_⟩:=GV Z O hu;have dB:(Instr.box e u).run P w = .ok (.pointer (some ⟨w.heap.size,0,none⟩)) (w.alloc (.cells u.cells e)):=by
    simp[Instr.box,newVar,newRow]
   refine⟨_,cc aj w.heap.size (some [d]),cc ρ d (.aC w.heap.size 0),_,dB,(D.DW (D.dz d (.inl T)) (λr C=>cM _ _ _ C) ?_).set ⟨w.heap.size,0,cm _ _ _,rfl⟩ T⟩
   have h1:eD (w.alloc (.cells u.cells e)) w0.heap.size (cc aj w.heap.size (some [d])) ρ xs u.cells:=
    hl.lu (by simp) (λb E=>⟨Below.heap_alloc w _ b E,cM _ _ _ (by omega)⟩) (λb k E=>(D.dg b k E).2.1)
   have U:=h1.eT (ρ':=cc ρ d (.aC w.heap.size 0)) (d:=d) (λr C=>cM _ _ _ C)
   refine .aC w.heap.size 0 u.cells e _ (λj=>u.cells.getD j undef) (cm _ _ _) (cm _ _ _) (heap_alloc_new w _) (by rw[U.1];omega) λj y hy=>?_
   obtain⟨v,Y,C⟩:=U.2 j y hy;have hg:u.cells.getD j undef=v:=by rw[ir,Y];rfl
   rw[hg,fk];exact⟨Y,C⟩
 ·cases h
def apd{x:A}{k:S -> ah X}(h:zB N σ d x k=some r):∃ y u,k (((σ.drop d).root d y).set d u)=some r/\(∀ (C:S),lW (λX k=>zB (X:=X) N C d x k) (((C.drop d).root d y).set d u)):=by
 unfold zB at h;split at h
 ·rename_i xs E;cases D:xs.all Lf.live with
  |false=>simp_all
  | true=>
   rw[D]at h;obtain⟨L,_⟩:=Eh h
   refine⟨_,_,L,λC X k=>?_⟩
   obtain⟨O,_⟩:=oH h;have T:Nat.blt d N=true:=js O;simp[zB,E,D,g9,T,au]
 ·cases h
def ape{x:A}{k:A->ah X}(h:NY x k=some r):k x=some r/\∀ u,RA w B aj ρ x u->∃ ad,u = .pointer (some ad):=by
 unfold NY at h;split at h
 ·exact⟨h,λu C=>by obtain⟨b,off,_,rfl⟩:=C;exact⟨_,rfl⟩⟩
 ·exact⟨h,λu C=>by obtain⟨ad,rfl,_⟩:=C;exact⟨_,rfl⟩⟩
 ·exact⟨h,λu C=>by obtain⟨b,off,rfl,_⟩:=C;exact⟨_,rfl⟩⟩
 ·cases h
end
def pU(t:TypeId):Bool:=[999999,999999,82,999999,87,999999,999999,999999,999999,999999,113,999999,999999,999999,999999].any (Nat.beq t)
def xm{X:Type}(P:Program)(N:Nat)(σ:S)(d:Nat)(t:TypeId)(len:Nat)(parts:aa (Nat×Operand))(k:S->ah X):ah X:=
 match vg P t with
 | some (e,C)=>match zeroOf P e with
  | some z=>bif Nat.beq z.cells.size (aD C)&&Nat.blt (len*aD C) 16777217 then (match yX (λi=>some (i*aD C,aD C)) (List.replicate len (z.cells.toList.map nR)).flatten (parts.map λp=>(p.1,aK σ p.2))with
   |some cs=>bif Nat.beq len 0 then g9 N σ d (.sl (.sl C (full C+2) true [])) (.lf (.own [d])) k else g9 N σ d (.aC (cs.map (Lf.drop d))) (.pk d len) k
   |none=>none)else none
  |none=>none
 |none=>none
def BH{X:Type}(N:Nat)(σ:S)(d r D:Nat)(C:TC)(n:Nat)(k:S->ah X):ah X:=
 match σ.m D,σ.m r with
 | some (.aC cs),some (.sl (.sl E (o+2) q l))=>if h:E=C then (match gZ r (λj=>(j % aD C) :: (l.length+j / aD C) :: aD C :: [r]) cs.length 0 cs σ with
  | some (L,O)=>(match G7 C o n L with
   |some l2=>bif Nat.blt d N&&bO (l.length+l2.length)then k (((O.drop r).root r (.sl (.sl C (o+2) false ((h ▸ l)++l2)))).set d (.lf (.own [r])))else none
   |none=>none)
  |none=>none)else none
 |_,_=>none
def HK{X:Type}(P:Program)(N:Nat)(σ:S)(d:Nat)(t:TypeId)(x y:A)(k:S->ah X):ah X:=
 match vg P t,y with
 | some (e,C),.pk D n=>bif (zeroOf P e).any (λz=>Nat.beq z.cells.size (aD C))&&(Nat.blt d N&&Nat.blt n qx)then (match x with
  |.lf (.v .nil)=>BH N ((σ.drop d).root d (.sl (.sl C (full C+2) false []))) d d D C n k
  |.lf (.own [r])=>bif Nat.blt r N ||Nat.ble 60000 r then BH N σ d r D C n k else none
  |_=>none)else none
 |_,_=>none
def tD{X:Type}(P:Program)(σ:S)(t:TypeId)(x y:A)(k:S->ah X):ah X:=
 match jk P t,y.yP,x with
 | some n,some xs,.ptr [j,i,s,r]=>if xs.length=n then (bif xs.all Lf.live then (match gZ r (λm=>(j+m) :: i :: s :: [r]) xs.length 0 xs σ with
  | some (E,D)=>(match D.m r with
   | some (.sl (.sl C (o+2) L l))=>if s=aD C then (if h:i<l.length then (if j+n<=aD C then (match dec C o (splice (enc C o l[i]) j E)with
    |some e=>k (D.eV [r] [] [(r,.sl (.sl C (o+2) L (l.set i e)))])
    |none=>none)else none)else none)else none
   |_=>none)
  |none=>none)else none)else none
 |_,_,_=>none
def xo(x y:A):Bool:=match x,y.yP with
 |.ptr _,some xs=>(qB xs).isNone
 |_,_=>false
section
variable {P:Program} {w w':World} {w0:Wd} {B N:Nat} {aj aA:bG} {ρ ρ':Nat->Loc} {σ:S} {a:Act} {X:Type} {d:Nat} {r:X} {o:Oper}
def acJ{place:Nat -> ah (Nat×Nat)}:∀ (parts:aa (Nat×A)) (cells out:aa Lf),yX place cells parts=some out -> out.length=cells.length
 |[],cells,out,h=>by injection h with h;rw[h]
 | (i,x) :: rest,cells,out,h=>by
  unfold yX at h;split at h
  ·rename_i off n xs D E;split at h
   ·rename_i L;cases C:xs.all _ with
    | true=>
     rw[C]at h;rw[acJ rest _ _ h,sU _ _ _ (by omega)]
    |false=>simp_all
   ·cases h
  ·cases h
def apf{t:TypeId}{len:Nat}{parts:Array (Nat×Operand)}{k:S -> ah X}(h:xm P N σ d t len parts.toList k=some r):∃ cS,k cS=some r /\ ∀ aj ρ a w,Rl w0 N aj ρ σ a w ->
  ∃w' aA ρ' v,(Instr.buildSlice t len (parts.map λ(i,x)=>(i,a.eval x))).run P w = .ok v w'/\Rl w0 N aA ρ' cS (a.put (some d) v) w':=by
 unfold xm at h;split at h
 ·rename_i e D oJ;obtain⟨fX,ht,i,hi,Y,jC⟩:=yV oJ;split at h
  ·rename_i z hz;cases Z:(Nat.beq z.cells.size (aD D)&&Nat.blt (len*aD D) 16777217)with
   |false=>rw[Z]at h;cases h
   | true=>
    rw[Z,au]at h;rw[aN]at Z;have mG:=cD Z.1;have hsm:len*aD D<16777217:=by have:=cQ Z.2;omega
    have oK:i.zero=some z:=by unfold zeroOf at hz;simpa [hi]using hz
    split at h
    ·rename_i cs gp;have key:∀ aj ρ (a:Act) w,Rl w0 N aj ρ σ a w -> ∃ C,(Instr.buildSlice t len (parts.map λ(i,x)=>(i,a.eval x))).run P w = .ok (.slice (some ⟨w.heap.size,0,none⟩) len len) (w.alloc (.cells C e))/\eD w w0.heap.size aj ρ cs C/\C.size=cs.length:=λaj ρ a w E=>by
      have UM:eD w w0.heap.size aj ρ (List.replicate len (z.cells.toList.map nR)).flatten (madeCells z.cells (len*aD D)):=by
       have e1:(List.replicate len (z.cells.toList.map nR)).flatten=((List.replicate len z.cells.toList).flatten).map nR:=by
        rw[List.map_flatten,List.map_replicate]
       rw[e1,<- abM z.cells (aD D) len mG (oA D)]
       refine⟨by simp,λj x L=>?_⟩
       rw[eF]at L;cases U:(madeCells z.cells (len*aD D)).toList[j]? with
       |none=>rw[U]at L;cases L
       | some v=>
        rw[U]at L;injection L with L;subst L;exact⟨v,by simpa using U,Ns v⟩
      obtain⟨C,w5,hl⟩:=Ny (w:=w) (B:=w0.heap.size) (aj:=aj) (ρ:=ρ) _ _ _ (parts.toList.map λp=>(p.1,a.eval p.2)) cs gp UM (by simp) (λj p q O hq=>by
       rw[eF]at O hq;cases L:parts.toList[j]? with
       |none=>rw[L]at O;cases O
       | some x=>
        rw[L]at O hq;injection O with O;injection hq with hq;subst O hq;exact⟨rfl,E.aK x.2⟩)
      have dB:(Instr.buildSlice t len (parts.map λ(i,x)=>(i,a.eval x))).run P w = .ok (.slice (some ⟨w.heap.size,0,none⟩) len len) (w.alloc (.cells C e)):=by
       have G8:(parts.map λ(i,x)=>(i,a.eval x)).toList=parts.toList.map λp=>(p.1,a.eval p.2):=by simp
       by_cases h0:len*aD D=0
       ·have hm:madeCells z.cells (len*aD D) = #[]:=by rw[h0];simp[madeCells]
        rw[hm]at w5;have UN:len*i.size=0:=by rw[Y];exact h0
        rw[<- Y]at w5;have e0:∀f:Nat -> Value,Array.map f (Array.range 0) = #[]:=λf=>by simp
        simp only[Instr.buildSlice,fV,gO fX,sizeOf,typeInfo];simp[hi,UN];rw[e0,w5];simp[newRow]
       ·exact run_buildSlice (P:=P) w t e len _ C i z fX hi oK (by rw[Y];omega) (by rw[Y];exact h0) (by rw[Y,G8];exact w5)
      exact⟨C,dB,hl,hl.1⟩
     cases nQ:Nat.beq len 0 with
     | true=>
      rw[nQ,au]at h;have hln:=cD nQ;subst hln;obtain⟨hd,h⟩:=oH h
      refine⟨_,h,λaj ρ a w E=>?_⟩
      obtain⟨C,dB,hl,hcz⟩:=key aj ρ a w E;have xb:cs.length=0:=by
       have h1:=acJ _ _ _ gp;rw[h1];simp
      refine⟨_,cc aj w.heap.size (some [d]),cc ρ d (.dX (.slice (some ⟨w.heap.size,0,none⟩) 0 0)),_,dB,(E.DW (E.dz d (.inl hd)) (λr T=>cM _ _ _ T) (.sl _ _ (cm _ _ _) ?_)).set ⟨rfl,by simp[c8,cm]⟩ hd⟩
      exact RV.own (w:=w.alloc (.cells C e)) (B:=w0.heap.size) (aj:=cc aj w.heap.size (some [d])) [d] D (full D) true [] w.heap.size 0 C (λ_ _=>undef)
       (cm _ _ _) (by rw[ht];exact heap_alloc_new w _) (by omega) (dM _) ⟨by unfold maxLen;omega,λ_=>rfl⟩ (λi' h'=>absurd h' (by simp)) (λi' h'=>absurd h' (by simp))
     |false=>
     rw[nQ,aq]at h;obtain⟨hd,h⟩:=oH h
     refine⟨_,h,λaj ρ a w E=>?_⟩
     obtain⟨C,dB,hl,_⟩:=key aj ρ a w E
     refine⟨_,cc aj w.heap.size (some [d]),cc ρ d (.aC w.heap.size 0),_,dB,(E.DW (E.dz d (.inl hd)) (λr T=>cM _ _ _ T) ?_).set ⟨w.heap.size,cm _ _ _,(Ui (by have:=Nat.le_mul_of_pos_right len (oA D);unfold qx;omega)).symm⟩ hd⟩
     have h1:eD (w.alloc (.cells C e)) w0.heap.size (cc aj w.heap.size (some [d])) ρ cs C:=
      hl.lu (by simp) (λb hb=>⟨Below.heap_alloc w _ b hb,cM _ _ _ (by omega)⟩) (λb k hb=>(E.dg b k hb).2.1)
     have h2:=h1.eT (ρ':=cc ρ d (.aC w.heap.size 0)) (d:=d) (λr T=>cM _ _ _ T)
     refine .aC w.heap.size 0 C e _ (λj=>C.getD j undef) (cm _ _ _) (cm _ _ _) (heap_alloc_new w _) (by rw[h2.1];omega) λj y hy=>?_
     obtain⟨v,U,T⟩:=h2.2 j y hy;have hg:C.getD j undef=v:=by rw[ir,U];rfl
     rw[hg,fk];exact⟨U,T⟩
    ·cases h
  ·cases h
 ·cases h
def apg{t:TypeId}{len:Nat}{parts:aa (Nat×Operand)}{k:S -> ah X}(h:xm P N σ d t len parts k=some r):∃ y u,k (((σ.drop d).root d y).set d u)=some r /\
  (∀(C:S),(∀p∈parts,aK C p.2=aK σ p.2) -> lW (λX k=>xm (X:=X) P N C d t len parts k) (((C.drop d).root d y).set d u)):=by
 unfold xm at h;split at h
 ·rename_i e tc Z;split at h
  ·rename_i z hz;cases D:(Nat.beq _ _&&Nat.blt _ 16777217)with
   |false=>rw[D]at h;cases h
   | true=>
    rw[D]at h;split at h
    ·rename_i cs gp;cases E:Nat.beq len 0 with
     | true=>
      rw[E,au]at h;obtain⟨L,_⟩:=Eh h
      refine⟨_,_,L,λC O X k=>?_⟩
      obtain⟨T,_⟩:=oH h;have U:Nat.blt d N=true:=js T;have e:(parts.map λp=>(p.1,aK C p.2))=parts.map λp=>(p.1,aK σ p.2):=List.map_congr_left λp Y=>by rw[O p Y]
      simp only[xm,Z,hz,D,au,e,gp,g9,U,E]
     | false=>
      rw[E,aq]at h;obtain⟨L,_⟩:=Eh h
      refine⟨_,_,L,λC O X k=>?_⟩
      obtain⟨T,_⟩:=oH h;have U:Nat.blt d N=true:=js T;have e:(parts.map λp=>(p.1,aK C p.2))=parts.map λp=>(p.1,aK σ p.2):=List.map_congr_left λp Y=>by rw[O p Y]
      simp only[xm,Z,hz,D,au,e,gp,g9,U,E,aq]
    ·cases h
  ·cases h
 ·cases h
def acK{t e ty:TypeId}{Y:TC}{i:TypeInfo}{z:Value}{rr ry n:Nat}{k:S -> ah X}(fX:P.underlying t=some (.slice e))(ht:tid Y=e)(hi:P.info? e=some i)(hz:i.zero=some z)
  (gG:i.size=aD Y) (jC:i.bytes <= 65536) (mG:z.cells.size=aD Y) (h:BH N σ d rr ry Y n k=some r):∃cS,k cS=some r /\ ∀aj ρ a w,Rl w0 N aj ρ σ a w -> w0.F rr=none -> ∀u v b,ρ rr = .dX u -> ρ ry = .aC b 0 -> v = .slice (some ⟨b,0,none⟩) n n ->
  ∃w' aA ρ' z,(Builtin.append_ #[t,t] ty #[u,v]).run P w = .ok z w'/\Rl w0 N aA ρ' cS (a.put (some d) z) w':=by
 unfold BH at h;split at h
 ·rename_i cs E o q l VO hr;split at h
  ·rename_i mV;subst mV;split at h
   ·rename_i vs τ VP;split at h
    ·rename_i l2 ku;cases U:(Nat.blt d N&&bO (l.length+l2.length))with
     |false=>rw[U]at h;cases h
     | true=>
      rw[U,au]at h;rw[aN]at U;have G3:l.length+l2.length<1073741824:=by simpa [bO]using U.2
      have hd:d<N:=by have:=cQ U.1;omega
      refine⟨_,h,λaj ρ a w hR hF u v b aph api O=>?_⟩
      subst O;have Z:=hR.root ry _ VO;generalize C:bg.aC cs=x at Z;cases Z with
      |sl=>cases C
      |mp=>cases C
      |gh=>cases C
      | aC b' off cells e' eA us cz pM hh hs hc=>
       injection C with C;subst C;rw[api]at cz;injection cz with e1 e2;subst e1 e2;have kr:eD w w0.heap.size aj ρ cs ((List.range cs.length).map us).toArray:=by
        refine⟨by simp,λj x L=>?_⟩
        have D:j<cs.length:=(dQ.1 L).1;exact⟨us j,by simp[D],(hc j x L).2⟩
       obtain⟨aA,dD,Be,NZ,_,mS,ic,_,_⟩:=Nn (w0:=w0) (N:=N) (λj=>by simp[cU]) _ _ _ _ _ _ VP aj ρ a w hR _ kr;obtain⟨D3,apj,iA⟩:=UL E o n vs l2 ku;have vh:cs.length=n*aD E:=by rw[<- Be,apj]
       have lD:∀ j,j<cs.length -> (us j).oneCell'=true:=by
        intro j D;have L:=bZ (by rw[Be];exact D);obtain⟨u',ve,T⟩:=NZ j _ L;have:u'=us j:=by simpa [D]using ve.symm
        rw[<- this];exact T.one
       have VQ:b<w.heap.size:=(iH.1 hh).1;have qF:Reads w w.heap.size (aD E) (some ⟨b,0,none⟩) n ((List.range cs.length).map us):=by
        refine⟨by simp[vh],λhn=>⟨b,0,rfl,VQ,λj v O=>?_⟩⟩
        have D:j<cs.length:=by have:=(dQ.1 O).1;simpa using this
        have:v=us j:=by simpa [D]using O.symm
        subst this;rw[cell_of_row w b _ cells _ _ hh];simp_all
       have gJ:s8 w w0.heap.size aA rr l.length E o l2 ((List.range cs.length).map us):=by
        intro i' rZ j x L;have D:j<aD E:=by have:=(dQ.1 L).1;rwa [ko]at this
        obtain⟨y,Z,hw⟩:=iA i' rZ j x L;obtain⟨u',ve,T⟩:=NZ _ _ Z;refine⟨u',ve,?_⟩;have e1:(0+(i'*aD E+j)) % aD E=j:=by rw[fk,Nat.add_comm,Nat.add_mul_mod_self_right,Nat.mod_eq_of_lt D]
        have e2:(0+(i'*aD E+j)) / aD E=i':=by rw[fk,Nat.add_comm,Nat.add_mul_div_right _ _ (oA E),Nat.div_eq_of_lt D,fk]
        simp only[e1,e2]at T;exact T.wk hw
       have HL:=dD.root rr _ (mS _ hr);generalize C:bg.sl (.sl E (o+2) q l)=x at HL;cases HL with
       |aC=>cases C
       |mp=>cases C
       |gh=>cases C
       | sl uu y gK T=>
        injection C with C;subst C;rw[aph]at gK;injection gK with gK;subst gK;obtain⟨v',w',dI,dB,oQ,fW⟩:=dD.anW (ty:=ty) (c:=n) hF fX ht hi hz gG jC mG T qF (λv O=>by
         obtain⟨j,D⟩:=List.mem_iff_getElem?.1 O;have G6:j<cs.length:=by have:=(dQ.1 D).1;simpa using this
         have:v=us j:=by simpa [G6]using D.symm
         rw[this];exact lD j G6) D3.symm gJ G3
        exact⟨w',dI,_,v',dB,oQ.set ⟨fW,by simp[c8,cm]⟩ hd⟩
    ·cases h
   ·cases h
  ·cases h
 ·cases h
def apk{rr C n:Nat}{D:TC}:cL λX k=>BH (X:=X) N σ d rr C D n k:=λX Y k g=>by
 unfold BH
 repeat' first|rfl|refine dj ?_ ?_|split
def apl{t ty:TypeId}{x y:A}{k:S -> ah X}(h:HK P N σ d t x y k=some r):∃ C,k C=some r /\ ∀ aj ρ a w,Rl w0 N aj ρ σ a w -> ∀ u v,RA w w0.heap.size aj ρ x u -> RA w w0.heap.size aj ρ y v ->
  ∃w' aA ρ' z,(Builtin.append_ #[t,t] ty #[u,v]).run P w = .ok z w'/\Rl w0 N aA ρ' C (a.put (some d) z) w':=by
 unfold HK at h;split at h
 ·rename_i e T ry n oJ;obtain⟨fX,ht,i,hi,gG,jC⟩:=yV oJ;cases L:((zeroOf P e).any (λz=>Nat.beq z.cells.size (aD T))&&(Nat.blt d N&&Nat.blt n qx))with
  |false=>simp_all
  | true=>
   rw[L,au]at h;rw[aN]at L;obtain⟨z,hz,O⟩:=(Option.any_eq_true _ _).1 L.1;have O:=cD O;have oK:i.zero=some z:=by unfold zeroOf at hz;simpa [hi]using hz
   have U:=L.2;rw[aN]at U;have hd:d<N:=by have:=cQ U.1;omega
   have oT:n<qx:=by have:=cQ U.2;omega
   split at h
   ·obtain⟨C,Y,Z⟩:=acK (w0:=w0) (ty:=ty) fX ht hi oK gG jC O h
    refine⟨C,Y,λaj ρ a w D u v E hv=>?_⟩
    have E:u = .slice none 0 0:=by cases E.2;rfl
    subst E;obtain⟨b,hb,rfl⟩:=hv;have VO:ry≠d:=by
     rintro rfl;unfold BH at h;split at h
     ·simp_all
     ·cases h
    have hR0:=D.new (d:=d) (x:=.sl (.sl T (full T+2) false [])) (.dX (.slice none 0 0)) (.sl _ _ (cm _ _ _) (.ep _ _ _)) (D.dz d (.inl hd));exact Z _ _ a w hR0 (D.dz d (.inl hd)) _ _ b (cm _ _ _) ((cM _ _ _ VO).trans hb) (Ui oT)
   ·rename_i rr;cases hL:(Nat.blt rr N || Nat.ble 60000 rr)with
    |false=>simp_all
    | true=>
     rw[hL,au]at h;rw[eB]at hL;have mS:rr<N \/ 60000 <= rr:=hL.imp (λh=>by have:=cQ h;omega) (λh=>cQ h);obtain⟨C,Y,Z⟩:=acK (w0:=w0) (ty:=ty) fX ht hi oK gG jC O h
     refine⟨C,Y,λaj ρ a w D u v E hv=>?_⟩
     obtain⟨b,hb,rfl⟩:=hv;have cz:ρ rr = .dX u:=by
      have h4:=E.2;simp only[c8]at h4;cases hl:ρ rr with
      |aC b o=>simp_all
      |bY us=>simp_all
      |dX v=>simp_all
     exact Z aj ρ a w D (D.dz rr mS) _ _ b cz hb (Ui oT)
   ·cases h
 ·cases h
def apm{t:TypeId}{x y:A}:cL λX k=>HK (X:=X) P N σ d t x y k:=λX Y k g=>by
 unfold HK
 repeat' first|rfl|exact apk _ _ _ _|refine dj ?_ ?_|split
def apn{t:TypeId}{x y:A}{k:S -> ah X}(h:tD P σ t x y k=some r):∃ cS,k cS=some r /\ ∀ aj ρ a w,Rl w0 N aj ρ σ a w -> ∀ u v,RA w w0.heap.size aj ρ x u -> RA w w0.heap.size aj ρ y v ->
  ∃w' aA,(Instr.storeAt t u v).run P w = .ok () w'/\Rl w0 N aA ρ cS a w':=by
 unfold tD at h;split at h
 ·rename_i n xs j i s rr hn mU;split at h
  ·rename_i hlen;cases VR:xs.all Lf.live with
   |false=>rw[VR]at h;cases h
   | true=>
    rw[VR,au]at h;split at h
    ·rename_i vs τ VP;split at h
     ·rename_i C o' qn l ij;split at h
      ·rename_i oE;split at h
       ·rename_i hi;split at h
        ·rename_i hj;split at h
         ·rename_i e he
          refine⟨_,h,λaj ρ a w hR u v hu hv=>?_⟩
          obtain⟨ad,rfl,L⟩:=hu;obtain⟨hl,lD⟩:=GV mU VR hv;have kr:eD w w0.heap.size aj ρ xs v.cells.toList.toArray:=by simpa using hl
          obtain⟨aA,dD,Be,NZ,_,mS,ic,aG8,_⟩:=Nn (w0:=w0) (N:=N) (λm=>by simp[cU]) _ _ _ _ _ _ VP aj ρ a w hR _ kr;simp only[addrAt]at L;split at L
          ·rename_i b n0 c0 cz;split at L
           ·rename_i pM;injection L with L;subst L;have HL:=dD.root rr _ ij;generalize D:bg.sl (.sl C (o'+2) qn l)=x at HL;cases HL with
            |aC=>cases D
            |mp=>cases D
            |gh=>cases D
            | sl uu y gK fl=>
             injection D with D;subst D;rw[cz]at gK;injection gK with gK;subst gK;cases fl with
             |aF _ _ _ _ _ _ _ _ _ ho=>omega
             |fA=>simp at hi
             |fK=>simp at hi
             | own _ _ _ _ _ _ cap cs us N0 hh hs pJ hm hc hr=>
              subst oE;have VS:v.cells.size=n:=by rw[hl.1,hlen]
              have wP:i*aD C+aD C <= c0*aD C:=by
               have:(i+1)*aD C <= c0*aD C:=jD _ (by omega);rw[Nat.succ_mul]at this;exact this
              have lz:i*aD C+j+v.cells.toList.length <= cs.size:=by rw[kY,VS,hs];omega
              have T:=Nh w b (i*aD C+j) v.cells.toList;obtain⟨Z,gJ,pI⟩:=GC b (tid C) v.cells.toList (i*aD C+j) w cs hh lz;have sX:∀ m,Z[m]?=if m<i*aD C+j then cs[m]? else if m<i*aD C+j+n then v.cells[m-(i*aD C+j)]? else cs[m]?:=by
               intro m;have e2:Z[m]?=(splice cs.toList (i*aD C+j) v.cells.toList)[m]?:=by
                rw[show Z[m]?=Z.toList[m]? by simp,pI];rfl
               rw[e2,wO _ _ _ (by simpa using lz),kY,VS];simp
              have GN:Z.size=cs.size:=by
               rw[<- kY,pI];have:=sU cs.toList (i*aD C+j) v.cells.toList (by simpa using lz);simp only[splice]at this;simp_all
              have VQ:b<w.heap.size:=(iH.1 hh).1;have hz:w.heap.size <= (w.setCells b (i*aD C+j) v.cells.toList).heap.size:=Nat.le_of_eq T.size.symm;have VT:∀E,E<w.heap.size -> aA E≠some [rr] -> (w.setCells b (i*aD C+j) v.cells.toList).heap[E]?=w.heap[E]?:=λE _ dc=>T.block E (by rintro rfl;exact dc N0)
              have GW:w.there b (i*aD C+j) v.cells.size:=by
               intro m vc;refine⟨?_,frozen_of_row w b _ cs _ hh⟩;rw[cell_of_row w b _ cs _ _ hh];simp;omega
              have jM:vs.length=n:=by rw[Be,hlen]
              refine⟨_,aA,Us w b _ t v GW (by rw[VS];exact hn) lD,dD.tw (ns:=[rr]) (cn:=[]) (eU:=ρ) (dI:=aA) ⟨hz,λE wX U=>⟨T.block E ?_,rfl⟩,λ_ _=>rfl,λE k U=>(dD.dg E k U).2⟩
               ⟨T.os,T.tape,T.output,hz,λk U hL=>T.block k ?_⟩ (λE k U=>?_) (λr hr=>by cases hr) (λr0 x D=>?_)⟩
              ·rintro rfl;have:=U _ N0;simp[gq,dG]at this
              ·rintro rfl;rcases(dD.dg k _ N0).1 with h1 | h1
               ·exact absurd U (Nat.not_lt.2 h1)
               ·exact h1 hL
              ·have:=dD.dg E k U;exact⟨this.1,Nat.lt_of_lt_of_le this.2.1 hz,this.2.2⟩
              ·have iB:r0=rr/\x = .sl (.sl C (o'+2) qn (l.set i e)):=by
                simp only[List.lookup]at D;split at D
                next wX=>injection D with D;exact⟨by simpa using wX,D.symm⟩
                ·cases D
               obtain⟨rfl,rfl⟩:=iB;refine .sl _ _ cz ?_
               refine RV.Ni (u:=us) (us:=λ_ m=>v.cells.getD (m-j) undef) (cs:=cs) (xs:=vs) N0 gJ (GN.trans hs) pJ hm hi (by rw[jM];exact hj) he (λO h' j' x Y Nj=>?_) (λm x Y=>?_)
               ·have nO:j'<aD C:=by have:=(dQ.1 Y).1;rwa [ko]at this
                refine⟨?_,(hr O h' j' x Y).under (n:=r0) (.inl (by simp)) hz VT (λ_ _=>rfl)⟩
                rw[sX];have GO:¬ (¬ O*aD C+j'<i*aD C+j/\O*aD C+j'<i*aD C+j+n):=by
                 rintro⟨h1,h2⟩;rcases Nat.lt_trichotomy O i with dA|heq|DN
                 ·have:(O+1)*aD C <= i*aD C:=jD _ dA;rw[Nat.succ_mul]at this;omega
                 ·subst heq;exact Nj ⟨rfl,by omega,by omega⟩
                 ·have:(i+1)*aD C <= O*aD C:=jD _ DN;rw[Nat.succ_mul]at this;omega
                split
                ·exact hc O h' j' x Y
                ·rw[bX];exact hc O h' j' x Y
               ·obtain⟨v0,Bj,DO⟩:=NZ m x Y;have vc:m<n:=by rw[<- jM];exact(dQ.1 Y).1
                have Nw:v.cells[m]?=some v0:=by simpa using Bj
                have yN:v.cells.getD (j+m-j) undef=v0:=by rw[show j+m-j=m by omega,ir,Nw];rfl
                show Z[_]?=some (v.cells.getD (j+m-j) undef)/\RV _ _ _ _ _ (v.cells.getD (j+m-j) undef);rw[yN,sX,bX,bL];rw[fk]at DO
                refine⟨?_,DO.under (n:=r0) (.inl (by simp)) hz VT (λ_ _=>rfl)⟩
                rw[show i*aD C+(j+m)-(i*aD C+j)=m by omega];exact Nw
           ·cases L
          ·cases L
         ·cases h
        ·cases h
       ·cases h
      ·cases h
     ·cases h
    ·cases h
  ·cases h
 ·cases h
def apo{t:TypeId}{x y:A}:cL λX k=>tD (X:=X) P σ t x y k:=λX Y k g=>by
 unfold tD
 repeat' first|rfl|refine dj ?_ ?_|split
end
def apq(P:Program)(f:Nat)(F:aa Int->ah Int):Prop:=
 ∀ (w:World) (l:aa (T .u8)) (h:Int) (v:Value),F l=some h->RV w w.heap.size (λ_=>none) [] (.sl .u8 0 false l) v->Hd w (λ_=>none)->Calls P f #[v] w λe w'=>
  ∃b off cells t,e = .returned (.pointer (some ⟨b,off,none⟩))/\Below w.heap.size w w'/\w.heap.size<=b/\w'.heap[b]?=some (.cells cells t (0,0))/\cells[off]?=some v/\cells[off+1]?=some (.int .i64 0)/\cells[off+2]?=some (.int .i64 h)
structure BI where
 a:Nat
 j:Nat
 t:TC
 run:List Pt->Option (Nat×Nat)
def tE(bY:Array Value)(a j:Nat):ah Value:=match bY[a]? with
 |some (.agg us)=>us[j]?
 |some u=>bif Nat.beq j 0 then some u else none
 |none=>none
def N1(P:Program)(f:Nat)(c:BI):Prop:=
 ∀ (args:aa Pt) (p:Nat×Nat),c.run args=some p->∀ (w:World) (bY:Array Value),oO w args bY->Hd w (λ_=>none)->Calls P f bY w λe w'=>
  ∃A n cap,tE bY c.a c.j=some (.slice A n cap)/\p.1<=p.2/\p.2<=n/\e = .returned (sliced A p.1 p.2 cap (aD c.t))/\Below w.heap.size w w'
def acL(σ:S)(args:aa Operand)(a j:Nat):ah Lf:=match args[a]? with
 | some x=>(match aK σ x with
  |.agg cs=>cs[j]?
  |.lf l=>bif Nat.beq j 0 then some l else none
  |_=>none)
 |none=>none
def HM{X:Type}(N:Nat)(σ:S)(d:Nat)(c:BI)(args:aa Operand)(k:S->ah X):ah X:=
 bif Nat.blt d N then rP σ args λps=>(match c.run ps with
  | some p=>(match acL σ args c.a c.j with
   |some (.v (.sl t g _ l))=>if t=c.t then (bif Nat.blt g 2&&Nat.ble p.1 p.2&&Nat.ble p.2 l.length then k (σ.set d (.lf (.v (.sl t g false ((l.take p.2).drop p.1)))))else none)else none
   |_=>none)
  |none=>none)else none
structure tF where
 run:(X:Type)->Nat->S->List A->(S->A->Option X)->Option X
def El{α β:Type}(f:(X:Type)->(α->β->ah X)->ah X):Prop:=∀(X Y:Type) (k:α->β->ah X) (g:X->ah Y),(f X k).bind g=f Y λa b=>(k a b).bind g
def El.mT{α β:Type}{f:(X:Type)->(α->β->ah X)->ah X}(n:El f){X:Type}{k:α->β->ah X}{r:X}(h:f X k=some r):∃ a b,k a b=some r/\∀ (X:Type) (k:α->β->ah X),f X k=k a b:=by
 obtain⟨⟨a,b⟩,C,D⟩:=cL.mT (f:=λX (k:α×β->ah X)=>f X λa b=>k (a,b)) (λX Y k g=>n X Y _ g) (k:=λp=>k p.1 p.2) h;exact⟨a,b,C,λX k=>D X λp=>k p.1 p.2⟩
def kA(P:Program)(f:Nat)(c:tF):Prop:=(∀ N σ xs,El λX k=>c.run X N σ xs k)/\
 ∀ [Inhabited Wd] (N:Nat) (σ:S) (xs:aa A) (C:S) (y:A),c.run (S×A) N σ xs (λσ y=>some (σ,y))=some (C,y)->
  ∀ (w0:Wd) (aj:bG) (ρ:Nat->Loc) (a:Act) (w:World) (bY:Array Value),Rl w0 N aj ρ σ a w->bY.size=xs.length->(∀ i,RA w w0.heap.size aj ρ ((xs[i]?).getD .undef) (bY.getD i undef))->
   Calls P f bY w λe w'=>∃v aA ρ',e = .returned v/\Rl w0 N aA ρ' C a w'/\RA w' w0.heap.size aA ρ' y v
inductive pV where
 |p (c:iK)
 |m (c:nW)
 |n (F:List Int->Option Int)
 |v (c:BI)
 |i (c:tF)
 |d (c:nW)
 |q (c:iK)
 |c (c:nW)
def VU(P:Program)(f:Nat):pV->Prop
 |.p c=>ig P f c
 |.m c=>tu P f c
 |.n F=>apq P f F
 |.v c=>N1 P f c
 |.i c=>kA P f c
 |.d c=>tu P f c
 |.q c=>ig P f c
 |.c c=>tu P f c
section
variable {P:Program} {w w':World} {w0:Wd} {B N:Nat} {aj dI aA:bG} {ρ eU ρ':Nat->Loc} {σ:S} {a:Act} {X:Type} {d:Nat} {r:X} {ns cn:aa Nat} {o:Oper}
def acM:∀ (xs:aa Lf),cL λX k=>xg (X:=X) σ ns xs k
 |[]=>λ_ _ _ _=>rfl
 |x::xs=>λX Y k g=>dj ((Ef.comp λy=>(acM xs).comp (b:=λX k ys=>k (y.gn::ys)) λ_ _ _ _ _=>rfl) X Y k g) rfl
def apr{x:A}:cL λX k=>vo (X:=X) σ ns x k:=λX Y k g=>by
 unfold vo
 repeat' first|rfl|exact acM _ _ _ _ _|refine dj ?_ ?_|split
def VV:∀ (ps:aa PK) (xs:aa Operand) (C:aa Mu),cL λX k=>nY (X:=X) σ ns ps xs C k:=λps=>by
 induction ps with
 |nil=>intro xs C X Y k g;cases xs<;>cases C<;>rfl
 | cons p ps D=>
  intro xs C X Y k g;cases xs with
  |nil=>cases p<;>cases C<;>rfl
  | cons x xs=>
   cases p with
   | v b t=>
    refine(apr _ _ _ _).trans (aY _ (funext λp=>dj ?_ rfl))
    split
    ·exact D _ _ _ _ _ _
    ·rfl
   | p t E o=>
    cases C with
    |nil=>rfl
    | cons m C=>cases m with
     |sl=>rfl
     | aC=>
      simp only[nY];split
      ·exact D _ _ _ _ _ _
      ·rfl
   | s t E=>
    cases C with
    |nil=>rfl
    | cons m C=>cases m with
     |aC=>rfl
     | sl=>
      simp only[nY];split
      ·exact D _ _ _ _ _ _
      ·rfl
def aps{C:ah Tmp}{D:fR}:cL λX k=>vp (X:=X) N σ C D k:=λX Y k g=>by
 unfold vp
 repeat' first|rfl|exact NW _ _ _ _|refine dj ?_ ?_|split
def VW{C:ah Tmp}{c:nW}{args:aa Operand}:cL λX k=>rW (X:=X) N σ C c args k:=λX Y k g=>by
 unfold rW;split
 ·refine dj ((VV _ _ _ _ _ _ _).trans (aY _ (funext λx=>?_))) rfl
  split
  ·exact dj (aps _ _ _ _) rfl
  ·rfl
 ·rfl
def apt{f:Nat}{args:Array Operand}{Z:Array TypeId}{c:BI}{k:S -> ah X}(ho:o.op = .call { callee:=.value (.func f),args,argTypes:=Z })(hd:o.dst=some d)(he:enters P f)(hc:N1 P f c)(h:HM N σ d c args.toList k=some r):∃ cS,k cS=some r/\lA P w0 N o σ cS:=by
 unfold HM at h;cases hN:Nat.blt d N with
 |false=>grind
 | true=>
  rw[hN,au]at h;have Bp:d<N:=by have:=cQ hN;omega
  obtain⟨ps,O,lE⟩:=abY (w0:=w0) (N:=N) _ _ h;split at O
  ·rename_i p hp;split at O
   ·rename_i t g q l D;split at O
    ·rename_i mV;cases E:(Nat.blt g 2&&Nat.ble p.1 p.2&&Nat.ble p.2 l.length)with
     |false=>grind
     | true=>
      rw[E,au]at O;rw[aN,aN]at E;have hg:g<2:=by have:=cQ E.1.1;omega
      have tG:=cQ E.1.2;have h2l:=cQ E.2
      refine⟨_,O,λa w K Q T hK=>?_⟩
      obtain⟨aj,ρ,T⟩:=T;unfold Oper.wp;rw[U2 w o a f args Z ho he,Oper.upon_enter];have Bq:(args.map a.eval)=(args.toList.map a.eval).toArray:=by apply Array.ext';rw[Array.toList_map]
      rw[Bq]
      refine(hc ps p hp w _ (lE aj ρ a w T) (w0.on T.below (λ_ _ h=>by cases h))).mono λe w' tf=>?_
      obtain⟨A,n,cap,C,hle,hn,rfl,Y⟩:=tf;have jL:RV w w0.heap.size aj [] (.sl t g q l) (.slice A n cap):=by
       unfold acL at D;split at D
       ·rename_i x hx;have VX:((args.toList.map a.eval).toArray)[c.a]?=some (a.eval x):=by
         rw[List.getElem?_toArray,eF,hx];rfl
        unfold tE at C;rw[VX]at C;have L:=T.aK x;split at D
        next cs gp=>rw[gp]at L;obtain⟨us,kr,hrl⟩:=L;rw[kr]at C;obtain⟨u,U,hr⟩:=hrl.2 _ _ D;simp only at C;rw[C]at U;injection U with U;subst U;exact hr.2
        ·rename_i lf w7;rw[w7]at L;cases hj:Nat.beq c.j 0 with
         |false=>grind
         | true=>
          rw[hj]at D C;injection D with D;subst D;have L:dU w w0.heap.size aj ρ (.v (.sl t g q l)) (a.eval x):=L;have vu:∀ us,a.eval x ≠ .agg us:=by
           intro us e;rw[e]at L;cases L.2
          generalize a.eval x=z at C L vu;cases z<;>first|exact absurd rfl (vu _)|(simp only[au,iu]at C;cases C;exact L.2)|(simp only[au,iu]at C;cases C)
        ·cases D
       ·cases D
      obtain⟨VY,zd,UT⟩:=jL.part (a:=p.1) (h:=p.2) hg tG h2l;subst mV;rw[hd];have dD:=T.grow Y (aA:=aj) (λ_ _=>rfl) (λb k E hk=>absurd (T.dg b k hk).2.1 (Nat.not_lt.2 E));refine hK _ _ ⟨aj,ρ,dD.set ⟨by simp[V.aF,hg],?_⟩ Bp⟩;exact VY.lu Y.size λb E=>⟨Y.block b E,rfl⟩
    ·cases O
   ·cases O
  ·cases O
def apu{c:BI}{args:aa Operand}:cL λX k=>HM (X:=X) N σ d c args k:=λX Y k g=>by
 unfold HM
 refine dj ((Ei _ _ _ _).trans (aY _ (funext λps=>?_))) rfl
 repeat' first|rfl|refine dj ?_ ?_|split
/-! Calls of functions that are run in the state of their caller. -/
def HN{X:Type}(N:Nat)(σ:S)(C:ah Tmp)(c:tF)(xs:aa A)(k:S->ah X):ah X:=c.run X N σ xs λD y=>gX N D C y k
def apv(p:Nat×Nat):A:=.aJ p.1 p.2
def HO(σ:S):aa Operand->ah (aa (Nat×Nat))
 |[]=>some []
 | x :: xs=>match aK σ x,HO σ xs with
  |.aJ r j,some ps=>some ((r,j)::ps)
  |_,_=>none
def apw(w:World)(o:Oper)(a:Act)(f:Nat)(cl:Operand)(C:Array Value)(args:Array Operand)(E:Array TypeId)(L:o.op = .call { callee:=.value cl,args,argTypes:=E })(O:a.eval cl = .func (.func f) #[] C)(T:enters P f):
  (execOp a.eval o).run P w = .ok (.enter f (args.map a.eval++C)) w:=by
 obtain⟨fn,U,Y,D⟩:=T;have Z:¬ fn.name = "runtime.NumGoroutine":=by simpa using Y
 have h3':¬ fn.body=none:=by intro e;rw[e]at D;cases D
 simp[execOp,L,resolve,O,Deferred.ofValue,invoke,callFunc,Sem.run,U,Z,h3']
def N2:A->ah (Nat×aa A)
 |.fn f cap=>some (f,cap.map apv)
 |.mQ f cs=>some (f,[.iZ cs])
 |_=>none
def apx{x:A}{f:Nat}{ex:aa A}{u:Value}(h:N2 x=some (f,ex))(T:RA w B aj ρ x u):∃ D:Array Value,u = .func (.func f) #[] D/\D.size=ex.length /\ ∀ (j:Nat) y,ex[j]?=some y -> RA w B aj ρ y (D.getD j undef):=by
 unfold N2 at h;split at h
 ·rename_i f' cap;injection h with h;injection h with E L;subst E L;obtain⟨D,U,Y,Z⟩:=T
  refine⟨D,U,by simp[Y],λj y C=>?_⟩
  rw[eF]at C;cases O:cap[j]? with
  |none=>simp_all
  | some p=>
   rw[O]at C;injection C with C;subst C;obtain⟨b,off,E,L⟩:=Z _ p O;rw[ir,L];exact⟨b,off,E,rfl⟩
 ·injection h with h;injection h with E L;subst E L;obtain⟨pv,e,O⟩:=T
  refine⟨#[pv],e,rfl,λj y C=>?_⟩
  rcases j with _|j
  ·injection C with C;subst C;exact O
  ·cases C
 ·cases h
def acN{f:Nat}{cl:Operand}{ex:aa A}{args:Array Operand}{kQ:Array TypeId}{c:tF}{k:S->ah X}(ho:o.op = .call { callee:=.value cl,args,argTypes:=kQ })(vh:N2 (aK σ cl)=some (f,ex))(he:enters P f)(hc:kA P f c)
  (h:HN N σ o.dst c (args.toList.map (aK σ)++ex) k=some r):∃cS,k cS=some r/\lA P w0 N o σ cS:=by
 unfold HN at h
 haveI:Inhabited Wd:=⟨w0⟩
 obtain⟨pT,y,D,E⟩:=(hc.1 _ _ _).mT h;have Hp:=hc.2 _ _ _ _ _ (E _ _);have step:∀ a w K Q,R w0 N σ a w->(∀ v w' aA ρ',Rl w0 N aA ρ' pT a w'->RA w' w0.heap.size aA ρ' y v->K (a.put o.dst v) w')->o.wp P a w K Q:=by
  intro a w K Q C L;obtain⟨aj,ρ,C⟩:=C;obtain⟨T,hv,hs,jM⟩:=apx vh (C.aK cl);unfold Oper.wp;rw[apw w o a f cl T args kQ ho hv he,Oper.upon_enter]
  refine(Hp w0 aj ρ a w _ C (by simp[hs]) λi=>?_).mono λe w' tf=>?_
  ·by_cases hi:i<args.size
   ·have e1:(args.toList.map (aK σ)++ex)[i]?=some (aK σ args[i]):=by
     rw[List.getElem?_append_left (by simpa using hi),eF,Array.getElem?_toList,Array.getElem?_eq_getElem hi];rfl
    have U:(args.map a.eval++T).getD i undef=a.eval args[i]:=by
     rw[ir,Array.getElem?_append_left (by simpa using hi)];simp[hi]
    rw[e1,U];exact C.aK _
   ·have e0:(args.toList.map (aK σ)++ex)[i]?=ex[i-args.size]?:=by
     rw[List.getElem?_append_right (by simp;omega)];simp
    rw[e0];cases hp:ex[i-args.size]? with
    |none=>trivial
    | some p=>
     have U:(args.map a.eval++T).getD i undef=T.getD (i-args.size) undef:=by
      rw[ir,Array.getElem?_append_right (by simp;omega),ir];simp
     rw[U];exact jM _ p hp
  ·obtain⟨v,aA,ρ',rfl,O,Y⟩:=tf;exact L v w' aA ρ' O Y
 unfold gX at D;split at D
 ·rename_i E
  refine⟨pT,D,λa w K Q C L=>step a w K Q C λv w' aA ρ' O _=>?_⟩
  rw[E];exact L _ _ ⟨aA,ρ',O⟩
 ·rename_i d E;cases Z:Nat.blt d N with
  |false=>rw[Z]at D;cases D
  | true=>
   rw[Z,au]at D
   refine⟨_,D,λa w K Q C L=>step a w K Q C λv w' aA ρ' O Y=>?_⟩
   rw[E];exact L _ _ ⟨aA,ρ',O.set Y (by have:=cQ Z;omega)⟩
def acO:∀ (xs:aa Operand) (ps:aa (Nat×Nat)),HO σ xs=some ps -> ps.length=xs.length /\ ∀ aj ρ a w,Rl w0 N aj ρ σ a w -> ∀ (j:Nat) p,ps[j]?=some p -> ∃ b off,ρ p.1 = .aC b off/\(xs.map a.eval)[j]?=some (.pointer (some ⟨b,off+p.2,none⟩))
 | [],ps,h=>by
  simp only[HO,iu]at h;simp_all
 | x :: xs,ps,h=>by
  unfold HO at h;split at h
  ·rename_i rr j L O T;injection h with h;subst h;obtain⟨U,Z⟩:=acO xs L T
   refine⟨by simp[U],λaj ρ a w Y C p D=>?_⟩
   cases C with
   | zero=>
    simp at D;subst D;have E:=Y.aK x;rw[O]at E;obtain⟨b,off,e1,e2⟩:=E;simp_all
   |succ C =>grind
  ·cases h
end
def A.zC(q s n:Nat):A->A
 |.lf (.own [C])=>bif Nat.beq C q then .view [q] s 0 n else .lf (.own [C])
 |x=>x
def S.zC(σ:S)(p:Nat×Nat×Nat):S:=⟨λk=>(σ.t k).zC p.1 p.2.1 p.2.2,σ.m⟩
def VZ:aa (Nat×Nat×Nat)->S->S
 |[],σ=>σ
 |p::l,σ=>VZ l (σ.zC p)
def V0(c0 g:Nat):Mu->aa (Nat×Nat×Nat)
 |.sl q (.sl t _ _ l)=>bif Nat.ble 1000000 g&&Nat.blt q c0 then [(q,aD t,l.length)]else []
 |_=>[]
def HP(c0:Nat):aa PK->aa Mu->aa (Nat×Nat×Nat)
 |.v _ _::ps,C=>HP c0 ps C
 |.p _ _ _::ps,_::C=>HP c0 ps C
 |.s _ g::ps,D::C=>V0 c0 g D++HP c0 ps C
 |_,_=>[]
def HQ{X:Type}(N:Nat)(σ:S)(C:ah Tmp)(c:nW)(args:aa Operand)(k:S->ah X):ah X:=
 match mX σ c.ps args with
 |some D=>rW N σ C c args λE=>k (VZ (HP (iL C) c.ps D) E)
 |none=>none
section
variable {P:Program} {w w':World} {w0:Wd} {B N:Nat} {aj dI aA:bG} {ρ eU ρ':Nat->Loc} {σ:S} {a:Act} {X:Type} {d:Nat} {r:X} {o:Oper}
def Rl.zC{p:Nat×Nat×Nat}{ad:ah Addr}{c:Nat}(h:Rl w0 N aj ρ σ a w)(E:ρ p.1 = .dX (.slice ad p.2.2 c)):Rl w0 N aj ρ (σ.zC p) a w:=by
 refine⟨h.below,h.dg,h.root,λk=>?_,h.size,h.defers,h.fix,h.dz⟩
 have C:=h.tmp k;show RA _ _ _ _ ((σ.t k).zC p.1 p.2.1 p.2.2) _;generalize σ.t k=x at C;unfold A.zC;split
 ·rename_i L;cases O:Nat.beq L p.1 with
  |false=>exact C
  | true=>
   obtain rfl:=cD O;have D:=C.2;simp only[c8,E]at D;injection D with D;refine⟨ad,p.2.2,c,by simp[c8,E],Nat.zero_le _,dM _,?_⟩;rw[<- D];cases ad<;>simp[sliced,Addr.add]
 ·exact C
def acP:∀ (l:aa (Nat×Nat×Nat)) (σ:S),Rl w0 N aj ρ σ a w->(∀ p∈l,∃ A c,ρ p.1 = .dX (.slice A p.2.2 c))->Rl w0 N aj ρ (VZ l σ) a w
 |[],σ,h,_=>h
 | p :: l,σ,h,D=>by
  obtain⟨A,c,C⟩:=D p (.head _);exact acP l _ (h.zC C) λp C=>D p (.tail _ C)
def apy{c0 g:Nat}{E:Mu}{p:Nat×Nat×Nat}(h:p∈V0 c0 g E):∃ q t o C l,E = .sl q (.sl t o C l)/\p=(q,aD t,l.length)/\q<c0:=by
 unfold V0 at h;split at h
 ·rename_i q t o C l;cases D:(Nat.ble 1000000 g&&Nat.blt q c0)with
  |false=>simp_all
  | true=>
   rw[D]at h;rw[aN]at D;exact⟨q,t,o,C,l,rfl,List.mem_singleton.1 h,cQ D.2⟩
 ·cases h
def N3{c0:Nat}{p:Nat×Nat×Nat}:∀ (ps:aa PK) (C:aa Mu),p∈HP c0 ps C -> ∃ q t o D l,Mu.sl q (.sl t o D l)∈C/\p=(q,aD t,l.length)/\q<c0
 |.v _ _::ps,C,h=>N3 ps C h
 |.p _ _ _::ps,O::C,h=>let ⟨q,t,o,D,l,L,E⟩:=N3 ps C h;⟨q,t,o,D,l,.tail _ L,E⟩
 | .s _ g :: ps,O :: C,h=>by
  rcases List.mem_append.1 h with h|h
  ·obtain⟨q,t,o,D,l,rfl,E⟩:=apy h;exact⟨q,t,o,D,l,.head _,E⟩
  ·obtain⟨q,t,o,D,l,L,E⟩:=N3 ps C h;exact⟨q,t,o,D,l,.tail _ L,E⟩
def RV.apz{q:aa Nat}{t:TC}{g:Nat}{C:Bool}{l:aa (T t)}{v:Value}(h:RV w B aj q (.sl t g C l) v):∃ A c,v = .slice A l.length c:=by
 cases h<;>exact⟨_,_,rfl⟩
def apA{f:Nat}{args:Array Operand}{Y:Array TypeId}{c:nW}{k:S->ah X}(Z:o.op = .call { callee:=.value (.func f),args,argTypes:=Y })(he:enters P f)(hc:tu P f c)(h:HQ N σ o.dst c args.toList k=some r):∃ L,k L=some r/\lA P w0 N o σ L:=by
 unfold HQ at h;split at h
 ·rename_i VC O;obtain⟨pT,rV,cn,h1,D,_,h4,h5⟩:=Vz (w0:=w0) Z he hc h;rw[O]at D;injection D with D;subst D
  refine⟨_,h1,λa w K Q E hK=>?_⟩
  obtain⟨aj,ρ,E⟩:=E
  refine h5 a w K Q aj ρ E λv w' dI eU rY dD hv _ cz=>hK _ _ ⟨dI,rY,acP _ _ dD λp hp=>?_⟩
  obtain⟨q,t,oo,qn,l,T,rfl,hq⟩:=N3 _ _ hp;have jw:=(NK _ _ _ O _ T).1;have U:=E.root q _ jw;generalize C:bg.sl _=z at U;cases U with
  |aC=>cases C
  |mp=>cases C
  |gh=>cases C
  | sl u y U1 hr=>
   injection C with C;subst C;obtain⟨A,c,rfl⟩:=hr.apz;exact⟨A,c,(cz q hq).trans ((hv.eT q (h4 _ T)).trans U1)⟩
 ·cases h
def apB{C:ah Tmp}{c:nW}{args:aa Operand}:cL λX k=>HQ (X:=X) N σ C c args k:=λX Y k g=>by
 unfold HQ;split
 ·exact VW _ _ _ _
 ·rfl
end
def bG.un(aj:bG)(q:Nat):bG:=λb=>match aj b with
 |some k=>bif cU q k then none else some k
 |none=>none
def HR{X:Type}(P:Program)(σ:S)(q s i j:Nat)(t:TypeId)(x:A)(k:S->ah X):ah X:=
 match σ.m q with
 |some (.sl (.sl C (o+2) D l))=>bif Nat.beq s (aD C)&&Nat.beq (full C) 0 then pN P (σ.drop q) t (x.drop q) (.lf (.v (.sl C 0 false ((l.take j).drop i)))) k else none
 |_=>none
section
variable {P:Program} {w w':World} {w0:Wd} {B N:Nat} {aj aA:bG} {ρ ρ':Nat->Loc} {σ:S} {a:Act} {X:Type} {d q:Nat} {r:X} {o:Oper} {y:V}
def apC(C:∀ b,aj b≠some []):Rel q aj (aj.un q):=
 ⟨C,λb h=>by simp[bG.un,h],λb k h D=>by simp[bG.un,h,D]⟩
def RV.ice{C:TC}{g:Nat}{Y:Bool}{l:aa (T C)}{A:ah Addr}{n c:Nat}(E:RV w B aj [q] (.sl C (g+2) Y l) (.slice A n c))(hf:full C=0):RV w B (aj.un q) [] (.sl C 0 false l) (.slice A n c)/\n=l.length:=by
 cases E with
 |ep=>exact⟨.ep _ _ _,rfl⟩
 |fA=>grind
 |fK=>grind
 |aF _ _ _ _ _ _ _ _ _ ho=>omega
 | own=>
  rename_i b cs u Z O hc E hs hn hm;have U:∀ (i:Nat) (h:i<l.length) (j:Nat) (x:V),(enc C 0 l[i])[j]?=some x -> (enc C g l[i])[j]?=some x/\x.plain=true:=by
   intro i h j x D;obtain⟨y,L,rfl⟩:=wL C g l[i] j x D;have hp:=Na C g l[i] y (gN L);cases y with
   | sl t' o' q' l'=>
    have:=cQ (show Nat.ble _ _=true from hp);omega
   | nil=>
    have:=Ug C g l[i] _ (gN L);cases this
   |_=>exact⟨L,rfl⟩
  refine⟨.aF _ _ _ _ _ b 0 c u (by omega) (by simp[bG.un,Z,cU]) (iH.1 O).1 (by omega) hn (λi h j x D=>?_) (λi h j x D=>?_),rfl⟩
  ·rw[fk,cell_of_row w b _ cs _ _ O];simp_all
  ·exact(E i h j x (U i h j x D).1).sW (U i h j x D).2
def apD{s i j:Nat}{t:TypeId}{x:A}{k:S -> ah X}(h:HR P σ q s i j t x k=some r):∃ L,k L=some r /\ ∀ aj ρ a w,Rl w0 N aj ρ σ a w -> ∀ u v,RA w w0.heap.size aj ρ x u -> RA w w0.heap.size aj ρ (.view [q] s i j) v ->
  ∃w' aA,(Instr.storeAt t u v).run P w = .ok () w'/\Rl w0 N aA ρ L a w':=by
 unfold HR at h;split at h
 ·rename_i T g qn l hm;cases E:(Nat.beq s (aD T)&&Nat.beq (full T) 0)with
  |false=>rw[E]at h;cases h
  | true=>
   rw[E,au]at h;rw[aN]at E;obtain rfl:=cD E.1;have hf:=cD E.2;obtain⟨L,h1,hs⟩:=abu (w0:=w0) (N:=N) h
   refine⟨L,h1,λaj ρ a w O u v hu hv=>?_⟩
   have Y:Rel q aj (aj.un q):=apC O.wT;have vr:=O.rel Y (λb k C=>by
    unfold bG.un at C;cases U:aj b with
    |none=>rw[U]at C;cases C
    | some Z=>
     rw[U]at C;simp only at C;cases hq:cU q Z with
     |true=>rw[hq]at C;cases C
     | false=>
      rw[hq]at C;injection C with C;subst C;exact⟨⟨_,rfl⟩,(O.dg b Z U).2.2⟩)
   obtain⟨A,n,c,ic,h3,h4,rfl⟩:=hv;have eE:=O.root q _ hm;generalize D:bg.sl (.sl T (g+2) qn l)=z at eE;cases eE with
   |aC=>cases D
   |mp=>cases D
   |gh=>cases D
   | sl vq y cz hr=>
    injection D with D;subst D;have hvq:vq = .slice A n c:=by
     simp only[c8,cz]at ic;injection ic
    subst hvq;obtain⟨h5,h6⟩:=hr.ice hf;have h7:=(h5.part (by omega) h3 (by omega)).1;obtain⟨w',dB,oQ⟩:=hs _ _ _ _ vr u _ (hu.rel Y) (show RA _ _ _ _ (.lf (.v _)) _ from ⟨rfl,h7⟩);exact⟨w',_,dB,oQ⟩
 ·cases h
def apE{q s i j:Nat}{t:TypeId}{x:A}:cL λX k=>HR (X:=X) P σ q s i j t x k:=λX Y k g=>by
 unfold HR
 repeat' first|rfl|exact acD _ _ _ _|refine dj ?_ ?_|split
def Em{X:Type}(P:Program)(σ:S)(t:TypeId)(x lo hi C:A)(k:ah X):ah X:=
 match x,lo,hi,C with
 | .lf (.own q),.lf (.v (.int _ a)),.lf (.v (.int _ b)),.lf (.v (.int _ c))=>(match pK P t with
  | some e=>(match jk P e with
   | some _=>jb σ.m q λy=>(match y with
    |.sl _ _ _ l=>if 0<=a/\a<=b/\b<=c/\c<=(l.length:Int)then k else none
    |_=>none)
   |none=>none)
  |none=>none)
 |_,_,_,_=>none
def apF{t:TypeId}{x lo hi Z:A}{k:ah X}(h:Em P σ t x lo hi Z k=some r):k=some r /\
  ∀aj ρ a w,Rl w0 N aj ρ σ a w -> ∀u L O T,RA w w0.heap.size aj ρ x u -> RA w w0.heap.size aj ρ lo L -> RA w w0.heap.size aj ρ hi O -> RA w w0.heap.size aj ρ Z T -> ∃v,(Instr.sliceAt t u (some L) (some O) (some T)).run P w = .ok v w:=by
 unfold Em at h;split at h
 ·rename_i q kl a kh b km c;split at h
  ·rename_i e U;split at h
   ·rename_i n hn;obtain⟨y0,UU,C⟩:=rM q _ h;split at C
    ·rename_i tc g qn xs;split at C
     ·rename_i Y
      refine⟨C,λaj ρ ac w hR u L O T hu hl hh hm=>?_⟩
      rw[hl.2.gY,hh.2.gY,hm.2.gY];have fX:P.underlying t=some (.slice e):=by
       unfold pK at U;split at U
       ·grind
       ·cases U
      have iA:P.elem t=e:=by simp[Program.elem,fX]
      have acQ:P.underlying t=some (.slice (P.elem t)):=by rw[iA];exact fX
      have hss:(sizeOf (P.elem t)).run P w = .ok n w:=by
       unfold jk at hn;cases hi:P.info? e with
       |none=>grind
       | some i=>
        have:i.size=n:=by simpa [hi]using hn
        simp[sizeOf,typeInfo,iA,hi,this]
      obtain⟨v0,Bj,iB⟩:=UU.ok hR.root;have fW:∃ D n c,u = .slice D n c:=by
       have:=hu.1;cases u<;>first|cases this;done|exact⟨_,_,_,rfl⟩
      obtain⟨D,n',c',rfl⟩:=fW;have E:=hu.2;rw[Bj]at E;injection E with E;subst E;have hf:RV w 0 (λ_=>none) [] (.sl tc 0 qn xs) (.slice D n' c'):=iB.gn;obtain⟨_,zd,UT⟩:=RV.part (w:=w) hf (a:=0) (h:=xs.length) (by omega) (by omega) (by omega);refine⟨sliced D a.toNat b.toNat c.toNat n,?_⟩;rw[run_sliceAt_slice w t _ _ _ _ acQ,run_slice_lhm w t D n' c' acQ kl kh km a b c Y.1 Y.2.1 Y.2.2.1 (by omega),hss];rfl
     ·cases C
    ·cases C
   ·cases h
  ·cases h
 ·cases h
end
section
variable {P:Program} (w:World)
end
section
variable {P:Program} {w w':World} {w0:Wd} {B N:Nat} {aj aA:bG} {ρ ρ':Nat->Loc} {σ:S} {a:Act} {X:Type} {d:Nat} {r:X}
end
def mc(l:aa (Int×Bool))(k:Int):Bool:=match l with
 |[]=>false
 |p::ps=>bif k==p.1 then p.2 else mc ps k
def mY(l:aa (Int×Bool))(k:Int)(v:Bool):aa (Int×Bool):=match l with
 |[]=>[(k,v)]
 |p::ps=>bif k==p.1 then (k,v)::ps else p::mY ps k v
def En(P:Program)(t:TypeId):Bool:=match P.underlying t with
 | some (.map k e)=>(match P.underlying k with
  |some (.int .i64)=>true
  |_=>false)&&(match zeroOf P e with
  |some (.bool false)=>true
  |_=>false)
 |_=>false
def V1{X:Type}(N:Nat)(σ:S)(d:Nat)(k:S->ah X):ah X:=g9 N σ d (.mp []) (.pk d qx) k
def BJ{X:Type}(P:Program)(σ:S)(t:TypeId)(x i:A)(k:A->ah X):ah X:=
 match x,i with
 | .pk r n,.lf (.v (.int .i64 key))=>bif Nat.beq n qx&&En P t then (match σ.m r with
  |some (.mp l)=>k (.lf (.v (.bool (mc l key))))
  |_=>none)else none
 |_,_=>none
def BM{X:Type}(P:Program)(σ:S)(t:TypeId)(x i v:A)(k:S->ah X):ah X:=
 match x,i,v with
 | .pk r n,.lf (.v (.int .i64 key)),.lf (.v (.bool b))=>bif Nat.beq n qx&&En P t then (match σ.m r with
  |some (.mp l)=>k ⟨σ.t,cc σ.m r (some (.mp (mY l key b)))⟩
  |_=>none)else none
 |_,_,_=>none
section
variable {P:Program} {w w':World} {w0:Wd} {B N:Nat} {aj aA:bG} {ρ ρ':Nat->Loc} {σ:S} {a:Act} {X:Type} {d:Nat} {r:X} {o:Oper}
def acR{t:TypeId}(h:En P t=true):∃ k e i,P.underlying t=some (.map k e)/\P.underlying k=some (.int .i64)/\P.info? e=some i/\i.zero=some (.bool false):=by
 unfold En at h;split at h
 ·rename_i k e D;rw[aN]at h;obtain⟨E,L⟩:=h;have O:P.underlying k=some (.int .i64):=by
   grind
  have C:zeroOf P e=some (.bool false):=by
   grind
  unfold zeroOf at C;cases hi:P.info? e with
  |none=>simp_all
  |some i =>grind
 ·cases h
def Rl.newObj{E:Obj}{x:bg}{ρ':Nat -> Loc}(h:Rl w0 N aj ρ σ a w)(L:w0.F d=none)(O:∀ r,r≠d -> ρ' r=ρ r)
  (T:dY (w.alloc E) w0.heap.size (cc aj w.heap.size (some [d])) ρ' d x):Rl w0 N (cc aj w.heap.size (some [d])) ρ' ((σ.drop d).root d x) a (w.alloc E):=by
 refine h.yT L (ja.abC w0 w _ h.below.size) ⟨by simp,λb D _=>Below.heap_alloc w _ b D,λb D=>cM _ _ _ (by omega),λb D=>(h.dg b [] D).2.2 rfl⟩ (λb k D C=>?_) O T
 by_cases e:b=w.heap.size
 ·subst e;rw[cm]at C;injection C with C;subst C;simp_all
 ·rw[cM _ _ _ e]at C;have:=(h.dg b k C).2.1;omega
def apG{t:TypeId}{k:S -> ah X}(h:V1 N σ d k=some r):∃ C,k C=some r /\ ∀ aj ρ a w,Rl w0 N aj ρ σ a w -> ∃ w' aA ρ' v,(Instr.makeMap t none).run P w = .ok v w'/\Rl w0 N aA ρ' C (a.put (some d) v) w':=by
 obtain⟨D,h⟩:=oH h
 refine⟨_,h,λaj ρ a w E=>?_⟩
 have L:(Instr.makeMap t none).run P w = .ok _ _:=rfl
 refine⟨_,cc aj _ _,cc ρ d _,_,L,(E.newObj (E.dz d (.inl D)) (λr O=>cM _ _ _ O) ?_).set ⟨w.heap.size,cm _ _ _,(Uj _).symm⟩ D⟩
 exact .mp _ 0 #[] [] (cm _ _ _) (cm _ _ _) (heap_alloc_new w _) rfl
def apH:cL λX k=>V1 (X:=X) N σ d k:=NV
def apI{t:TypeId}{x i:A}:cL λX k=>BJ (X:=X) P σ t x i k:=λX Y k g=>by
 unfold BJ
 repeat' first|rfl|refine dj ?_ ?_|split
def apJ{t:TypeId}{x i v:A}:cL λX k=>BM (X:=X) P σ t x i v k:=λX Y k g=>by
 unfold BM
 repeat' first|rfl|refine dj ?_ ?_|split
def BN(l:aa (Int×Bool)):aa (Value×Value):=l.map λp=>(.int .i64 p.1,.bool p.2)
def V2:∀ (D:aa MapEntry) (l:aa (Int×Bool)) (k:Int) (n:Nat),D.map (λe=>(e.key,e.val))=BN l ->
  (Instr.findNow (.int .i64) (.int .i64 k) D n=some none/\mc l k=false /\ ∀v,mY l k v=l++[(k,v)]) \/
  (∃i b,Instr.findNow (.int .i64) (.int .i64 k) D n=some (some (n+i,.bool b))/\mc l k=b /\ ∃h:i<D.length,D[i].key = .int .i64 k /\ ∀v,BN (mY l k v)=(D.modify i λe=>{ e with key:=.int .i64 k,val:=.bool v }).map (λe=>(e.key,e.val)))
 |[],[],k,n,_=>.inl ⟨rfl,rfl,λv=>rfl⟩
 |[],_::_,k,n,h=>by cases h
 |_::_,[],k,n,h=>by cases h
 | e :: D,p :: l,k,n,h=>by
  have h:(e.key,e.val) :: D.map (λe=>(e.key,e.val))=(.int .i64 p.1,.bool p.2) :: BN l:=h;injection h with Z T;injection Z with U hv;have E:Instr.sameNow (.int .i64) (.int .i64 k) e.key=some (k==p.1):=by
   rw[U];simp[Instr.sameNow]
  cases C:(k==p.1)with
  | true=>
   have hkp:k=p.1:=by simpa using C
   refine .inr ⟨0,p.2,?_,by simp only[mc,C,au],by simp,by simp[U,hkp],λv=>?_⟩
   ·simp only[Instr.findNow,E,C,hv];rfl
   ·simp only[mY,C];simp;show _::BN l=_;rw[T]
  | false=>
   rcases V2 D l k (n+1) T with ⟨Y,L,O⟩|⟨i,b,Y,L,hi,O,a4⟩
   ·refine .inl ⟨?_,by simp[mc,C,aq,L],λv=>by simp only[mY,C,O];rfl⟩
    simp[Instr.findNow,E,C];exact Y
   ·refine .inr ⟨i+1,b,?_,by simp only[mc,C,aq,L],by simpa using hi,by simpa using O,λv=>?_⟩
    ·simp[Instr.findNow,E,C]
     grind
    ·simp only[mY,C];simp;show _ :: BN _=_
     grind
def N4{kt:TypeId}{k:Int}{C:aa MapEntry}{z:ah (Nat×Value)}(D:P.underlying kt=some (.int .i64))(h:Instr.findNow (.int .i64) (.int .i64 k) C 0=some z):(Instr.findKey kt (.int .i64 k) C).run P w = .ok z w:=by
 unfold Instr.findKey;simp only[fV,gO D,lS,h];rfl
def apK{t:TypeId}{x i:A}{k:A -> ah X}(h:BJ P σ t x i k=some r):∃ v,k v=some r/\lW (λX k=>BJ (X:=X) P σ t x i k) v /\ ∀ aj ρ a w,Rl w0 N aj ρ σ a w -> ∀ u z,RA w w0.heap.size aj ρ x u -> RA w w0.heap.size aj ρ i z ->
  ∃y,(Instr.lookup t u z false).run P w = .ok y w/\RA w w0.heap.size aj ρ v y:=by
 unfold BJ at h;split at h
 ·rename_i rr n key;cases D:(Nat.beq n qx&&En P t)with
  |false=>grind
  | true=>
   rw[D,au]at h;split at h
   ·rename_i l T
    refine⟨_,h,λX k=>by simp only[BJ,D,au,T],λaj ρ a w hR u z hu E=>?_⟩
    rw[aN]at D;obtain⟨kt,et,ti,ht,L,hi,hz0⟩:=acR D.2;have hn:=cD D.1;subst hn;obtain⟨b,cz,rfl⟩:=hu;have E:z = .int .i64 key:=by
     have h2:=E.2;cases h2;rfl
    subst E;have U:=hR.root rr _ T;generalize C:bg.mp l=y at U;cases U with
    |aC=>cases C
    |sl=>cases C
    |gh=>cases C
    | mp b' c es l' Y hl hh N5=>
     injection C with C;subst C;rw[cz]at Y;injection Y with e1 _;subst e1;refine⟨.bool (mc l key),?_,rfl,.bool _ _⟩;rw[Uj];unfold Instr.lookup;simp only[fV,gO ht,lS,MapKept.run_getObj_map hh,Sem.run_pure];rw[MapKept.run_checkKey (k:=.int .i64 key) L rfl];simp only[lS];rcases V2 es.toList l key 0 N5 with ⟨O,Z,_⟩|⟨i,v,O,Z,_⟩
     ·rw[N4 L O];have DX:(zeroValue et).run P w = .ok (.bool false) w:=by simp[zeroValue,typeInfo,hi,hz0]
      simp_all
     ·rw[N4 L O];simp only[ Z,fV];rfl
   ·cases h
 ·cases h
def apL{t:TypeId}{x i v:A}{k:S -> ah X}(h:BM P σ t x i v k=some r):∃ U,k U=some r/\lW (λX k=>BM (X:=X) P σ t x i v k) U /\ ∀ aj ρ a w,Rl w0 N aj ρ σ a w -> ∀ u z y,RA w w0.heap.size aj ρ x u -> RA w w0.heap.size aj ρ i z -> RA w w0.heap.size aj ρ v y ->
  ∃w',(Instr.mapUpdate t u z y).run P w = .ok () w'/\Rl w0 N aj ρ U a w':=by
 unfold BM at h;split at h
 ·rename_i rr n key Y;cases L:(Nat.beq n qx&&En P t)with
  |false=>grind
  | true=>
   rw[L,au]at h;split at h
   ·rename_i l hm
    refine⟨_,h,λX k=>by simp only[BM,L,au,hm],λaj ρ a w Z u z y hu hz C=>?_⟩
    rw[aN]at L;obtain⟨kt,et,ti,ht,V3,hi,hz0⟩:=acR L.2;have hn:=cD L.1;subst hn;obtain⟨b,cz,rfl⟩:=hu;have hz:z = .int .i64 key:=by
     have h2:=hz.2;cases h2;rfl
    subst hz;have C:y = .bool Y:=by
     have h2:=C.2;cases h2;rfl
    subst C;have eE:=Z.root rr _ hm;generalize D:bg.mp l=y at eE;cases eE with
    |aC=>cases D
    |sl=>cases D
    |gh=>cases D
    | mp b' c es l' gK hl T N5=>
     injection D with D;subst D;rw[cz]at gK;injection gK with e1 _;subst e1;have VQ:b<w.heap.size:=(iH.1 T).1;have BG:∀ (E:Array MapEntry) (O:Nat),E.toList.map (λe=>(e.key,e.val))=BN (mY l key Y) -> Rl w0 N aj ρ ⟨σ.t,cc σ.m rr (some (.mp (mY l key Y)))⟩ a { w with heap:=w.heap.setIfInBounds b (.map E O) }:=by
      intro E O apM;have hW:uY w { w with heap:=w.heap.setIfInBounds b (.map E O) } b:=by
       refine⟨by simp,rfl,rfl,rfl,λk hk=>?_⟩
       show _[k]?=_;rw[Array.getElem?_setIfInBounds_ne (Ne.symm hk)]
      have hC:qA w { w with heap:=w.heap.setIfInBounds b (.map E O) } aj ρ:=by
       intro k ad v ha hv fW;obtain⟨j',i',s',q,rfl,hq,_,_,hh'⟩:=Ba k ad ha;have dc:ad.block≠b:=by
        grind
       exact(World.cell?_of_block (hW.block _ dc)).trans hv
      refine Z.wrote hW hl hC λr' y C=>?_
      by_cases mS:r'=rr
      ·subst mS;rw[cm]at C;injection C with C;subst C;refine .mp b O E _ cz hl ?_ apM;simp_all
      ·rw[cM _ _ _ mS]at C;exact(Z.root r' y C).wrote hW hl hC (abl mS)
     rw[Uj];unfold Instr.mapUpdate;simp only[fV,gO ht,lS,MapKept.run_getObj_map T,Sem.run_pure];rw[MapKept.run_checkKey (k:=.int .i64 key) V3 rfl];simp only[lS];rcases V2 es.toList l key 0 N5 with ⟨a1,a2,a3⟩|⟨i,v,a1,a2,rZ,a3,a4⟩
     ·rw[N4 V3 a1];simp;rw[MapKept.run_setObj_map _ T];refine⟨_,rfl,BG _ _ ?_⟩;rw[a3];simp only[Array.toList_push,List.map_append,N5,BN];rfl
     ·rw[N4 V3 a1];simp only[lS,fk];have wU:(es[i]?.map (·.key)).getD (.int .i64 key) = .int .i64 key:=by
       grind
      rw[wU];have jN:(Instr.keyThatStays (.int .i64 key) (.int .i64 key)).run P w = .ok (.int .i64 key) w:=by
       unfold Instr.keyThatStays;simp[Instr.sameBits]
      simp only[fV];rw[jN];simp only[lS];rw[MapKept.run_setObj_map _ T];refine⟨_,rfl,BG _ _ ?_⟩;rw[a4];simp
   ·cases h
 ·cases h
end
def N6(t:TypeId)(d:Nat)(x:Operand):Bool:=[(89,26,22)].any λ(p:Nat×Nat×Nat)=>Nat.beq p.1 t&&Nat.beq p.2.1 d&&(match x with
 |.tmp n=>Nat.beq n p.2.2 ||Nat.beq p.2.2 1000000
 |_=>false)
def BO(C:ah Tmp)(t:TypeId)(x:Operand):Bool:=match C with
 |some d=>N6 t d x
 |none=>false
def HS{X:Type}(P:Program)(N:Nat)(σ:S)(d:Nat)(t:TypeId)(x y:A)(k:S->ah X):ah X:=
 match vg P t with
 | some (e,C)=>bif Nat.beq (full C) 0&&(zeroOf P e).any (λz=>Nat.beq z.cells.size (aD C))then rN σ y λD=>(match D.Nr C with
  |none=>none
  | some l2=>match x with
   | .lf (.own [r])=>(match σ.m r with
    |some (.sl (.sl E (o+2) true l))=>if h:E=C then (bif !jt l2&&bO (l.length+l2.length)then g9 N σ d (.sl (.sl C (o+2) false ((h ▸ l)++l2))) (.lf (.own [d])) k else none)else none
    |_=>none)
   |_=>none)else none
 |none=>none
section
variable {P:Program} {w w':World} {w0:Wd} {B N:Nat} {aj aA:bG} {ρ ρ':Nat->Loc} {σ:S} {a:Act} {X:Type} {d:Nat} {r:X}
def Rl.apN{t e ty:TypeId}{C:TC}{i:TypeInfo}{z:Value}{rr o g:Nat}{qn:Bool}{l l2:aa (T C)}{u v:Value}{q':aa Nat}{Bx:Nat}{UF:bG}(h:Rl w0 N aj ρ σ a w)(hF:w0.F d=none)(fX:P.underlying t=some (.slice e))(ht:tid C=e)(hi:P.info? e=some i)(hz:i.zero=some z)
  (gG:i.size=aD C) (jC:i.bytes <= 65536) (mG:z.cells.size=aD C) (hf:full C=0) (hd:RV w w0.heap.size aj [rr] (.sl C (o+2) true l) u) (hs:RV w Bx UF q' (.sl C g qn l2) v) (dc:l2≠[]) (hlen:l.length+l2.length<1073741824):
  ∃L w' aA,(Builtin.append_ #[t,t] ty #[u,v]).run P w = .ok L w'/\Rl w0 N aA (cc ρ d (.dX L)) ((σ.drop d).root d (.sl (.sl C (o+2) false (l++l2)))) a w'/\mP L=true:=by
 subst ht;obtain⟨xs,O,NA,G0,iA⟩:=hd.abF hf (B':=0) (λb _=>Nat.zero_le b);obtain⟨A,c,news,rfl,qF,lD,G1⟩:=hs.reads hf;have gJ:(l.length+l2.length)*i.bytes <= 140737488355328:=by
  have h1:(l.length+l2.length)*i.bytes <= 1073741824*65536:=Nat.mul_le_mul (by omega) jC;omega
 have s7:0<l2.length:=List.length_pos_iff.2 dc;obtain⟨L,w',dB,acS,hgr,lX⟩:=T4 (P:=P) w 0 t ty (tid C) i z (aD C) i.bytes fX hi hz gG rfl mG (oA C) u l.length xs O _ A l2.length c news qF lD (by unfold maxLen;omega) gJ (Nat.zero_le _);have G2:(l++l2).length=l.length+l2.length:=List.length_append;have hex:∃ b,u = .slice (some ⟨b,0,none⟩) l.length l.length:=by
  cases hd with
  |aF _ _ _ _ _ _ _ _ _ ho=>omega
  |fK _ _ _ _ _ ho=>omega
  |own _ _ _ _ _ b cap cs us hl hh hs hn hm hc hr=>exact⟨b,by rw[hm.2 rfl]⟩
 obtain⟨b,rfl⟩:=hex;obtain⟨U,Y,rfl,_,gp⟩:=qF.2 s7;have apO:∀ j x,news[j]?=some x -> w.cell? ((⟨U,Y,none⟩:Addr).add j)=some x:=by
  intro j x hx;have M8:(⟨U,Y,none⟩:Addr).add j=⟨U,Y+j,none⟩:=by unfold Addr.add;split<;>simp_all
  grind
 have acT:=run_append_grow (P:=P) w t ty (tid C) i z fX hi hz ⟨b,0,none⟩ l.length l.length xs (by rw[gG];exact O.1) (O.cells (g:=b) rfl) ⟨U,Y,none⟩ l2.length c news (by rw[gG];exact qF.1) apO (by omega) (by omega) (growslice_fits (by omega) gJ);rw[dB]at acT;injection acT with e1 e2;have hold:∀ k,k<w.heap.size -> w'.heap[k]?=w.heap[k]?:=by
  intro k E;rw[e2];exact heap_alloc_old _ _ E
 have hvb:L.ownBlock=some w.heap.size:=by rw[e1];rfl
 have dA:w.heap.size<w'.heap.size:=by rw[e2];simp
 rw[<- G2]at acS;have Bi:=iA.append G1 O.1;have fW:mP L=true:=by rw[e1];rfl
 have Z:Below 0 w w':=(Below.refl 0 w).grown hgr (Nat.zero_le _) (λ_ _=>Nat.zero_le _);have kz:ja w0 w w':=⟨Z.os,Z.tape,Z.output,Z.size,λk E hL=>hold k (Nat.lt_of_lt_of_le E h.below.size)⟩
 refine⟨L,w',cc aj w.heap.size (some [d]),dB,h.yT hF kz ⟨hgr.size,λb D _=>hold b D,λb D=>cM _ _ _ (by omega),λb D=>(h.dg b [] D).2.2 rfl⟩ (λb k D E=>?_) (λr hr=>cM _ _ _ hr) (.sl L _ (cm _ _ _) (UE acS Bi (λb D=>?_))),fW⟩
 ·by_cases e:b=w.heap.size
  ·subst e;rw[cm]at E;injection E with E
   grind
  ·rw[cM _ _ _ e]at E;have:=(h.dg b k E).2.1;omega
 ·rw[hvb]at D;injection D with D;subst D;exact cm _ _ _
def apP{t ty:TypeId}{x y:A}{k:S -> ah X}(h:HS P N σ d t x y k=some r):∃ Y,k Y=some r /\ ∀ aj ρ a w,Rl w0 N aj ρ σ a w -> ∀ u v,RA w w0.heap.size aj ρ x u -> RA w w0.heap.size aj ρ y v ->
  ∃w' aA ρ' z,(Builtin.append_ #[t,t] ty #[u,v]).run P w = .ok z w'/\Rl w0 N aA ρ' Y (a.put (some d) z) w':=by
 unfold HS at h;split at h
 ·rename_i e Z oJ;obtain⟨fX,ht,i,hi,gG,jC⟩:=yV oJ;cases E:(Nat.beq (full Z) 0&&(zeroOf P e).any (λz=>Nat.beq z.cells.size (aD Z)))with
  |false=>grind
  | true=>
   rw[E,au]at h;rw[aN]at E;have hf:=cD E.1;obtain⟨z,hz,T⟩:=(Option.any_eq_true _ _).1 E.2;have T:=cD T;have oK:i.zero=some z:=by unfold zeroOf at hz;simpa [hi]using hz
   obtain⟨yv,Nv,C⟩:=abG (w0:=w0) (N:=N) h;clear h;split at C
   ·cases C
   ·rename_i l2 ku;split at C
    ·rename_i rr;split at C
     ·rename_i t' o l hm;split at C
      ·rename_i mV;subst mV;cases L:(!jt l2&&bO (l.length+l2.length))with
       |false=>grind
       | true=>
        rw[L,au]at C;rw[aN]at L;have dc:l2≠[]:=by rintro rfl;cases L.1
        have G3:l.length+l2.length<1073741824:=by simpa [bO]using L.2
        obtain⟨hd,h3⟩:=oH C
        refine⟨_,h3,λaj ρ a w O u v hu hv=>?_⟩
        obtain⟨q',_,_,U⟩:=Nv aj ρ a w O v hv;obtain⟨g,qn,U⟩:=UH ku U;have eE:=O.root rr _ hm;generalize D:bg.sl (.sl t' (o+2) true l)=x at eE;cases eE with
        |aC=>cases D
        |mp=>cases D
        |gh=>cases D
        | sl uu y cz hr=>
         injection D with D;subst D;have GY:uu=u:=by
          have h4:=hu.2;simp only[c8,cz]at h4;simp_all
         subst GY;obtain⟨v',w',aA,dB,dD,fW⟩:=O.apN (ty:=ty) (d:=d) (O.dz d (.inl hd)) fX ht hi oK gG jC T hf hr U dc G3;exact⟨w',aA,_,v',dB,dD.set ⟨fW,by simp[c8,cm]⟩ hd⟩
      ·cases C
     ·cases C
    ·cases C
 ·cases h
def apQ{t:TypeId}{x y:A}:cL λX k=>HS (X:=X) P N σ d t x y k:=λX Y k g=>by
 unfold HS;split
 ·refine dj ((VJ _ _ _ _).trans (aY _ (funext λC=>?_))) rfl
  repeat' first|rfl|exact NV _ _ _ _|refine dj ?_ ?_|split
 ·rfl
def HT{X:Type}(P:Program)(N:Nat)(σ:S)(d:Nat)(t:TypeId)(x y:A)(k:S->ah X):ah X:=
 match x with
 |.view q s i j=>G4 P N σ d t (.view q s i j) y k
 |x=>HS P N σ d t x y k
def apR{t ty:TypeId}{x y:A}{k:S->ah X}(h:HT P N σ d t x y k=some r):∃ C,k C=some r/\∀ aj ρ a w,Rl w0 N aj ρ σ a w->∀ u v,RA w w0.heap.size aj ρ x u->RA w w0.heap.size aj ρ y v->
  ∃w' aA ρ' z,(Builtin.append_ #[t,t] ty #[u,v]).run P w = .ok z w'/\Rl w0 N aA ρ' C (a.put (some d) z) w':=by
 unfold HT at h;split at h
 ·exact anO h
 ·exact apP h
def apS{t:TypeId}{x y:A}:cL λX k=>HT (X:=X) P N σ d t x y k:=λX Y k g=>by
 unfold HT;split
 ·exact anP _ _ _ _
 ·exact apQ _ _ _ _
end
abbrev ez:=Nat->ah pV
def fL(P:Program)(Φ:ez):Prop:=∀f c,Φ f=some c->enters P f/\VU P f c
def gL{X:Type}(o:Oper)(k:Nat->ah X):ah X:=
 match o.dst with
 |some d=>k d
 |none=>none
def fM:Op->Bool
 |.move _|.assign _|.pick .. |.build .. |.load .. |.binOp .. |.unOp .. |.convert .. |.fieldAddr .. |.field .. |.indexAddr .. |.index .. |.extract .. |.nilCheck _=>true
 |.call ⟨.builtin .len,_,_⟩|.call ⟨.builtin .max,_,_⟩|.call ⟨.builtin .min,_,_⟩=>true
 |.slice _ _ _ _ none=>true
 |_=>false
def me{X:Type}(P:Program)(σ:S)(C:Op)(k:A->ah X):ah X:=
 match C with
 |.move x=>k (aK σ x)
 |.assign x=>k (aK σ x)
 | .pick c x y=>(match aK σ c with
  |.lf (.v (.bool b))=>bif b then k (aK σ x)else k (aK σ y)
  |_=>none)
 |.build t parts=>D0 P σ t parts.toList k
 |.load t x=>nP P σ t (aK σ x) k
 |.binOp C t x y _=>zc P σ C t (aK σ x) (aK σ y) k
 |.unOp C _ x=>vK (aK σ x) λa=>GQ C a λz=>k (.lf (.v z))
 |.convert s d x=>yZ P σ s d (aK σ x) k
 |.fieldAddr s x f=>DT P s (aK σ x) f k
 |.field s x f=>G9 P s (aK σ x) f k
 |.indexAddr t x i=>yQ P σ t (aK σ x) (aK σ i) k
 |.index t x i=>He P t (aK σ x) (aK σ i) k
 |.extract x i=>Bg (aK σ x) i k
 |.nilCheck x=>NY (aK σ x) k
 |.call ⟨.builtin .len,⟨[x]⟩,⟨[t]⟩⟩=>Bf P σ t (aK σ x) k
 |.call ⟨.builtin .max,⟨[x,y]⟩,⟨[_,_]⟩⟩=>D1 true (aK σ x) (aK σ y) k
 |.call ⟨.builtin .min,⟨[x,y]⟩,⟨[_,_]⟩⟩=>D1 false (aK σ x) (aK σ y) k
 |.slice t x lo hi none=>zf P σ t (aK σ x) (lo.map (aK σ)) (hi.map (aK σ)) k
 |_=>none
def iD{X:Type}(P:Program)(N:Nat)(Φ:ez)(σ:S)(o:Oper)(k:S->ah X):ah X:=
 match o.op with
 |.alloc e=>gL o λd=>qD P N σ d e k
 |.box e x=>gL o λd=>zB N σ d (aK σ x) k
 |.buildSlice t len parts=>gL o λd=>bif pU t then xm P N σ d t len parts.toList k else yY P N σ d t len parts.toList k
 | .store t x y=>(match o.dst with
  |none=>bif xo (aK σ x) (aK σ y)then tD P σ t (aK σ x) (aK σ y) k else pN P σ t (aK σ x) (aK σ y) k
  |some _=>none)
 |.makeSlice t l c=>gL o λd=>yU P N σ d t (aK σ l) (aK σ c) k
 | .call ⟨.value (.func f),args,_⟩=>(match Φ f with
  |some (.p c)=>gL o λd=>aoc N σ d c args.toList k
  |some (.m c)=>rW N σ o.dst c args.toList k
  |some (.v c)=>gL o λd=>HM N σ d c args.toList k
  |some (.n F)=>none
  |some (.i c)=>HN N σ o.dst c (args.toList.map (aK σ)++[]) k
  |some (.d c)=>HI N σ o.dst c args.toList k
  |some (.q c)=>gL o λd=>aob N σ d c args.toList k
  |some (.c c)=>HQ N σ o.dst c args.toList k
  |none=>none)
 |.call ⟨.builtin .append,⟨[x,y]⟩,⟨[t,C]⟩⟩=>bif Nat.beq t C then gL o λd=>bif pU t then HK P N σ d t (aK σ x) (aK σ y) k else bif N6 t d x then HT P N σ d t (aK σ x) (aK σ y) k else sY P N σ d t (aK σ x) (aK σ y) k else none
 |.makeMap _ none=>gL o λd=>V1 N σ d k
 |.lookup t x i false=>BJ P σ t (aK σ x) (aK σ i) λv=>gX N σ o.dst v k
 | .mapUpdate t x i v=>(match o.dst with
  |none=>BM P σ t (aK σ x) (aK σ i) (aK σ v) k
  |some _=>none)
 | .call ⟨.value (.tmp t),args,_⟩=>(match N2 (aK σ (.tmp t))with
  | some (f,ex)=>(match Φ f with
   |some (.i c)=>HN N σ o.dst c (args.toList.map (aK σ)++ex) k
   |_=>none)
  |none=>none)
 | .makeFunc (.func f) ⟨[]⟩ D=>(match HO σ D.toList with
  |some ps=>gX N σ o.dst (.fn f ps) k
  |none=>none)
 |.call ⟨.builtin .clear,⟨[x]⟩,⟨[t]⟩⟩=>G5 P σ t (aK σ x) λE=>gX N E o.dst .undef k
 |_=>none
def dP{X:Type}(P:Program)(N:Nat)(Φ:ez)(σ:S)(o:Oper)(k:S->ah X):ah X:=
 bif fM o.op then me P σ o.op λv=>gX N σ o.dst v k else iD P N Φ σ o k
def HU{X:Type}(P:Program)(N:Nat)(Φ:ez)(σ:S)(o:Oper)(k:S->ah X):ah X:=
 match o.op,o.dst with
 | .store t x y,none=>(match aK σ y with
  |.view [q] s i j=>HR P σ q s i j t (aK σ x) k
  |_=>dP P N Φ σ o k)
 |.slice t x (some lo) (some hi) (some C),some d=>Em P σ t (aK σ x) (aK σ lo) (aK σ hi) (aK σ C) (bif Nat.blt d N then k (σ.set d .undef)else none)
 |_,_=>dP P N Φ σ o k
def fN(σ:S)(ops:Array Oper)(o:Oper):ah Bool:=
 match o.guard with
 |none=>some true
 | some (j,want)=>match (ops[j]?).bind (·.dst)with
  | some t=>(match σ.t t with
   |.lf (.v (.bool b))=>some (b==want)
   |.skip=>some false
   |_=>none)
  |none=>none
def HV(ops:Array Oper)(j:Nat):Bool:=ops.toList.any λo=>match o.guard with
 |some (i,_)=>Nat.beq i j
 |none=>false
def sg{X:Type}(σ:S)(C:ah Tmp)(g:Bool)(k:S->ah X):ah X:=
 bif g then (match C with
  | some d=>(match σ.t d with
   |.lf (.v (.bool b))=>bif b then k (σ.set d (.lf (.v (.bool true))))else k (σ.set d (.lf (.v (.bool false))))
   |_=>k σ)
  |none=>k σ)else k σ
def BP{X:Type}(P:Program)(N:Nat)(Φ:ez)(ops:Array Oper):Nat->aa Oper->S->(S->ah X)->ah X
 |_,[],σ,k=>k σ
 | j,o :: rest,σ,k=>match fN σ ops o with
  |some true=>HU P N Φ σ o λC=>sg C o.dst (HV ops j) λD=>BP P N Φ ops (j+1) rest D k
  |some false=>gX N σ o.dst .skip λC=>BP P N Φ ops (j+1) rest C k
  |none=>none
/-! Regions whose order is open: what is listed is a set of bits. -/
def dH{X:Type}(P:Program)(N:Nat)(Φ:ez)(ops:Array Oper)(σ:S)(o:Oper)(k:S->ah X):ah X:=
 match fN σ ops o with
 |some true=>dP P N Φ σ o k
 |some false=>gX N σ o.dst .skip k
 |none=>none
def lH(ops:Array Oper)(L j:Nat):Bool:=!L.testBit j&&(match ops[j]? with
 |some o=>o.after.toList.all λe=>!Region.binds .any e ||L.testBit e.on
 |none=>false)
def HW(ops:Array Oper)(i W j:Nat):Bool:=(match ops[j]? with
 |some o=>o.after.toList.any λe=>Region.binds .any e&&(Nat.beq e.on i ||W.testBit e.on)
 |none=>false)
def waits(ops:Array Oper)(i:Nat):Nat->Nat->Nat->Nat
 |0,_,W=>W
 |n+1,j,W=>waits ops i n (j+1) (bif HW ops i W j then W |||2 ^ j else W)
def fE(o:Oper)(n:Nat):Bool:=match o.dst with
 | some d=>(match o.op with
  |.alloc _|.box .. |.buildSlice .. |.makeSlice ..=>Nat.beq n d
  |.call ⟨.value (.func _),_,_⟩=>Nat.ble (1000000000100000+1000*d) n
  |.call ⟨.builtin .append,_,_⟩=>Nat.beq n d
  |_=>false)
 |none=>false
def N7(Φ:ez)(C:Op):Bool:=fM C || (match C with
 |.alloc _|.box .. |.buildSlice .. |.makeSlice ..=>true
 | .call ⟨.value (.func f),_,_⟩=>(match Φ f with
  |some (.p _)=>true
  |some (.q _)=>true
  |_=>false)
 |_=>false)
def jx(g:Oper->Bool)(ops:Array Oper)(i L W:Nat):Nat->Nat->Bool
 |0,_=>false
 | f+1,j=>(!(Nat.beq j i || L.testBit j || W.testBit j)&&(match ops[j]? with
  |some C=>g C
  |none=>false)) ||jx g ops i L W f (j+1)
def HX(g:Oper->Bool)(ops:Array Oper)(C:Oper)(i L W:Nat):Nat->Nat->Bool
 |0,_=>true
 | n+1,j=>(Nat.beq j i || L.testBit j || (bif W.testBit j then HW ops i W j else (match ops[j]? with
  |some D=>g D&&C.apart ops D
  |none=>true)))&&HX g ops C i L W n (j+1)
def acU(ok:Nat->Nat->Bool)(σ:S):aa PK->aa Operand->Bool
 | .p _ _ _ :: ps,.tmp t :: xs=>(match σ.t t with
  |.aJ r _=>ok t r
  |_=>false)&&acU ok σ ps xs
 |.v _ _::ps,_::xs=>acU ok σ ps xs
 |[],[]=>true
 |_,_=>false
def n6(σ:S):aa PK->aa Operand->aa Nat
 | .p _ _ _ :: ps,x :: xs=>(match aK σ x with
  |.aJ r _=>r::n6 σ ps xs
  |_=>n6 σ ps xs)
 |_::ps,_::xs=>n6 σ ps xs
 |_,_=>[]
def sj(Φ:ez)(σ:S)(o:Oper):aa Nat:=match o.op with
 | .call ⟨.value (.func f),args,_⟩=>(match Φ f with
  |some (.m c)=>n6 σ c.ps args.toList
  |_=>[])
 |_=>[]
def kS(t:Nat)(o:Oper):Bool:=match o.dst with
 |some d=>Nat.beq d t
 |none=>false
def vw(o:Oper):Bool:=(match o.op with
 |.alloc _=>true
 |_=>false)&&o.guard.isNone&&(match o.dst with
 |some d=>Nat.blt d 20000
 |none=>false)
def n7(o:Oper):Bool:=(match o.op with
 |.alloc _=>true
 |.buildSlice t _ _=>!pU t
 |.makeSlice ..=>true
 |_=>false)&&(match o.dst with
 |some d=>Nat.blt d 20000
 |none=>false)
def isApp(o:Oper):Bool:=match o.op with
 |.call ⟨.builtin .append,⟨[x,_]⟩,⟨[t,C]⟩⟩=>!pU t&&Nat.beq t C && !BO o.dst t x
 |_=>false
def A.oU(p pb:Nat->Bool):A->Bool:=A.fr (vt p pb)
def BQ(σ:S)(o:Oper):aa Nat:=match o.op with
 | .store _ (.tmp t) _=>(match σ.t t with
  |.aJ r _=>[r]
  |_=>[])
 | .call ⟨.builtin .append,⟨[.tmp t,_]⟩,⟨[_,_]⟩⟩=>(match σ.t t with
  |.lf (.own [r])=>[r]
  |_=>[])
 |_=>[]
def N8(σ:S)(o:Oper):aa Nat:=match o.op with
 | .call ⟨.builtin .append,⟨[.tmp t,_]⟩,⟨[_,_]⟩⟩=>(match σ.t t with
  |.lf (.own [r])=>[r]
  |_=>[])
 |_=>[]
def apT(t:Nat)(o:Oper):Bool:=match o.op with
 |.store _ (.tmp C) _=>Nat.beq C t
 |_=>false
def faR(ops:Array Oper)(i L W:Nat)(σ:S)(o:Oper):aa Nat:=match o.op,o.dst with
 | .fieldAddr _ (.tmp x) _,some t=>bif jx (apT t) ops i L W ops.size 0 then (match σ.t x with
  |.aJ r _=>[r]
  |_=>[])else []
 |_,_=>[]
def BR(Φ:ez)(ops:Array Oper)(i L W:Nat)(σ:S)(n:Nat):Bool:=
 jx (λo=>fE o n) ops i L W ops.size 0 ||jx (λo=>dG n (sj Φ σ o) ||dG n (BQ σ o)) ops i L W ops.size 0
def zD(Φ:ez)(ops:Array Oper)(i L W:Nat)(σ:S)(n:Nat):Bool:=
 BR Φ ops i L W σ n ||jx (λo=>dG n (faR ops i L W σ o)) ops i L W ops.size 0
def BS(σ:S)(ops:Array Oper)(i L W n:Nat):Bool:=jx (λo=>fE o n) ops i L W ops.size 0 ||jx (λo=>dG n (N8 σ o)) ops i L W ops.size 0
def zE(Φ:ez)(o:Oper):Bool:=match o.op with
 | .call ⟨.value (.func f),_,_⟩=>(match Φ f with
  |some (.p _)=>true
  |_=>false)
 |_=>false
def mg(Φ:ez)(ops:Array Oper)(i L W t:Nat):Bool:=!jx (λok=>kS t ok && !(n7 ok ||isApp ok ||zE Φ ok)) ops i L W ops.size 0
def V4(Φ:ez)(ops:Array Oper)(i L W:Nat)(o:Oper):Bool:=match o.op with
 |.call ⟨.builtin .append,⟨[.tmp t,_]⟩,⟨[ty,C]⟩⟩=>mg Φ ops i L W t&&(!pU ty&&Nat.beq ty C && !BO o.dst ty (.tmp t))
 |_=>false
def mh(Φ:ez)(ops:Array Oper)(i L W:Nat)(σ:S)(x:Nat):Bool:=!jx (kS x) ops i L W ops.size 0&&(match σ.t x with
 |.aJ r _=>zD Φ ops i L W σ r
 |.iZ _=>true
 |_=>false)
def N9(Φ:ez)(ops:Array Oper)(i L W:Nat)(σ:S)(o:Oper):Bool:=match o.op with
 |.fieldAddr _ (.tmp x) _=>mh Φ ops i L W σ x
 |_=>false
def Oa(Φ:ez)(ops:Array Oper)(i L W:Nat)(σ:S)(t:Nat):Bool:=!jx (λok=>kS t ok && !(vw ok ||N9 Φ ops i L W σ ok)) ops i L W ops.size 0
def GM(Φ:ez)(ops:Array Oper)(i L W:Nat)(σ:S)(o:Oper):Bool:=match o.op with
 | .store _ (.tmp t) _=>o.dst.isNone&&Oa Φ ops i L W σ t&&(match σ.t t with
  |.ptr _=>false
  |_=>true)
 |_=>false
def V5(σ:S)(p:Nat->Bool)(o:Oper):Bool:=o.op.operands.toList.all λx=>(aK σ x).nr p
def V6(σ:S)(p pb:Nat->Bool)(o:Oper):Bool:=(o.op.operands.toList.all λx=>(aK σ x).oU p pb)&&(match o.op with
 | .load _ x=>(match aK σ x with
  |.aJ r _=>!p r
  |_=>true)
 |_=>true)
def acV(Φ:ez)(ops:Array Oper)(L:Nat)(σ:S)(i:Nat):Bool:=match ops[i]? with
 | some C=>(fM C.op || (match fN σ ops C with
  |some b=>!b
  |none=>false))&&Nat.beq ((L |||2 ^ i) &&& waits ops i ops.size 0 0) 0&&HX (λD=>N7 Φ D.op ||false ||GM Φ ops i L (waits ops i ops.size 0 0) σ D ||V4 Φ ops i L (waits ops i ops.size 0 0) D) ops C i L (waits ops i ops.size 0 0) ops.size 0&&V6 σ (zD Φ ops i L (waits ops i ops.size 0 0) σ) (BS σ ops i L (waits ops i ops.size 0 0)) C
 |none=>false
def HY{X:Type}(P:Program)(N:Nat)(Φ:ez)(ops:Array Oper)(L i:Nat)(σ:S)(o:Oper)(k:S->ah X):ah X:=
 match fN σ ops o with
 |some true=>me P σ o.op λv=>bif v.oU (zD Φ ops i L (waits ops i ops.size 0 0) σ) (BS σ ops i L (waits ops i ops.size 0 0))then gX N σ o.dst v k else none
 |some false=>gX N σ o.dst .skip k
 |none=>none
/-! A call may be taken first where all that is free beside it are new blocks. -/
def A.fM:A->Bool
 |.lf (.v _)=>true
 | .agg cs=>cs.all λl=>match l with
  |.v _=>true
  |_=>false
 |_=>false
def V7(ops:Array Oper)(i L W:Nat)(σ:S)(o:Oper):Bool:=n7 o&&(match fN σ ops o with
 |some b=>b
 | none=>false)&&(o.op.operands.toList.all λx=>(aK σ x).fM&&(match x with
  |.tmp t=>!jx (kS t) ops i L W ops.size 0
  |_=>true))&&(match o.guard with
 | some (g,_)=>(match (ops[g]?).bind (·.dst)with
  |some t=>!jx (kS t) ops i L W ops.size 0
  |none=>true)
 |none=>true)
def mZ(Φ:ez)(o:Oper):Bool:=match o.op with
 | .call ⟨.value (.func f),_,_⟩=>(match Φ f with
  |some (.p _)=>true
  |some (.m _)=>true
  |_=>false)
 |_=>false
def HZ(o:Oper):Bool:=(match o.op with
 |.store _ (.tmp _) _=>true
 |_=>false)&&o.dst.isNone
def xq(σ:S)(o:Oper):Bool:=match o.op with
 | .store _ (.tmp t) _=>(match σ.t t with
  |.aJ _ _=>true
  |_=>false)
 |_=>true
def H6(Φ:ez)(o:Oper):Bool:=mZ Φ o ||n7 o ||isApp o ||HZ o
def xu(σ:S)(p:Nat->Bool)(r:Nat):Bool:=match σ.m r with
 |some (.aC cs)=>cs.all (Lf.nr p)
 |_=>true
def Eo(o:Oper)(n:Nat):Bool:=kS n o
def acW(Φ:ez)(ops:Array Oper)(L:Nat)(σ:S)(i:Nat):Bool:=match ops[i]? with
 | some C=>H6 Φ C&&Nat.beq ((L ||| 2 ^ i) &&& waits ops i ops.size 0 0) 0&&HX (V7 ops i L (waits ops i ops.size 0 0) σ) ops C i L (waits ops i ops.size 0 0) ops.size 0 &&
   V5 σ (λn=>jx (λo=>Eo o n) ops i L (waits ops i ops.size 0 0) ops.size 0) C&&(sj Φ σ C).all (xu σ (λn=>jx (λo=>Eo o n) ops i L (waits ops i ops.size 0 0) ops.size 0))&&xq σ C
 |none=>false
def qL(x:A)(n:Nat):ah V:=match x with
 | .eS xs=>(match xs[n]? with
  |some (false,[.v z])=>some z
  |_=>none)
 |_=>none
def V8(ops:Array Oper)(L:Nat)(σ:S)(i:Nat):Bool:=match ops[i]?,(List.range ops.size).filter (λj=>!(Nat.beq j i || L.testBit j))with
 | some C,[E]=>(match C.op,C.dst,C.guard,ops[E]? with
  | .extract (.tmp x) n,some _,none,some D=>(match D.op,D.dst,D.guard with
   |.store _ a b,none,none=>(qL (σ.t x) n).isSome&&xo (aK σ a) (aK σ b)&&C.apart ops D
   |_,_,_=>false)
  |_,_,_,_=>false)
 |_,_=>false
def qM{X:Type}(P:Program)(N:Nat)(Φ:ez)(ops:Array Oper):Nat->Nat->S->(S->ah X)->ah X
 | 0,L,σ,k=>(match (List.range ops.size).filter (lH ops L)with
  |[]=>k σ
  |_=>none)
 | f+1,L,σ,k=>(match (List.range ops.size).filter (lH ops L)with
  |[]=>k σ
  | [i]=>(match ops[i]? with
   |some o=>dH P N Φ ops σ o λC=>sg C o.dst (HV ops i) λD=>qM P N Φ ops f (L |||2 ^ i) D k
   |none=>none)
  | rs=>(match rs.find? (acV Φ ops L σ)with
   | some i=>(match ops[i]? with
    |some o=>HY P N Φ ops L i σ o λC=>sg C o.dst (HV ops i) λD=>qM P N Φ ops f (L |||2 ^ i) D k
    |none=>none)
   | none=>(match rs.find? (acW Φ ops L σ)with
    | some i=>(match ops[i]? with
     |some o=>dH P N Φ ops σ o λC=>sg C o.dst (HV ops i) λD=>qM P N Φ ops f (L |||2 ^ i) D k
     |none=>none)
    | none=>(match rs.find? (V8 ops L σ)with
     | some i=>(match ops[i]? with
      |some o=>dH P N Φ ops σ o λC=>sg C o.dst (HV ops i) λD=>qM P N Φ ops f (L |||2 ^ i) D k
      |none=>none)
     |none=>none))))
/-! A new slice of constants may come first,beside values and calls of contents. -/
structure sk where
 run:(X:Type)->S->(Exit->S->Option X)->Option X
abbrev nc:=Nat->ah sk
def lI{X:Type}(P:Program)(N:Nat)(Φ:ez)(Λ:nc):Code->S->(Exit->S->ah X)->ah X
 |.skip,σ,k=>k .normal σ
 |.label _,σ,k=>k .normal σ
 |.ret,σ,k=>k .ret σ
 |.exit id,σ,k=>k (.exit id) σ
 |.region _ ops false,σ,k=>BP P N Φ ops 0 ops.toList σ λC=>k .normal C
 |.region _ ops true,σ,k=>bif P.follows .mixedOrders then qM P N Φ ops ops.size 0 σ λC=>k .normal C else none
 | .seq x y,σ,k=>lI P N Φ Λ x σ λe C=>match e with
  |.normal=>lI P N Φ Λ y C k
  |e=>k e C
 | .cond c x y,σ,k=>match aK σ c with
  |.lf (.v (.bool b))=>bif b then lI P N Φ Λ x σ k else lI P N Φ Λ y σ k
  |_=>none
 | .block id c,σ,k=>match Λ id with
  |some b=>b.run X σ k
  | none=>lI P N Φ Λ c σ λe C=>match e with
   |.exit D=>if D=id then k .normal C else k (.exit D) C
   |e=>k e C
 |_,_,_=>none
def AW(P:Program)(w0:Wd)(N:Nat)(c:Code)(σ:S)(K:Exit->S->Prop):Prop:=
 ∀a w,R w0 N σ a w->c.wp P (λe D w'=>∃C,K e C/\R w0 N C D w') a w
def occs:Code->aa (Nat×Code)
 |.seq x y=>occs x++occs y
 |.cond _ x y=>occs x++occs y
 |.block id c=>(id,c)::occs c
 |_=>[]
def BU(P:Program)(N:Nat)(c:Code)(b:sk):Prop:=∀(X:Type) σ k (r:X) w0,b.run X σ k=some r->AW P w0 N c σ λe C=>k e C=some r
def pW(P:Program)(N:Nat)(Λ:nc)(l:aa (Nat×Code)):Prop:=∀p∈l,∀b,Λ p.1=some b->BU P N (.block p.1 p.2) b
section
variable {P:Program} {w w':World} {w0:Wd} {B N:Nat} {aj aA:bG} {ρ ρ':Nat->Loc} {σ:S} {a:Act} {X:Type} {d:Nat} {r:X} {o:Oper} {Φ:ez} {Λ:nc}
def lA.mem{D:S}(E:o.dst=some d)(h:∀ aj ρ a w,Rl w0 N aj ρ σ a w->∃ w' aA ρ' v,(execOp a.eval o).run P w = .ok (.value v) w'/\Rl w0 N aA ρ' D (a.put (some d) v) w'):lA P w0 N o σ D:=by
 intro a w K Q C L;obtain⟨aj,ρ,C⟩:=C;obtain⟨w',aA,ρ',v,O,T⟩:=h aj ρ a w C;unfold Oper.wp;rw[O,Oper.upon_value,E];exact L _ _ ⟨aA,ρ',T⟩
def jP{k:Nat -> ah X}(h:gL o k=some r):∃ d,o.dst=some d/\k d=some r:=by
 unfold gL at h
 grind
def jm{s:Sem Value}{v:Value}(h:s.run P w = .ok v w'):(do pure (.value (<-s)):Sem Next).run P w = .ok (.value v) w':=by
 rw[fV,h];rfl
def acX{b:Go.Builtin}{x:Operand}{t:TypeId}{v:Value}(C:o.op = .call ⟨.builtin b,⟨[x]⟩,⟨[t]⟩⟩)(h:∀ cs,(builtin b #[t] o.type cs #[a.eval x]).run P w = .ok (.value v) w'):(execOp a.eval o).run P w = .ok (.value v) w':=by
 simp only[execOp,C,resolve,fV,Sem.run_pure,lS,invoke,List.map_toArray,List.map_cons,List.map_nil];exact h _
def V9{b:Go.Builtin}{x y:Operand}{t C:TypeId}{v:Value}(D:o.op = .call ⟨.builtin b,⟨[x,y]⟩,⟨[t,C]⟩⟩)(h:∀ cs,(builtin b #[t,C] o.type cs #[a.eval x,a.eval y]).run P w = .ok (.value v) w'):(execOp a.eval o).run P w = .ok (.value v) w':=by
 simp only[execOp,D,resolve,fV,Sem.run_pure,lS,invoke,List.map_toArray,List.map_cons,List.map_nil];exact h _
def Wa{C:Op}:cL λX k=>me (X:=X) P σ C k:=λX Y k g=>by
 unfold me;split
 ·rfl
 ·rfl
 ·repeat' first|rfl|refine dj ?_ ?_|split
 ·exact ao3 _ _ _ _
 ·exact acw _ _ _ _
 ·exact aoX _ _ _ _
 ·exact(VK.comp λa=>aoY.comp (b:=λX k z=>k (.lf (.v z))) λz _ _ _ _=>rfl) X Y k g
 ·exact ao6 _ _ _ _
 ·exact aoZ _ _ _ _
 ·exact ao4 _ _ _ _
 ·exact ao0 _ _ _ _
 ·exact ao5 _ _ _ _
 ·exact ao2 _ _ _ _
 ·unfold NY;split<;>rfl
 ·exact ao1 _ _ _ _
 ·exact acy _ _ _ _
 ·exact acy _ _ _ _
 ·exact ao7 _ _ _ _
 ·rfl
def Wb{op:Op}{k:A->ah X}(h:me P σ op k=some r):∃ v,k v=some r/\lW (λX k=>me (X:=X) P σ op k) v/\∀ aj ρ a w (o:Oper),o.op=op->Rl w0 N aj ρ σ a w->∃ u,(execOp a.eval o).run P w = .ok (.value u) w/\RA w w0.heap.size aj ρ v u:=by
 obtain⟨z,U,hd⟩:=Wa.mT h
 refine⟨z,U,hd,λaj ρ a w o O C=>?_⟩
 replace h:me P σ op some=some z:=hd A some;clear hd U;unfold me at h;split at h
 ·cases h;exact⟨_,by simp[execOp,O],C.aK _⟩
 ·cases h;exact⟨_,by simp[execOp,O],C.aK _⟩
 ·rename_i c x y;split at h
  ·rename_i b T;have hc:=C.aK c;rw[T]at hc;have hv:=hc.2.yO;cases b with
   |true=>cases h;exact⟨a.eval x,by simp[execOp,O,hv,asBool],C.aK x⟩
   |false=>cases h;exact⟨a.eval y,by simp[execOp,O,hv,asBool],C.aK y⟩
  ·cases h
 next t parts=>obtain⟨_,⟨⟩,D⟩:=anU (w0:=w0) (N:=N) h;obtain⟨v,E,L⟩:=D aj ρ a w C;exact⟨v,by simp only[execOp,O];exact jm E,L⟩
 next t x=>obtain⟨_,⟨⟩,D⟩:=abr (w0:=w0) (N:=N) h;obtain⟨v,E,L⟩:=D aj ρ a w C _ (C.aK x);exact⟨v,by simp only[execOp,O];exact jm E,L⟩
 next op t x y yt=>obtain⟨_,⟨⟩,D⟩:=an5 (w0:=w0) (N:=N) h;obtain⟨v,E,L⟩:=D aj ρ a w C x y _ _ (C.aK x) (C.aK y);exact⟨v,by simp only[execOp,O];exact jm E,L⟩
 next op t x=>obtain⟨u,hx,h⟩:=Uq h;obtain⟨_,⟨⟩,hp,D⟩:=anx (P:=P) h;have U:=C.aK x;rw[hx]at U;obtain⟨Y,E,hr⟩:=D w _ aj [] _ U.2;exact⟨Y,by simp only[execOp,O];exact jm E,V.GR hp,hr⟩
 next s d' x=>obtain⟨_,⟨⟩,D⟩:=an1 (w0:=w0) (N:=N) h;obtain⟨v,E,L⟩:=D aj ρ a w C _ (C.aK x);exact⟨v,by simp only[execOp,O];exact jm E,L⟩
 next s x f=>obtain⟨_,⟨⟩,D⟩:=anC h;obtain⟨v,E,L⟩:=D w _ aj ρ _ (C.aK x);exact⟨v,by simp only[execOp,O];exact jm E,L⟩
 next s x f=>obtain⟨_,⟨⟩,D⟩:=an2 h;obtain⟨v,E,L⟩:=D w _ aj ρ _ (C.aK x);exact⟨v,by simp only[execOp,O];exact jm E,L⟩
 next t x i=>obtain⟨_,⟨⟩,D⟩:=anD (w0:=w0) (N:=N) h;obtain⟨v,E,L⟩:=D aj ρ a w C _ _ (C.aK x) (C.aK i);exact⟨v,by simp only[execOp,O];exact jm E,L⟩
 next t x i=>obtain⟨_,⟨⟩,D⟩:=an0 h;obtain⟨v,E,L⟩:=D w _ aj ρ _ _ (C.aK x) (C.aK i);exact⟨v,by simp only[execOp,O];exact jm E,L⟩
 next x i=>obtain⟨_,⟨⟩,D⟩:=anF (P:=P) h;obtain⟨v,E,L⟩:=D w _ aj ρ _ (C.aK x);exact⟨v,by simp only[execOp,O];exact jm E,L⟩
 next x=>obtain⟨h,D⟩:=ape (w:=w) (B:=w0.heap.size) (aj:=aj) (ρ:=ρ) h;cases h;obtain⟨ad,hu⟩:=D _ (C.aK x);refine⟨a.eval x,?_,C.aK x⟩;simp only[execOp,O,hu];rfl
 next x t=>obtain⟨_,⟨⟩,D⟩:=anE (w0:=w0) (N:=N) (ty:=o.type) h;obtain⟨v,E,L⟩:=D aj ρ a w C _ (C.aK x);exact⟨v,acX O λ_=>jm E,L⟩
 next x y t Y=>obtain⟨_,⟨⟩,D⟩:=abO (P:=P) h;obtain⟨v,E,L⟩:=D w _ aj ρ t o.type _ _ (C.aK x) (C.aK y);exact⟨v,V9 O λ_=>jm (s:=Builtin.max_ #[t,Y] o.type #[a.eval x,a.eval y]) E,L⟩
 next x y t Y=>obtain⟨_,⟨⟩,D⟩:=abO (P:=P) h;obtain⟨v,E,L⟩:=D w _ aj ρ t o.type _ _ (C.aK x) (C.aK y);exact⟨v,V9 O λ_=>jm (s:=Builtin.min_ #[t,Y] o.type #[a.eval x,a.eval y]) E,L⟩
 ·rename_i t x lo hi;obtain⟨_,⟨⟩,D⟩:=aoa (w0:=w0) (N:=N) h;have Z:∀ z:ah Operand,(∀ b,z.map (aK σ)=some b->∃ v,z.map a.eval=some v/\RA w w0.heap.size aj ρ b v)/\(z.map (aK σ)=none->z.map a.eval=none):=by
   intro z;cases z with
   |none=>exact⟨λb T=>(by cases T),λ_=>rfl⟩
   |some z=>exact⟨λb T=>(by cases T;exact⟨_,rfl,C.aK z⟩),λT=>(by cases T)⟩
  obtain⟨v,E,hr⟩:=D aj ρ a w C _ _ _ (C.aK x) (Z lo).1 (Z lo).2 (Z hi).1 (Z hi).2;exact⟨v,by simp only[execOp,O];exact jm E,hr⟩
 ·cases h
def lA.skip{D:S}(E:o.dst=none)(h:∀ aj ρ a w,Rl w0 N aj ρ σ a w->∃ w' aA,(execOp a.eval o).run P w = .ok .skip w'/\Rl w0 N aA ρ D a w'):lA P w0 N o σ D:=by
 intro a w K Q C L;obtain⟨aj,ρ,C⟩:=C;obtain⟨w',aA,O,T⟩:=h aj ρ a w C;unfold Oper.wp;rw[O,Oper.upon_skip,E];exact L _ _ ⟨aA,ρ,T⟩
def Ob{s:Sem af}(h:s.run P w = .ok () w'):(do s;pure .skip:Sem Next).run P w = .ok .skip w':=by
 rw[fV,h];rfl
def apU{k:S->ah X}(ei:fL P Φ)(h:iD P N Φ σ o k=some r):∃ T,k T=some r/\lA P w0 N o σ T:=by
 unfold iD at h;split at h
 ·rename_i e D;obtain⟨d,E,h⟩:=jP h;obtain⟨T,h,U⟩:=anL (w0:=w0) h
  refine⟨T,h,.mem E λaj ρ a w C=>?_⟩
  obtain⟨w',aA,ρ',v,L,O⟩:=U aj ρ a w C;exact⟨w',aA,ρ',v,by simp only[execOp,D];exact jm L,O⟩
 ·rename_i e x D;obtain⟨d,E,h⟩:=jP h;obtain⟨T,h,U⟩:=apc (w0:=w0) (e:=e) h
  refine⟨T,h,.mem E λaj ρ a w C=>?_⟩
  obtain⟨w',aA,ρ',v,L,O⟩:=U aj ρ a w C _ (C.aK x);exact⟨w',aA,ρ',v,by simp only[execOp,D];exact jm L,O⟩
 ·rename_i t len parts D;obtain⟨d,E,h⟩:=jP h;cases hn:pU t with
  | true=>
   rw[hn,au]at h;obtain⟨T,h,U⟩:=apf (w0:=w0) h
   refine⟨T,h,.mem E λaj ρ a w C=>?_⟩
   obtain⟨w',aA,ρ',v,L,O⟩:=U aj ρ a w C;exact⟨w',aA,ρ',v,by simp only[execOp,D];exact jm L,O⟩
  | false=>
   rw[hn,aq]at h;obtain⟨T,h,U⟩:=anY (w0:=w0) h
   refine⟨T,h,.mem E λaj ρ a w C=>?_⟩
   obtain⟨w',aA,ρ',v,L,O⟩:=U aj ρ a w C;exact⟨w',aA,ρ',v,by simp only[execOp,D];exact jm L,O⟩
 ·rename_i t x y D;split at h
  ·rename_i E;cases hn:xo (aK σ x) (aK σ y)with
   | true=>
    rw[hn,au]at h;obtain⟨T,h,U⟩:=apn (w0:=w0) (N:=N) h
    refine⟨T,h,.skip E λaj ρ a w C=>?_⟩
    obtain⟨w',aA,L,O⟩:=U aj ρ a w C _ _ (C.aK x) (C.aK y);exact⟨w',aA,by simp only[execOp,D];exact Ob L,O⟩
   | false=>
    rw[hn,aq]at h;obtain⟨T,h,U⟩:=abu (w0:=w0) (N:=N) h
    refine⟨T,h,.skip E λaj ρ a w C=>?_⟩
    obtain⟨w',L,O⟩:=U aj ρ a w C _ _ (C.aK x) (C.aK y);exact⟨w',aj,by simp only[execOp,D];exact Ob L,O⟩
  ·cases h
 ·rename_i t l c D;obtain⟨d,E,h⟩:=jP h;obtain⟨T,h,U⟩:=anM (w0:=w0) h
  refine⟨T,h,.mem E λaj ρ a w C=>?_⟩
  obtain⟨w',aA,ρ',v,L,O⟩:=U aj ρ a w C _ _ (C.aK l) (C.aK c);exact⟨w',aA,ρ',v,by simp only[execOp,D];exact jm L,O⟩
 ·rename_i f args kQ D;split at h
  next c Y=>obtain⟨d,E,h⟩:=jP h;obtain⟨Z,fo⟩:=ei f _ Y;exact ab0 D E Z fo (abY (w0:=w0) (N:=N) _) h
  next c Y=>obtain⟨Z,fo⟩:=ei f _ Y;exact aoC D Z fo h
  next c Y=>obtain⟨d,E,h⟩:=jP h;obtain⟨Z,fo⟩:=ei f _ Y;exact apt D E Z fo h
  ·cases h
  next c Y=>obtain⟨Z,fo⟩:=ei f _ Y;exact acN (ex:=[]) D rfl Z fo h
  next c Y=>obtain⟨Z,fo⟩:=ei f _ Y;exact aoI D Z fo h
  next c Y=>obtain⟨d,E,h⟩:=jP h;obtain⟨Z,fo⟩:=ei f _ Y;exact ab0 D E Z fo (aof (w0:=w0) (N:=N) _) h
  next c Y=>obtain⟨Z,fo⟩:=ei f _ Y;exact apA D Z fo h
  ·cases h
 ·rename_i x y t t' D;cases mV:Nat.beq t t' with
  |false=>rw[mV]at h;cases h
  | true=>
   rw[mV,au]at h;obtain rfl:=cD mV;obtain⟨d,E,h⟩:=jP h;have hh:∃ T,k T=some r/\∀ aj ρ a w,Rl w0 N aj ρ σ a w->∀ u v,RA w w0.heap.size aj ρ (aK σ x) u->RA w w0.heap.size aj ρ (aK σ y) v->
     ∃w' aA ρ' z,(Builtin.append_ #[t,t] o.type #[u,v]).run P w = .ok z w'/\Rl w0 N aA ρ' T (a.put (some d) z) w':=by
    cases hn:pU t with
    |true=>rw[hn,au]at h;exact apl h
    | false=>
     rw[hn,aq]at h;cases hk:N6 t d x with
     |true=>rw[hk,au]at h;exact apR h
     |false=>rw[hk,aq]at h;exact anN h
   obtain⟨T,h,U⟩:=hh
   refine⟨T,h,.mem E λaj ρ a w C=>?_⟩
   obtain⟨w',aA,ρ',v,L,O⟩:=U aj ρ a w C _ _ (C.aK x) (C.aK y);exact⟨w',aA,ρ',v,V9 D λ_=>jm L,O⟩
 ·rename_i t D;obtain⟨d,E,h⟩:=jP h;obtain⟨T,h,U⟩:=apG (w0:=w0) (t:=t) (P:=P) h
  refine⟨T,h,.mem E λaj ρ a w C=>?_⟩
  obtain⟨w',aA,ρ',v,L,O⟩:=U aj ρ a w C;exact⟨w',aA,ρ',v,by simp only[execOp,D];exact jm L,O⟩
 ·rename_i t x i D;obtain⟨v,h1,_,U⟩:=apK (w0:=w0) (N:=N) h
  refine lA.val h1 λaj ρ a w C=>?_
  obtain⟨y,L,O⟩:=U aj ρ a w C _ _ (C.aK x) (C.aK i);exact⟨y,by simp only[execOp,D];exact jm L,O⟩
 ·rename_i t x i v D;split at h
  ·rename_i E;obtain⟨T,h,_,U⟩:=apL (w0:=w0) (N:=N) h
   refine⟨T,h,.skip E λaj ρ a w C=>?_⟩
   obtain⟨w',L,O⟩:=U aj ρ a w C _ _ _ (C.aK x) (C.aK i) (C.aK v);exact⟨w',aj,by simp only[execOp,D];exact Ob L,O⟩
  ·cases h
 ·rename_i t args kQ D;split at h
  ·rename_i f cap vh;split at h
   next c Y=>obtain⟨Z,fo⟩:=ei f _ Y;exact acN D vh Z fo h
   ·cases h
  ·cases h
 ·rename_i f acY D;split at h
  ·rename_i ps qJ;obtain⟨h1,h2⟩:=acO (w0:=w0) (N:=N) _ _ qJ
   refine lA.val h λaj ρ a w C=>⟨.func (.func f) #[] (acY.map a.eval),by simp[execOp,D,Instr.makeFunc],_,rfl,by simp[h1],λj p hp=>?_⟩
   obtain⟨b,off,e1,e2⟩:=h2 aj ρ a w C j p hp;exact⟨b,off,e1,by simpa using e2⟩
  ·cases h
 ·rename_i x t D;obtain⟨pT,h1,U⟩:=anQ (w0:=w0) (N:=N) (ty:=o.type) h;have run:∀ aj ρ a w,Rl w0 N aj ρ σ a w->∃ w',(execOp a.eval o).run P w = .ok (.value (.tuple #[])) w'/\Rl w0 N aj ρ pT a w':=by
   intro aj ρ a w C;obtain⟨w',L,O⟩:=U aj ρ a w C _ (C.aK x);exact⟨w',acX D λ_=>jm L,O⟩
  unfold gX at h1;split at h1
  ·rename_i E
   refine⟨_,h1,λa w K Q C hK=>?_⟩
   obtain⟨aj,ρ,C⟩:=C;obtain⟨w',L,O⟩:=run aj ρ a w C;unfold Oper.wp;rw[L,Oper.upon_value,E];exact hK _ _ ⟨aj,ρ,O⟩
  ·rename_i d E;cases hN:Nat.blt d N with
   |false=>rw[hN]at h1;cases h1
   | true=>
    rw[hN,au]at h1
    refine⟨_,h1,.mem E λaj ρ a w C=>?_⟩
    obtain⟨w',L,O⟩:=run aj ρ a w C;exact⟨w',aj,ρ,_,L,O.set trivial (by have:=cQ hN;omega)⟩
 ·cases h
def Wc{k:S -> ah X}(E:fL P Φ)(h:dP P N Φ σ o k=some r):∃ C,k C=some r/\lA P w0 N o σ C:=by
 unfold dP at h;cases D:fM o.op with
 | true=>
  rw[D,au]at h;obtain⟨v,L,_,O⟩:=Wb h;exact lA.val L λaj ρ a w T=>O aj ρ a w o rfl T
 | false=>
  rw[D]at h;exact apU E h
def apV{k:S->ah X}(Z:fL P Φ)(h:HU P N Φ σ o k=some r):∃ E,k E=some r/\lA P w0 N o σ E:=by
 unfold HU at h;split at h
 ·rename_i t x y L O;split at h
  ·rename_i q s i j hy;obtain⟨E,D,T⟩:=apD (w0:=w0) (N:=N) h
   refine⟨E,D,.skip O λaj ρ a w C=>?_⟩
   have hv:=C.aK y;rw[hy]at hv;obtain⟨w',aA,U,dD⟩:=T aj ρ a w C _ _ (C.aK x) hv;exact⟨w',aA,by simp only[execOp,L];exact Ob U,dD⟩
  ·exact Wc Z h
 ·rename_i t x lo hi mx d L O;obtain⟨D,T⟩:=apF (w0:=w0) (N:=N) h;cases Y:Nat.blt d N with
  |false=>rw[Y]at D;cases D
  | true=>
   rw[Y,au]at D
   refine⟨_,D,.mem O λaj ρ a w C=>?_⟩
   obtain⟨v,U⟩:=T aj ρ a w C _ _ _ _ (C.aK x) (C.aK lo) (C.aK hi) (C.aK mx);refine⟨w,aj,ρ,v,?_,C.set trivial (by have:=cQ Y;omega)⟩;simp only[execOp,L,Option.map_some];exact jm U
 ·exact Wc Z h
/-! What an operation gives hangs on its operands and on the roots that they name. -/
def A.key:A->ah (aa Nat)
 |.lf (.own q)=>some q
 |.view q _ _ _=>some q
 |.ptr (_::_::_::q)=>some q
 |_=>none
def Sm(σ2 σ:S)(x:A):Prop:=∀q,x.key=some q->∀(X:Type) (k:V->ah X),jb σ2.m q k=jb σ.m q k
def Sm.eq{σ2:S}(C:σ2.m=σ.m)(x:A):Sm σ2 σ x:=λq _ X k=>by rw[C]
def Sm.lf{σ2:S}{l:Lf}(h:Sm σ2 σ (.lf l))(k:V->ah X):oG σ2 l k=oG σ l k:=by
 cases l with
 |own q=>exact h q rfl X k
 |_=>rfl
def Sm.bin{σ2:S}{C:BinOp}{t:TypeId}{x y:A}(h:Sm σ2 σ x)(k:A->ah X):zc P σ2 C t x y k=zc P σ C t x y k:=by
 unfold zc;split
 ·rfl
 ·split
  ·exact h.lf _
  ·rfl
 ·rfl
def Sm.conv{σ2:S}{t C:TypeId}{x:A}(h:Sm σ2 σ x)(k:A->ah X):yZ P σ2 t C x k=yZ P σ t C x k:=by
 unfold yZ;split
 ·rfl
 ·exact h.lf _
 ·rfl
def Sm.idx{σ2:S}{t:TypeId}{x i:A}(h:Sm σ2 σ x)(k:A->ah X):yQ P σ2 t x i k=yQ P σ t x i k:=by
 unfold yQ;split
 ·rfl
 ·split
  ·split
   ·rfl
   ·exact h _ rfl _ _
   ·rfl
  ·rfl
def Sm.len{σ2:S}{t:TypeId}{x:A}(h:Sm σ2 σ x)(k:A->ah X):Bf P σ2 t x k=Bf P σ t x k:=by
 cases x with
 |lf l=>exact h.lf _
 |_=>rfl
def Sm.slc{σ2:S}{t:TypeId}{x:A}{lo hi:ah A}(h:Sm σ2 σ x)(k:A->ah X):zf P σ2 t x lo hi k=zf P σ t x lo hi k:=by
 unfold zf Bm;split
 ·simp only[h _ rfl]
 ·simp only[h _ rfl]
 ·rfl
def Sm.load{σ2:S}{t:TypeId}{x:A}(h:Sm σ2 σ x)(C:∀ r j,x = .aJ r j->σ2.m r=σ.m r)(k:A->ah X):nP P σ2 t x k=nP P σ t x k:=by
 unfold nP;split
 ·rfl
 ·split
  ·rw[C _ _ rfl]
  ·rfl
  ·exact h _ rfl _ _
  ·rfl
def acZ{σ2:S}(C:Op)(h:∀ x∈C.operands,aK σ2 x=aK σ x/\Sm σ2 σ (aK σ x))(L:∀ t x,C = .load t x->∀ k:A->ah X,nP P σ2 t (aK σ x) k=nP P σ t (aK σ x) k)(k:A->ah X):me P σ2 C k=me P σ C k:=by
 unfold me;split
 case h_4 t parts=>
  have e:(parts.toList.map λp=>(p.1,aK σ2 p.2))=parts.toList.map λp=>(p.1,aK σ p.2):=List.map_congr_left λp O=>by rw[(h p.2 (by simp only[Op.operands];exact List.mem_toArray.2 (List.mem_map_of_mem (f:=(·.2)) O))).1]
  simp only[D0,e]
 case h_18 t x lo hi=>
  have e:∀ z:ah Operand,(∀ y,z=some y->aK σ2 y=aK σ y)->z.map (aK σ2)=z.map (aK σ):=by
   intro z T;cases z with
   |none=>rfl
   |some z=>exact aY some (T z rfl)
  have E:=h x (by simp[Op.operands]);rw[E.1,e lo (λy D=>(h y (by subst D;simp[Op.operands])).1),e hi (λy D=>(h y (by subst D;simp[Op.operands])).1)];exact E.2.slc k
 all_goals simp[Op.operands,Call.operands]at h
 case h_5=>rw[h.1];exact L _ _ rfl k
 case h_6=>rw[h.1.1,h.2.1];exact h.1.2.bin k
 case h_8=>rw[h.1];exact h.2.conv k
 case h_11=>rw[h.1.1,h.2.1];exact h.1.2.idx k
 case h_15=>rw[h.1];exact h.2.len k
 all_goals first|rfl|simp only[h]
def ac0{σ2:S}(C:Op)(D:σ2.m=σ.m)(h:∀ x∈C.operands,aK σ2 x=aK σ x)(k:A->ah X):me P σ2 C k=me P σ C k:=
 acZ C (λx E=>⟨h x E,.eq D _⟩) (λt x _ k=>(Sm.eq D _).load (λr _ _=>by rw[D]) k) k
def ac1{σ2:S}(C:σ2.m=σ.m)(q:aa Nat)(s i j:Nat)(k:V->ah X):va σ2 q s i j k=va σ q s i j k:=by
 simp only[va,C]
def ac2{σ2:S}(C:σ2.m=σ.m)(x:Lf)(k:V->ah X):oG σ2 x k=oG σ x k:=(Sm.eq C _).lf k
def apW{σ2:S}(C:σ2.m=σ.m)(x:A)(k:V->ah X):rN σ2 x k=rN σ x k:=by
 cases x<;>simp only[rN,ac2 C,ac1 C]
def We{σ2:S}(C:σ2.m=σ.m):∀ (xs:aa Lf) (k:aa V->ah X),qI σ2 xs k=qI σ xs k
 |[],k=>rfl
 | x :: xs,k=>by
  simp only[qI,ac2 C,We C xs]
def ac3{σ2:S}(C:σ2.m=σ.m)(x:A)(k:Pt->ah X):nS σ2 x k=nS σ x k:=by
 unfold nS;simp only[We C,ac1 C]
def Wf{σ2:S}{f:A->(Pt->ah X)->ah X}:∀ (xs:aa Operand) (k:aa Pt->ah X),(∀ x∈xs,aK σ2 x=aK σ x)->vm f σ2 xs k=vm f σ xs k
 |[],k,_=>rfl
 | x :: xs,k,h=>by
  simp only[vm,h x (.head _),Wf xs _ λy C=>h y (.tail _ C)]
def apX{σ2:S}(C:σ2.m=σ.m)(xs:aa Operand)(k:aa Pt->ah X)(h:∀ x∈xs,aK σ2 x=aK σ x):rP σ2 xs k=rP σ xs k:=by
 unfold rP;rw[show nS σ2=nS σ from funext λx=>funext λk=>ac3 C x k,Wf xs k h]
def apY{σ2:S}(C:σ2.m=σ.m)(x:A)(k:Pt->ah X):vk σ2 x k=vk σ x k:=by
 unfold vk;simp only[ac3 C,We C,C]
def apZ{σ2:S}(C:σ2.m=σ.m)(xs:aa Operand)(k:aa Pt->ah X)(h:∀ x∈xs,aK σ2 x=aK σ x):Bn σ2 xs k=Bn σ xs k:=by
 unfold Bn;rw[show vk σ2=vk σ from funext λx=>funext λk=>apY C x k,Wf xs k h]
/-! .. and a root that it does not name is of no account. -/
def H7(n:Nat)(x:bg)(m:Nat->ah bg):Nat->ah bg:=cc (λr=>bif Nat.beq r n then none else (m r).map (bg.drop n)) n (some x)
def ac4{n:Nat}{x:bg}{m:Nat->ah bg}{q:Nat}(h:q≠n):H7 n x m q=(m q).map (bg.drop n):=by
 unfold H7;rw[cM _ _ _ h,oC h];rfl
def Oc{m m':Nat->ah bg}{p:Nat->Bool}(D:∀ r,p r=false->∀ y,m' r=some (.sl y) ↔ m r=some (.sl y)):∀ (q:aa Nat) (k:V->ah X),n5 p q=true->jb m' q k=jb m q k
 |[],_,_=>rfl
 | [r],k,h=>by
  have E:=D r (by simpa [n5,jj]using h);simp only[jb];split
  next y C=>rw[(E y).1 C]
  ·rename_i L;split
   next y C=>exact absurd ((E y).2 C) (L y)
   ·rfl
 |[_,_],_,_=>rfl
 |[j,i,s],k,h=>rfl
 | j :: i :: s :: O :: q,k,h=>by
  simp only[jb];exact Oc D (O::q) _ (by simpa [n5,Nf]using h)
def ap0{n:Nat}{q:aa Nat}(h:cU n q=false):n5 (λr=>Nat.beq r n) q=true:=by
 unfold n5 jj;unfold cU at h;split
 next r C=>rw[C]at h;show (!Nat.beq r n)=true;rw[oC (show r≠n by simpa using h)];rfl
 ·rfl
def bg.H8(n:Nat)(cs:aa Lf):(bg.aC cs).drop n = .aC (cs.map (Lf.drop n)):=rfl
def ap1{n:Nat}(z:ah bg)(y:V):z.map (bg.drop n)=some (.sl y) ↔ z=some (.sl y):=by
 cases z with
 |none=>simp
 |some z=>cases z<;>simp[bg.drop,bg.cE]
def ac5{n:Nat}{x:bg}{m:Nat->ah bg}{r:Nat}(h:r≠n)(y:V):H7 n x m r=some (.sl y) ↔ m r=some (.sl y):=by
 rw[ac4 h];exact ap1 _ y
def H9{p:Nat->Bool}{r n:Nat}(h:p r=false)(C:p n=true):r≠n:=by
 rintro rfl;rw[C]at h;cases h
def ap2{n:Nat}{x:bg}{m:Nat->ah bg}(q:aa Nat)(k:V->ah X)(h:cU n q=false):jb (H7 n x m) q k=jb m q k:=
 Oc (p:=λr=>Nat.beq r n) (λr C y=>ac5 (H9 (p:=λr=>Nat.beq r n) C (Nat.beq_refl n)) y) q k (ap0 h)
def ap3{p:Nat->Bool}{r j n:Nat}(h:(A.aJ r j).nr p=true)(C:p n=true):r≠n:=
 H9 (by simpa [A.nr,A.fr,vt]using h) C
def ac6{p pb:Nat->Bool}{x:A}{q:aa Nat}(h:x.oU p pb=true)(e:x.key=some q):n5 p q=true:=by
 unfold A.key at e;split at e
 ·injection e with e;subst e;exact h
 ·injection e with e;subst e;exact h
 ·rename_i j i s C;injection e with e;subst e;have h:n5 p (j :: i :: s :: C)=true:=h;cases C with
  |nil=>rfl
  |cons D q=>simpa [n5,Nf]using h
 ·cases e
def ap4{p pb:Nat->Bool}{t:TypeId}{cs:aa Lf}{y:A}(h:wR P t cs some=some y)(C:y.oU p pb=true):∀ c∈cs,c.nr p=true:=by
 unfold wR at h;split at h
 ·split at h
  ·split at h
   ·injection h with h;subst h;exact cw.1 C
   ·split at h
    ·injection h with h;subst h;intro c D;rw[List.mem_singleton.1 D];exact C
    ·cases h
   ·cases h
  ·cases h
 ·cases h
def A.xw:A->Bool
 |.aJ .. |.ptr _|.lf (.own _)=>true
 |_=>false
def A.ap5(x:A)(K:mR):x.cE K=x\/(x.cE K).xw=false:=by
 cases x with
 | lf l=>cases l with
  |own k=>cases h:K.l k<;>simp[A.cE,Lf.cE,h,A.xw]
  |_=>exact .inl rfl
 |ptr k=>cases h:K.p k<;>simp[A.cE,h,A.xw]
 |aJ r j=>cases h:K.r r<;>simp[A.cE,h,A.xw]
 |pk r j=>cases h:K.r r<;>simp[A.cE,h,A.xw]
 |view k s i j=>cases h:K.p k<;>simp[A.cE,h,A.xw]
 |fn f cap=>cases h:(cap.any λp=>K.r p.1)<;>simp[A.cE,h,A.xw]
 |_=>exact .inr rfl
structure iM (p pb:Nat->Bool) (σ cS:S):Prop where
 t:∀{g},(σ.t g).oU p pb=true->cS.t g=σ.t g
 sl:∀r,p r=false->∀y,cS.m r=some (.sl y) ↔ σ.m r=some (.sl y)
 aC:∀r,p r=false->∀cs,σ.m r=some (.aC cs)->∃f:Lf->Lf,cS.m r=some (.aC (cs.map f))/\∀l,l.nr p=true->f l=l
 nw:∀g,cS.t g=σ.t g\/(cS.t g).xw=false
def iM.refl{p pb:Nat->Bool}(σ:S):iM p pb σ σ:=
 ⟨λ_=>rfl,λ_ _ _=>.rfl,λ_ _ cs h=>⟨id,by rw[List.map_id];exact h,λ_ _=>rfl⟩,λ_=>.inl rfl⟩
def iM.trans{p pb:Nat->Bool}{σ E L:S}(h:iM p pb σ E)(D:iM p pb E L):iM p pb σ L:=by
 refine⟨λ{g} O=>?_,λr C y=>(D.sl r C y).trans (h.sl r C y),λr C cs Y=>?_,λg=>?_⟩
 ·have e:=h.t O;rw[D.t (by rw[e];exact O),e]
 ·obtain⟨f,Z,h2⟩:=h.aC r C cs Y;obtain⟨T,h3,h4⟩:=D.aC r C _ Z;exact⟨T ∘ f,by rw[<-List.map_map];exact h3,λl U=>by show T (f l)=l;rw[h2 l U,h4 l U]⟩
 ·rcases D.nw g with e | e
  ·rw[e];exact h.nw g
  ·exact .inr e
def iM.root{p pb:Nat->Bool}{σ D:S}(n:Nat)(x:bg)(C:p n=true)(L:pb n=true)(h:iM p pb σ D):iM p pb σ ((D.drop n).root n x):=by
 refine h.trans ⟨λO=>A.Ej O C L,λr E y=>ac5 (H9 E C) y,λr E cs T=>⟨Lf.drop n,?_,λl U=>Lf.zz U C⟩,λg=>A.ap5 _ _⟩
 show H7 n x D.m r=_;rw[ac4 (H9 E C),T];rfl
def iM.rt{p pb:Nat->Bool}{σ D:S}(n:Nat)(x:bg)(E:p n=true)(h:iM p pb σ D):iM p pb σ (D.root n x):=by
 have e:∀r,p r=false->(D.root n x).m r=D.m r:=λr C=>cM _ _ _ (H9 C E)
 exact h.trans ⟨λ_=>rfl,λr C y=>by rw[e r C],λr C cs L=>⟨id,by rw[e r C,List.map_id];exact L,λ_ _=>rfl⟩,λ_=>.inl rfl⟩
end
end Go.Proofs.YtnilicojgkhpnaaGreat
