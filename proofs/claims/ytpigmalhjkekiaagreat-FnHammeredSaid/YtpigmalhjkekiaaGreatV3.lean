/-
  Running the program over pure contents, and that it follows (part 3). Nothing here is a claim.
-/
import Derived.Lib.AppendStr
import Derived.MapKept
import Derived.Test.YtpigmalhjkekiaaGreatV2
set_option linter.unusedSimpArgs false
namespace Go.Proofs.YtpigmalhjkekiaaGreat
set_option linter.defProp false
open Go.RowKit
set_option linter.unusedVariables false
def dT:Nat:=89999
def qc(af:bk)(k:aa Nat):bk:=λb=>match af b with
 |some q=>bif k.isSuffixOf q then some (q.take (q.length-k.length)++[dT])else bif cG dT q then none else some q
 |none=>none
def QZ(σ:S)(c:nt)(args:aa Operand)(q:Nat):Bool:=match jq σ c.ps args with
 |some C=>!cW q ((ld 0 C).map (·.1))&&C.any λD=>Nat.beq D.root dT
 |none=>false
def Gq{X:Type}(N:Nat)(σ:S)(D:aj Tmp)(c:nt)(args:aa Operand)(k:S->aj X):aj X:=
 match args with
 | .tmp t :: _=>(match σ.t t with
  | .lf (.own [j,i,s,q])=>(match σ.m q with
   | some (.sl (.sl tc (o+2) E l))=>if s=aD tc then (if hi:i<l.length then (match (enc tc o l[i])[j]? with
    | some y=>bif Nat.ble N 20000&&Nat.ble 20000 q&&Nat.blt q 60000&&QZ ((σ.de [q,dT] [dT] [(dT,.sl y)]).set t (.lf (.own [dT]))) c args q then nZ N ((σ.de [q,dT] [dT] [(dT,.sl y)]).set t (.lf (.own [dT]))) D c args λC=>(match C.m dT with
      | some (.sl I)=>(match dec tc o (splice (enc tc o l[i]) j [I])with
       |some e=>k ((C.drop dT).root q (.sl (.sl tc (o+2) E (l.set i e))))
       |none=>none)
      |_=>none)else none
    |none=>none)else none)else none
   |_=>none)
  |_=>none)
 |_=>none
section
variable {P:Program} {w w':World} {w0:Wd} {B N:Nat} {af dz aA:bk} {ρ fe ρ':Nat->Loc} {σ:S} {a:Act} {X:Type} {d:Nat} {r:X} {o:Oper} {K:aa Nat} {m:Nat->aj aS}
def KT{b:Nat}(h:af b=none):qc af K b=none:=by simp[qc,h]
def ahX{b:Nat}{p:aa Nat}(h:af b=some (p++K)):qc af K b=some (p++[dT]):=by
 have C:K.isSuffixOf _=true:=List.isSuffixOf_iff_suffix.2 ⟨p,rfl⟩;simp[qc,h,C]
def Q0{b:Nat}{k:aa Nat}(h:af b=some k)(C:¬ K <:+ k)(D:cG dT k=false):qc af K b=some k:=by
 have C:K.isSuffixOf k=false:=by
  grind
 simp[qc,h,C,D]
def RV.cut{k:aa Nat}{x:V}{v:Value}(h:RV w B af k x v)(p:aa Nat)(hp:k=p++K\/x.aG=true):RV w B (qc af K) (p++[dT]) x v:=
 h.map (Q:=λk C=>∃ p,k=p++K/\C=p++[dT]) (dB _) (λb _ h=>⟨rfl,KT h⟩) (λb k C _ hl e=>by
  obtain⟨p,rfl,rfl⟩:=e;exact⟨rfl,ahX hl,λj i s=>⟨j::i::s::p,rfl,rfl⟩⟩) (hp.symm.imp_right λh=>⟨p,h,rfl⟩)
def RV.ahY{k:aa Nat}{x:V}{v:Value}(h:RV w B af k x v)(I:∀ b,af b≠some [])(O:((∀ p,¬ K <:+ p++k)/\cG dT k=false)\/x.aG=true):RV w B (qc af K) k x v:=
 h.map (Q:=λk C=>k=C/\(∀ p,¬ K <:+ p++k)/\cG dT k=false) (dB _) (λb _ h=>⟨rfl,KT h⟩) (λb k C _ hl e=>by
  obtain⟨rfl,D,E⟩:=e
  refine⟨rfl,Q0 hl (D []) E,λj i s=>⟨rfl,λp=>?_,?_⟩⟩
  ·have:=D (p++[j,i,s])
   rwa [List.append_assoc]at this
  ·rw[Kl (by rintro rfl;exact I b hl)];exact E) (O.symm.imp_right λh=>⟨rfl,h⟩)
def Rl.ahZ{t:Nat}{x:A}(h:Rl w0 N af ρ σ a w)(D:RA w w0.heap.size af ρ x (a.tmps.getD t undef)):Rl w0 N af ρ (σ.set t x) a w:=by
 refine⟨h.below,h.cV,h.root,λk=>?_,h.size,h.defers,h.fix,h.cL⟩
 show RA w _ af ρ (bG σ.t t x k) _;by_cases C:k=t
 ·subst C;rw[bK];exact D
 ·rw[cr _ _ _ C];exact h.tmp k
def Rl.ah0{q:Nat}{x:aS}(h:Rl w0 N af ρ σ a w)(E:dW w w0.heap.size af ρ q x):Rl w0 N af ρ (σ.root q x) a w:=by
 refine⟨h.below,h.cV,λr y C=>?_,h.tmp,h.size,h.defers,h.fix,h.cL⟩
 have C:bG σ.m q _ r=some y:=C;by_cases D:r=q
 ·subst D;rw[bK]at C;simp_all
 ·rw[cr _ _ _ D]at C;exact h.root r y C
def iX.ah1(h:Rl w0 N af ρ σ a w):iX w0 w w:=⟨rfl,rfl,rfl,dB _,λ_ _ _=>rfl⟩
def ah2{f:Nat}{args:Array Operand}{jJ:Array TypeId}{c:nt}{k:S -> aj X}(ho:o.op = .call { callee:=.value (.func f),args,argTypes:=jJ })(he:enters P f)(hc:vu P f c)(h:Gq N σ o.dst c args.toList k=some r):∃ c8,k c8=some r/\kW P w0 N o σ c8:=by
 unfold Gq at h;split at h
 ·rename_i t rest tZ;split at h
  ·rename_i j i s q ht;split at h
   ·rename_i tc oo qn l hm;split at h
    ·rename_i hs;subst hs;split at h
     ·rename_i hi;split at h
      ·rename_i y hy;generalize ah3:((σ.de [q,dT] [dT] [(dT,.sl y)]).set t (.lf (.own [dT])))=qd at h;cases hb:(Nat.ble N 20000&&Nat.ble 20000 q&&Nat.blt q 60000&&QZ qd c args.toList q)with
       |false=>rw[hb]at h;cases h
       | true=>
        rw[hb,au]at h;simp only[aJ]at hb;obtain⟨⟨⟨hN,Dj⟩,xj⟩,KU⟩:=hb;have hN:=cz hN;have Dj:=cz Dj;have xj:q<60000:=cz xj;obtain⟨τ,QY,cn,Y,uj,oQ,zv,Ga⟩:=QV (w0:=w0) ho he hc h;clear h;unfold QZ at KU;rw[uj]at KU;simp only[aJ,fB]at KU;obtain⟨FM,hdT⟩:=KU;obtain⟨mu,jL,Q1⟩:=List.any_eq_true.1 hdT;have Q1:=cN Q1;have ah4:cW dT cn=false:=by rw[<- Q1];exact zv mu jL
        have ah5:cW q cn=false:=by
         cases D:cW q cn with
         |false=>rfl
         |true=>have:=oQ q D;omega
        have Q2:q≠dT:=by unfold dT;omega
        split at Y
        ·rename_i y' F2;split at Y
         ·rename_i e Q3
          refine⟨_,Y,λa w KK Q O hK=>?_⟩
          obtain⟨af,ρ,O⟩:=O;have bY:=O.xe;have KV:w0.F dT=none:=O.cL dT (.inr (by decide));have fl:=O.root q _ hm;generalize D:aS.sl (.sl tc (oo+2) qn l)=x at fl;cases fl with
          |aB=>cases D
          |mp=>cases D
          |gh=>cases D
          | sl v yq cm hr=>
           injection D with D;subst D;cases hr with
           |eD=>simp at hi
           |fF=>simp at hi
           |fP=>simp at hi
           |aG _ _ _ _ _ _ _ _ _ ho=>omega
           | own _ _ _ _ _ b cap cs u hl hh hs hn su XU ng=>
            have hKv:wV σ.m [j,i,aD tc,q] y:=.elem j i [q] tc oo qn l y (.root q _ hm) hi hy;obtain⟨Z,qX,ah6⟩:=hKv.ok O.root;have xo:=O.tmp t;rw[ht]at xo;have kX:a.tmps.getD t undef=Z:=by
             have h2:=xo.2;rw[qX]at h2;injection h2 with h2;exact h2.symm
            have ah7:Z=u i j:=by
             have h3:cQ w af ρ [j,i,aD tc,q]=some (u i j):=by
              rw[Ka,A5 j i _ (show cQ w af ρ [q]=some (.slice (some ⟨b,0,none⟩) l.length cap) by simp[cQ,cm]) hl];show w.cell? _=_;rw[cell_of_row w b _ cs _ _ hh];simp[*]
             rw[qX]at h3;injection h3
            have fq:mc Z=true:=by rw[<- kX];exact xo.1
            -- the state that the callee's caller sees
            have Qz:∀ k:aa Nat,fQ k [q,dT]=false -> cG q k=false/\cG dT k=false:=by
             intro k Y;unfold fQ at Y;unfold cG;split at Y
             next z T=>rw[T];have:=Xx Y;simp only[gv,List.not_mem_nil,not_or]at this;exact⟨by simpa using this.1,by simpa using this.2⟩
             next T=>rw[T];exact⟨rfl,rfl⟩
            have hKq:∀ k:aa Nat,[j,i,aD tc,q] <:+ k -> cG q k=true:=by
             rintro k ⟨p,rfl⟩;simp[cG]
            have Dn:ue w w af (qc af [j,i,aD tc,q]) ρ (bG ρ dT (.dG Z)) [q,dT] [dT]:=by
             refine⟨dB _,λE xE C=>⟨rfl,?_⟩,λn hn=>?_,λE k C=>(O.cV E k C).2⟩
             ·cases I:af E with
              |none=>exact KT I
              | some k=>
               obtain⟨g1,g2⟩:=Qz k (C k I);exact Q0 I (λoJ=>by rw[hKq k oJ]at g1;cases g1) g2
             ·refine cr _ _ _ ?_;rintro rfl;simp[cW]at hn
            have q7:∀ E k,qc af [j,i,aD tc,q] E=some k -> (∃ U,af E=some U)/\k≠[]:=by
             intro E k C;cases I:af E with
             |none=>rw[KT I]at C;cases C
             | some U=>
              refine⟨⟨U,rfl⟩,?_⟩;unfold qc at C;rw[I]at C;simp only at C;cases h1:List.isSuffixOf [j,i,aD tc,q] U with
              | true=>
               rw[h1,au]at C;injection C with C;rw[<- C];simp
              | false=>
               rw[h1,ax]at C;cases h2:cG dT U with
               |true=>rw[h2,au]at C;cases C
               | false=>
                rw[h2,ax]at C;injection C with C;rw[<- C];exact(O.cV E U I).2.2
            have sO:Rl w0 N (qc af [j,i,aD tc,q]) (bG ρ dT (.dG Z)) (σ.de [q,dT] [dT] [(dT,.sl y)]) a w:=by
             refine O.uf Dn (iX.ah1 O) (λE k C=>?_) (λn hn=>?_) (λn z T=>?_)
             ·obtain⟨⟨U,I⟩,KW⟩:=q7 E k C;have:=O.cV E U I;exact⟨this.1,this.2.1,KW⟩
             ·have:n=dT:=by simpa [cW]using hn
              rw[this];exact KV
             ·have hn:n=dT/\z = .sl y:=by
               rw[List.lookup_cons]at T;cases rA:(n==dT)with
               |false=>rw[rA]at T;cases T
               | true=>
                rw[rA]at T;injection T with T;exact⟨by simpa using rA,T.symm⟩
              obtain⟨rfl,rfl⟩:=hn;exact .sl Z y (bK _ _ _) (ah6.cut [] (.inl rfl))
            have nj:Rl w0 N (qc af [j,i,aD tc,q]) (bG ρ dT (.dG Z)) qd a w:=by
             rw[<- ah3];refine sO.ahZ ?_;rw[kX];exact⟨fq,by simp only[cQ,bK]⟩
            refine Ga a w KK Q _ _ nj λvv w' dz fe sN Gn xm sE xD=>?_
            -- behind the call
            have rq:90000 <= iq o.dst:=by unfold iq;split<;>omega
            have ah8:sN dT = .dG Z:=by
             rw[xD dT (by unfold dT;omega),xm.eZ dT ah4,bK]
            have ah9:sN q = .dG (.slice (some ⟨b,0,none⟩) l.length cap):=by
             rw[xD q (by omega),xm.eZ q ah5,cr _ _ _ Q2,cm]
            have fl:=Gn.root dT _ F2;generalize D:aS.sl y'=x at fl;cases fl with
            |aB=>cases D
            |mp=>cases D
            |gh=>cases D
            | sl v' y'' kI fJ=>
             injection D with D;subst D;rw[ah8]at kI;injection kI with kI;subst kI;have Q4:=Gn.xe;have hrel:Rel dT dz (dz.gO dT [j,i,aD tc,q]):=FJ Q4;have XV:cG dT [q]=false:=by simpa [cG]using λe=>Q2 e
             have DG:qc af [j,i,aD tc,q] b=some [q]:=Q0 hl (λoJ=>by have:=oJ.length_le;simp at this) XV;have aia:fQ [q] ((ld 0 QY).map (·.1))=false:=FM;obtain⟨g1,g2⟩:=xm.same b (xm.af b _ DG).1 (λk C=>by rw[DG]at C;injection C with C;subst C;exact aia);have aib:dz b=some [q]:=g2.trans DG;have aic:dz.gO dT [j,i,aD tc,q] b=some [q]:=hrel.gU b _ aib XV;have hR4:=Gn.rel hrel (λE k C=>by
              unfold bk.gO at C;cases I:dz E with
              |none=>rw[I]at C;cases C
              | some U=>
               rw[I]at C;injection C with C;subst C;exact⟨⟨U,rfl⟩,WW (by simp) (λe=>Q4 E (by rw[I,e]))⟩)
             refine hK _ _ ⟨_,sN,hR4.ah0 (.sl _ _ ah9 ?_)⟩;have hj:j<aD tc:=by
              have:=(dK.1 hy).1
              rwa [kG]at this
             refine RV.Kg (w':=w') (cs:=cs) (xs:=[y']) (u:=u) (us:=u) aic (g1.trans hh) hs hn su hi (show j+1 <= aD tc from hj) Q3 (λi' Gr j' x D hij=>⟨XU i' Gr j' x D,?_⟩) (λn x D=>?_)
             ·have Q5:=ng i' Gr j' x D;have aid:¬ (i'=i/\j'=j):=λe=>hij ⟨e.1,by simp;omega⟩
              have XW:cG dT [j',i',aD tc,q]=false:=by simpa [cG]using λe=>Q2 e
              have a1:=Q5.ahY (K:=[j,i,aD tc,q]) bY (.inl ⟨λp oJ=>?_,XW⟩)
              ·have a2:=a1.uf xm (.inl (by simpa [fQ]using FM));exact a2.rel hrel (.inl XW)
              ·have e1:[j,i,aD tc,q]=[j',i',aD tc,q]:=PE oJ ⟨p,rfl⟩ rfl;injection e1 with e1 e2;injection e2 with e2 e3;exact aid ⟨e2.symm,e1.symm⟩
             ·cases n with
              | zero=>
               simp only[List.getElem?_cons_zero,iB]at D;subst D;refine⟨XU i hi j y hy,?_⟩;have:=fJ.gO (q:=dT) (nk:=[j,i,aD tc,q]) Q4;rw[WV,ah7]at this;exact this
              |succ n=>simp at D
         ·cases Y
        ·cases Y
      ·cases h
     ·cases h
    ·cases h
   ·cases h
  ·cases h
 ·cases h
def aie{C:aj Tmp}{c:nt}{args:aa Operand}(D:∀ σ,cw λX k=>nZ (X:=X) N σ C c args k):cw λX k=>Gq (X:=X) N σ C c args k:=λX Y k g=>by
 unfold Gq
 repeat' first|rfl|refine c9 ((D _ _ _ _ _).trans (bz _ (funext λE=>?_))) rfl|split
def xF:∀ (q:aa Nat),cw λX k=>iY (X:=X) m q k
 |[]=>λ_ _ _ _=>rfl
 | [x]=>λX Y k g=>by
  simp only[iY]
  repeat' first|rfl|refine c9 ?_ ?_|split
 |[_,_]=>λ_ _ _ _=>rfl
 | j :: i :: s :: q=>λX Y k g=>by
  simp only[iY]
  refine(xF q _ _ _ _).trans (bz _ (funext λy=>?_))
  repeat' first|rfl|split
  all_goals simp_all
def DH{x:Lf}:cw λX k=>oK (X:=X) σ x k:=by
 cases x with
 |own q=>exact xF q
 |_=>exact λ_ _ _ _=>rfl
def XX{q:aa Nat}{s i j:Nat}:cw λX k=>vj (X:=X) σ q s i j k:=λX Y k g=>by
 refine(xF q _ _ _ _).trans (bz _ (funext λy=>?_))
 repeat' first|rfl|refine c9 ?_ ?_|split
def Q6{x:A}:cw λX k=>sy (X:=X) σ x k:=by
 cases x with
 |lf l=>exact DH
 |view=>exact XX
 |_=>exact λ_ _ _ _=>rfl
def Q7{x:A}:cw λX k=>vK (X:=X) x k:=λX Y k g=>by
 unfold vK
 repeat' first|rfl|refine c9 ?_ ?_|split
def aif{ty:TypeId}{C:BinOp}{x y:V}:cw λX k=>FD (X:=X) P ty C x y k:=λX Y k g=>by
 unfold FD
 repeat' first|rfl|refine c9 ?_ ?_|split
def aih{C:BinOp}{t:TypeId}{x y:A}:cw λX k=>zf (X:=X) P σ C t x y k:=λX Y k g=>by
 unfold zf;split
 ·repeat' first|rfl|refine c9 ?_ ?_|split
 ·split
  ·refine(DH _ _ _ _).trans (bz _ (funext λz=>?_))
   repeat' first|rfl|refine c9 ?_ ?_|split
  ·rfl
 ·exact(Q7.comp λa=>Q7.comp λb=>aif.comp (b:=λX k z=>k (.lf (.v z))) λz _ _ _ _=>rfl) X Y k g
def aii{C:UnOp}{x:V}:cw λX k=>FE (X:=X) C x k:=λX Y k g=>by
 unfold FE
 repeat' first|rfl|refine c9 ?_ ?_|split
def KZ{t:TypeId}{cs:aa Lf}:cw λX k=>w8 (X:=X) P t cs k:=λX Y k g=>by
 unfold w8
 repeat' first|rfl|refine c9 ?_ ?_|split
def XY{t:TypeId}{x:A}:cw λX k=>nQ (X:=X) P σ t x k:=λX Y k g=>by
 unfold nQ;split
 ·rfl
 ·split
  ·split
   ·exact KZ _ _ _ _
   ·rfl
  ·exact KZ _ _ _ _
  ·refine(xF _ _ _ _ _).trans (bz _ (funext λz=>?_))
   repeat' first|rfl|exact KZ _ _ _ _|split
  ·rfl
def aij{s:TypeId}{x:A}{f:Nat}:cw λX k=>Dd (X:=X) P s x f k:=λX Y k g=>by
 unfold Dd
 repeat' first|rfl|refine c9 ?_ ?_|split
def aik{t:TypeId}{x i:A}:cw λX k=>yU (X:=X) P σ t x i k:=λX Y k g=>by
 unfold yU;split
 ·rfl
 ·split
  ·split
   ·repeat' first|rfl|refine c9 ?_ ?_|split
   ·refine(xF _ _ _ _ _).trans (bz _ (funext λz=>?_))
    repeat' first|rfl|refine c9 ?_ ?_|split
   ·rfl
  ·rfl
def ail{t:TypeId}{x:A}:cw λX k=>Bc (X:=X) P σ t x k:=λX Y k g=>by
 unfold Bc;split
 ·refine(DH _ _ _ _).trans (bz _ (funext λz=>?_))
  repeat' first|rfl|refine c9 ?_ ?_|split
 ·repeat' first|rfl|refine c9 ?_ ?_|split
 ·rfl
def aim{x:A}{i:Nat}:cw λX k=>Bd (X:=X) x i k:=λX Y k g=>by
 unfold Bd
 repeat' first|rfl|refine c9 ?_ ?_|split
def ain{t:TypeId}{parts:aa (Nat×Operand)}:cw λX k=>Dk (X:=X) P σ t parts k:=λX Y k g=>by
 unfold Dk
 repeat' first|rfl|refine c9 ?_ ?_|split
def aio{s:TypeId}{x:A}{f:Nat}:cw λX k=>F0 (X:=X) P s x f k:=λX Y k g=>by
 unfold F0
 repeat' first|rfl|refine c9 ?_ ?_|split
def XZ{C:Bool}{x y:A}:cw λX k=>Dl (X:=X) C x y k:=λX Y k g=>by
 unfold Dl
 repeat' first|rfl|refine c9 ?_ ?_|split
def aip{t:TypeId}{x i:A}:cw λX k=>F1 (X:=X) P t x i k:=λX Y k g=>by
 unfold F1
 repeat' first|rfl|refine c9 ?_ ?_|split
def aiq{C D:TypeId}{x:A}:cw λX k=>zc (X:=X) P σ C D x k:=λX Y k g=>by
 unfold zc;split
 ·repeat' first|rfl|refine c9 ?_ ?_|split
 ·refine(DH _ _ _ _).trans (bz _ (funext λz=>?_))
  unfold Kx
  repeat' first|rfl|refine c9 ?_ ?_|split
 ·rfl
def DI{x:aj A}{d:Int}:cw λX k=>tX (X:=X) x d k:=λX Y k g=>by
 unfold tX
 repeat' first|rfl|refine c9 ?_ ?_|split
def X0{t:TypeId}{q:aa Nat}{C:aj Nat}{lo hi:aj A}:cw λX k=>Bj (X:=X) P σ t q C lo hi k:=λX Y k g=>by
 unfold Bj;split
 ·split
  ·refine(xF _ _ _ _ _).trans (bz _ (funext λz=>?_))
   unfold Dv;split
   ·split
    ·refine(DI _ _ _ _).trans (bz _ (funext λ_=>(DI _ _ _ _).trans (bz _ (funext λ_=>?_))))
     repeat' first|rfl|refine c9 ?_ ?_|split
    ·rfl
   ·rfl
  ·rfl
 ·rfl
def air{t:TypeId}{x:A}{lo hi:aj A}:cw λX k=>zh (X:=X) P σ t x lo hi k:=λX Y k g=>by
 unfold zh;split
 ·exact X0 _ _ _ _
 ·exact X0 _ _ _ _
 ·unfold xl;split
  ·split
   ·refine(DI _ _ _ _).trans (bz _ (funext λ_=>(DI _ _ _ _).trans (bz _ (funext λ_=>?_))))
    repeat' first|rfl|refine c9 ?_ ?_|split
   ·rfl
  ·split
   ·split
    ·split
     ·refine c9 ((DI _ _ _ _).trans (bz _ (funext λ_=>(DI _ _ _ _).trans (bz _ (funext λ_=>?_))))) rfl
      repeat' first|rfl|refine c9 ?_ ?_|split
     ·rfl
    ·rfl
   ·rfl
  ·rfl
def xH{C:aj Tmp}{x:A}:cw λX k=>gW (X:=X) N σ C x k:=λX Y k g=>by
 unfold gW
 repeat' first|rfl|refine c9 ?_ ?_|split
def K0{x:aS}{y:A}:cw λX k=>gY (X:=X) N σ d x y k:=λX Y k g=>c9 rfl rfl
def DJ{x:aS}{y:A}{k:S -> aj X}(h:gY N σ d x y k=some r):k (((σ.drop d).root d x).set d y)=some r/\mg (λX k=>gY (X:=X) N σ d x y k) (((σ.drop d).root d x).set d y):=by
 unfold gY at h;cases hN:Nat.blt d N with
 |false=>simp_all
 |true=>rw[hN]at h;exact⟨h,λX k=>by simp[gY,hN,au]⟩
def ais{e:TypeId}{k:S -> aj X}(h:qY P N σ d e k=some r):∃ x y,k (((σ.drop d).root d x).set d y)=some r/\y = .aL d 0/\(∀ (C:S),mg (λX k=>qY (X:=X) P N C d e k) (((C.drop d).root d x).set d y)):=by
 unfold qY at h;split at h
 ·rename_i z D;obtain⟨E,_⟩:=DJ h
  refine⟨_,_,E,rfl,λC X k=>?_⟩
  obtain⟨hN,_⟩:=oM h;have hb:Nat.blt d N=true:=jj hN;simp[qY,D,gY,hb,au]
 ·cases h
def X3{t:TypeId}{l c:A}{k:S -> aj X}(h:yX P N σ d t l c k=some r):∃ y,k (((σ.drop d).root d (.sl y)).set d (.lf (.own [d])))=some r/\(∀ (C:S),mg (λX k=>yX (X:=X) P N C d t l c k) (((C.drop d).root d (.sl y)).set d (.lf (.own [d])))):=by
 unfold yX at h;split at h
 ·rename_i e tc T n U c D;split at h
  ·cases h
  ·rename_i z E;split at h
   ·rename_i hb;obtain⟨I,_⟩:=DJ h
    refine⟨_,I,λC X k=>?_⟩
    obtain⟨hN,_⟩:=oM h;have O:Nat.blt d N=true:=jj hN;simp[yX,D,E,aV hb,gY,O,au]
   ·cases h
 ·cases h
def X4{t:TypeId}{len:Nat}{parts:aa (Nat×Operand)}{k:S -> aj X}(h:zb P N σ d t len parts k=some r):∃ y,k (((σ.drop d).root d (.sl y)).set d (.lf (.own [d])))=some r /\
  (∀(C:S),(∀p∈parts,aK C p.2=aK σ p.2) -> mg (λX k=>zb (X:=X) P N C d t len parts k) (((C.drop d).root d (.sl y)).set d (.lf (.own [d])))):=by
 unfold zb at h;split at h
 ·rename_i e tc E;split at h
  ·rename_i z I;cases D:(Nat.beq (full tc) 0&&Nat.beq z.cells.size (aD tc)&&Nat.blt (len*aD tc) 16777217)with
   |false=>simp_all
   | true=>
    rw[D,au]at h;split at h
    ·rename_i cs O;split at h
     ·rename_i vs T;split at h
      ·rename_i l hl;obtain⟨U,_⟩:=DJ h
       refine⟨_,U,λC Y X k=>?_⟩
       obtain⟨hN,_⟩:=oM h;have Z:Nat.blt d N=true:=jj hN;have e:(parts.map λp=>(p.1,aK C p.2))=parts.map λp=>(p.1,aK σ p.2):=List.map_congr_left λp hp=>by rw[Y p hp]
       simp[zb,E,I,D,au,e,O,T,hl,gY,Z]
      ·cases h
     ·cases h
    ·cases h
  ·cases h
 ·cases h
def ait{t:TypeId}{x y:A}:cw λX k=>tU (X:=X) P N σ d t x y k:=λX Y k g=>by
 unfold tU;split
 ·refine c9 ((Q6 _ _ _ _).trans (bz _ (funext λC=>?_))) rfl
  repeat' first|rfl|exact K0 _ _ _ _|refine c9 ?_ ?_|split
 ·rfl
def X5:∀ (q:aa Nat) (y:V),cw λX k=>xd (X:=X) m q y k
 |[],_=>λ_ _ _ _=>rfl
 | [x],y=>λX Y k g=>by
  simp only[xd]
  repeat' first|rfl|refine c9 ?_ ?_|split
 |[_,_],_=>λ_ _ _ _=>rfl
 | j :: i :: s :: q,y=>λX Y k g=>by
  simp only[xd]
  refine(xF q _ _ _ _).trans (bz _ (funext λz=>?_))
  repeat' first|rfl|exact X5 q _ _ _ _ _|split
def X6{t:TypeId}{x y:A}:cw λX k=>p6 (X:=X) P σ t x y k:=λX Y k g=>by
 unfold p6;split
 ·split
  ·split
   ·repeat' first|rfl|refine c9 ?_ ?_|split
   ·split
    ·rfl
    ·refine(xF _ _ _ _ _).trans (bz _ (funext λz=>?_))
     repeat' first|rfl|exact X5 _ _ _ _ _ _|refine c9 ?_ ?_|split
   ·rfl
  ·rfl
 ·rfl
def Q8:∀ (xs:aa Lf),cw λX k=>q8 (X:=X) σ xs k
 |[]=>λ_ _ _ _=>rfl
 |x::xs=>DH.comp λy=>(Q8 xs).comp (b:=λX k ys=>k (y.gn::ys)) λ_ _ _ _ _=>rfl
def X7{x:A}:cw λX k=>nU (X:=X) σ x k:=λX Y k g=>by
 unfold nU
 repeat' first|rfl|exact Q8 _ _ _ _ _|exact XX _ _ _ _|split
def aiu{x:A}:cw λX k=>vo (X:=X) σ x k:=λX Y k g=>by
 unfold vo
 repeat' first|rfl|exact X7 _ _ _ _|refine(Q8 _ _ _ _ _).trans (bz _ (funext λz=>?_))|split
def Q9{f:(X:Type)->A->(Pt->aj X)->aj X}(C:∀ x,cw λX k=>f X x k):∀ (xs:aa Operand),cw λX k=>vp (f X) σ xs k
 |[]=>λ_ _ _ _=>rfl
 |x::xs=>(C _).comp λp=>(Q9 C xs).comp (b:=λX k ps=>k (p::ps)) λ_ _ _ _ _=>rfl
def DK{xs:aa Operand}:cw λX k=>sG (X:=X) σ xs k:=Q9 (λ_=>X7) xs
def X8{xs:aa Operand}:cw λX k=>Bk (X:=X) σ xs k:=Q9 (λ_=>aiu) xs
def K1{C:fV}:cw λX k=>ni (X:=X) σ d C k:=λX Y k g=>by
 unfold ni
 repeat' first|rfl|refine c9 ?_ ?_|split
def X9{f:Nat}{c:jn}(C:iO P f c){ev:(X:Type)->(aa Pt->aj X)->aj X}(D:cw ev):cw λX k=>sI (X:=X) N σ d c (ev X) k:=λX Y k g=>
 c9 ((D.comp λps=>(C.1 ps).comp λE=>K1) X Y k g) rfl
def K2{f:Nat}{c:jn}(U:iO P f c){ev:(X:Type)->(aa Pt->aj X)->aj X}(Y:cw ev){k:S->aj X}(h:sI N σ d c (ev X) k=some r):∃ C D,ni σ d C some=some D/\k D=some r/\
  ∀E O (I:(X:Type)->(aa Pt->aj X)->aj X),(∀(X:Type) (k:aa Pt->aj X),I X k=ev X k)->ni E d C some=some O->mg (λX k=>sI (X:=X) N E d c (I X) k) O:=by
 unfold sI at h;cases hN:Nat.blt d N with
 |false=>rw[hN]at h;cases h
 | true=>
  rw[hN,au]at h;obtain⟨ps,Z,hd⟩:=Y.lM h;obtain⟨C,h3,KG⟩:=(U.1 ps).lM Z;obtain⟨D,h4,hd3⟩:=K1.lM h3
  refine⟨C,D,hd3 _ _,h4,λE O I ha iQ X k=>?_⟩
  obtain⟨τ2,T,Ya⟩:=K1.lM iQ;injection T with T;subst T;show sI N E d c (I X) k=_;unfold sI;rw[hN,au,ha,hd X];exact(KG X _).trans (Ya X k)
/-! Keys that do not end in certain names. -/
def n5(p:Nat->Bool)(k:aa Nat):Bool:=!iN p k
def uk(p pb:Nat->Bool):m8:=⟨iN p,iN p,pb⟩
def Lf.nr(p:Nat->Bool):Lf->Bool:=Lf.fr (iN p)
def A.nr(p:Nat->Bool):A->Bool:=A.fr (uk p p)
def Gs{p:Nat->Bool}{n:Nat}(hn:p n=true)(k:aa Nat)(h:cG n k=true):iN p k=true:=by
 unfold iN;rw[show k.getLast?=some n by simpa [cG]using h];exact hn
def Yb{p:Nat->Bool}{k:aa Nat}{n:Nat}(h:n5 p k=true)(hn:p n=true):cG n k=false:=by
 cases hl:cG n k with
 |false=>rfl
 |true=>unfold n5 at h;rw[Gs hn k hl]at h;cases h
def aiv{p:Nat->Bool}{n:Nat}(hn:p n=true)(r:Nat)(h:Nat.beq r n=true):p r=true:=by rw[cN h];exact hn
def Lf.zw{p:Nat->Bool}{x:Lf}{n:Nat}(h:x.nr p=true)(hn:p n=true):x.drop n=x:=Lf.oF (Lf.sn (Gs hn) h)
def qT.zw{p:Nat->Bool}{xs:aa Lf}{n:Nat}(h:xs.all (Lf.nr p)=true)(hn:p n=true):xs.map (Lf.drop n)=xs:=qT.oF (bT.2 λc C=>Lf.sn (Gs hn) (bT.1 h c C))
def A.Bv{p pb:Nat->Bool}{x:A}{n:Nat}(h:x.fr (uk p pb)=true)(hn:p n=true)(hb:pb n=true):x.drop n=x:=A.oF (A.sn (K:=wW n) (J:=uk p pb) (Gs hn) (Gs hn) (aiv hb) h)
def A.zw{p:Nat->Bool}{x:A}{n:Nat}(h:x.nr p=true)(hn:p n=true):x.drop n=x:=A.Bv h hn hn
def S.ext'{σ C:S}(D:∀ k,σ.t k=C.t k)(E:∀ r,σ.m r=C.m r):σ=C:=by
 cases σ;cases C;simp
 grind
def S.set_set{e d:Nat}(h:e≠d)(v u:A):(σ.set d v).set e u=(σ.set e u).set d v:=by
 refine S.ext' (λk=>?_) λ_=>rfl
 show bG (bG σ.t d v) e u k=bG (bG σ.t e u) d v k;by_cases C:k=e
 ·subst C;rw[bK,cr _ _ _ h,bK]
 ·by_cases D:k=d
  ·subst D;rw[cr _ _ _ C,bK,bK]
  ·rw[cr _ _ _ C,cr _ _ _ D,cr _ _ _ D,cr _ _ _ C]
def S.drop_set(n:Nat){v:A}(hv:v.drop n=v):(σ.set d v).drop n=(σ.drop n).set d v:=by
 refine S.ext' (λk=>?_) λ_=>rfl
 show (bG σ.t d v k).drop n=bG (λk=>(σ.t k).drop n) d v k;by_cases h:k=d
 ·subst h;rw[bK,bK,hv]
 ·rw[cr _ _ _ h,cr _ _ _ h]
def Ra(v:A):∀ (xs:aa V) (c:Nat) (σ:S),(∀ n,c <= n -> v.drop n=v) -> mh c (σ.set d v) xs=(mh c σ xs).set d v
 |[],c,σ,h=>rfl
 | x :: xs,c,σ,h=>by
  simp[mh];cases C:x.aG with
  | true=>
   exact Ra v xs _ σ (λn hn=>h n (by omega))
  | false=>
   rw[S.drop_set c (h c (dB _))];exact Ra v xs _ ((σ.drop c).root c _) (λn hn=>h n (by omega))
def Rb(v:A):∀ (ps:aa Pt) (c:Nat) (σ:S),(∀ n,c <= n -> v.drop n=v) -> nX c (σ.set d v) ps=(nX c σ ps).set d v
 |[],c,σ,h=>rfl
 | p :: ps,c,σ,h=>by
  simp[nX];rw[Ra v p.2 c σ h];exact Rb v ps _ _ (λn hn=>h n (by omega))
end
def zx{X:Type}(N:Nat)(σ:S)(d:Nat)(x:A)(k:S->aj X):aj X:=
 match x.yT with
 |some xs=>bif xs.all Lf.live then gY N σ d (.aB (xs.map (Lf.drop d))) (.aL d 0) k else none
 |none=>none
def K3{X:Type}(x:A)(k:A->aj X):aj X:=
 match x with
 |.aL r j=>k (.aL r j)
 |.ptr q=>k (.ptr q)
 |.iW cs=>k (.iW cs)
 |_=>none
section
variable {P:Program} {w w':World} {w0:Wd} {B N:Nat} {af aA:bk} {ρ ρ':Nat->Loc} {σ:S} {a:Act} {X:Type} {d:Nat} {r:X} {o:Oper}
def aiw{e:TypeId}{x:A}{k:S -> aj X}(h:zx N σ d x k=some r):∃ E,k E=some r /\ ∀ af ρ a w,Rl w0 N af ρ σ a w -> ∀ u,RA w w0.heap.size af ρ x u ->
  ∃w' aA ρ' v,(Instr.box e u).run P w = .ok v w'/\Rl w0 N aA ρ' E (a.put (some d) v) w':=by
 unfold zx at h;split at h
 ·rename_i xs T;cases I:xs.all Lf.live with
  |false=>grind
  | true=>
   rw[I,au]at h;obtain⟨hd,h⟩:=oM h
   refine⟨_,h,λaf ρ a w D u U=>?_⟩
   obtain⟨hl,_⟩:=FH T I U;have Y:(Instr.box e u).run P w = .ok (.pointer (some ⟨w.heap.size,0,none⟩)) (w.alloc (.cells u.cells e)):=by
    simp[Instr.box,newVar,newRow]
   refine⟨_,bG af w.heap.size (some [d]),bG ρ d (.aB w.heap.size 0),_,Y,(D.Df (D.cL d (.inl hd)) (λr C=>cr _ _ _ C) ?_).set ⟨w.heap.size,0,bK _ _ _,rfl⟩ hd⟩
   have Z:eI (w.alloc (.cells u.cells e)) w0.heap.size (bG af w.heap.size (some [d])) ρ xs u.cells:=
    hl.gU (by simp) (λb hb=>⟨Below.heap_alloc w _ b hb,cr _ _ _ (by omega)⟩) (λb k hb=>(D.cV b k hb).2.1)
   have O:=Z.eZ (ρ':=bG ρ d (.aB w.heap.size 0)) (d:=d) (λr C=>cr _ _ _ C)
   refine .aB w.heap.size 0 u.cells e _ (λj=>u.cells.getD j undef) (bK _ _ _) (bK _ _ _) (heap_alloc_new w _) (by rw[O.1];omega) λj y hy=>?_
   obtain⟨v,hv,C⟩:=O.2 j y hy;have hg:u.cells.getD j undef=v:=by rw[ig,hv];rfl
   rw[hg,eW];exact⟨hv,C⟩
 ·cases h
def aix{x:A}{k:S -> aj X}(h:zx N σ d x k=some r):∃ y u,k (((σ.drop d).root d y).set d u)=some r/\(∀ (C:S),mg (λX k=>zx (X:=X) N C d x k) (((C.drop d).root d y).set d u)):=by
 unfold zx at h;split at h
 ·rename_i xs E;cases D:xs.all Lf.live with
  |false=>simp_all
  | true=>
   rw[D]at h;obtain⟨I,_⟩:=DJ h
   refine⟨_,_,I,λC X k=>?_⟩
   obtain⟨hN,_⟩:=oM h;have hb:Nat.blt d N=true:=jj hN;simp[zx,E,D,gY,hb,au]
 ·cases h
def aiy{x:A}{k:A->aj X}(h:K3 x k=some r):k x=some r/\∀ u,RA w B af ρ x u->∃ ad,u = .pointer (some ad):=by
 unfold K3 at h;split at h
 ·exact⟨h,λu C=>by obtain⟨b,off,_,rfl⟩:=C;exact⟨_,rfl⟩⟩
 ·exact⟨h,λu C=>by obtain⟨ad,rfl,_⟩:=C;exact⟨_,rfl⟩⟩
 ·exact⟨h,λu C=>by obtain⟨b,off,rfl,_⟩:=C;exact⟨_,rfl⟩⟩
 ·cases h
end
def qe(t:TypeId):Bool:=[999999,999999,50,999999,57,999999,999999,999999,999999,999999,39,999999,999999,999999,999999,999999].any (Nat.beq t)
def xJ{X:Type}(P:Program)(N:Nat)(σ:S)(d:Nat)(t:TypeId)(len:Nat)(parts:aa (Nat×Operand))(k:S->aj X):aj X:=
 match vl P t with
 | some (e,tc)=>match zeroOf P e with
  | some z=>bif Nat.beq z.cells.size (aD tc)&&Nat.blt (len*aD tc) 16777217 then (match za (λi=>some (i*aD tc,aD tc)) (List.replicate len (z.cells.toList.map nT)).flatten (parts.map λp=>(p.1,aK σ p.2))with
   |some cs=>bif Nat.beq len 0 then gY N σ d (.sl (.sl tc (full tc+2) true [])) (.lf (.own [d])) k else gY N σ d (.aB (cs.map (Lf.drop d))) (.pk d len) k
   |none=>none)else none
  |none=>none
 |none=>none
def Bw{X:Type}(N:Nat)(σ:S)(d r C:Nat)(tc:TC)(n:Nat)(k:S->aj X):aj X:=
 match σ.m C,σ.m r with
 | some (.aB cs),some (.sl (.sl D (o+2) q l))=>if h:D=tc then (match gX r (λj=>(j % aD tc) :: (l.length+j / aD tc) :: aD tc :: [r]) cs.length 0 cs σ with
  | some (E,I)=>(match FV tc o n E with
   |some l2=>bif Nat.blt d N&&bV (l.length+l2.length)then k (((I.drop r).root r (.sl (.sl tc (o+2) false ((h ▸ l)++l2)))).set d (.lf (.own [r])))else none
   |none=>none)
  |none=>none)else none
 |_,_=>none
def Gt{X:Type}(P:Program)(N:Nat)(σ:S)(d:Nat)(t:TypeId)(x y:A)(k:S->aj X):aj X:=
 match vl P t,y with
 | some (e,tc),.pk C n=>bif (zeroOf P e).any (λz=>Nat.beq z.cells.size (aD tc))&&(Nat.blt d N&&Nat.blt n qS)then (match x with
  |.lf (.v .nil)=>Bw N ((σ.drop d).root d (.sl (.sl tc (full tc+2) false []))) d d C tc n k
  |.lf (.own [r])=>bif Nat.blt r N ||Nat.ble 60000 r then Bw N σ d r C tc n k else none
  |_=>none)else none
 |_,_=>none
def um{X:Type}(P:Program)(σ:S)(t:TypeId)(x y:A)(k:S->aj X):aj X:=
 match jl P t,y.yT,x with
 | some n,some xs,.ptr [j,i,s,r]=>if xs.length=n then (bif xs.all Lf.live then (match gX r (λm=>(j+m) :: i :: s :: [r]) xs.length 0 xs σ with
  | some (E,D)=>(match D.m r with
   | some (.sl (.sl C (o+2) I l))=>if s=aD C then (if h:i<l.length then (if j+n<=aD C then (match dec C o (splice (enc C o l[i]) j E)with
    |some e=>k (D.de [r] [] [(r,.sl (.sl C (o+2) I (l.set i e)))])
    |none=>none)else none)else none)else none
   |_=>none)
  |none=>none)else none)else none
 |_,_,_=>none
def xK(x y:A):Bool:=match x,y.yT with
 |.ptr _,some xs=>(qW xs).isNone
 |_,_=>false
section
variable {P:Program} {w w':World} {w0:Wd} {B N:Nat} {af aA:bk} {ρ ρ':Nat->Loc} {σ:S} {a:Act} {X:Type} {d:Nat} {r:X} {o:Oper}
def Yc{place:Nat -> aj (Nat×Nat)}:∀ (parts:aa (Nat×A)) (cells out:aa Lf),za place cells parts=some out -> out.length=cells.length
 |[],cells,out,h=>by injection h with h;rw[h]
 | (i,x) :: rest,cells,out,h=>by
  unfold za at h;split at h
  ·rename_i off n xs hp C;split at h
   ·rename_i D;cases hl:xs.all _ with
    | true=>
     rw[hl]at h;rw[Yc rest _ _ h,tQ _ _ _ (by omega)]
    |false=>simp_all
   ·cases h
  ·cases h
def aiz{t:TypeId}{len:Nat}{parts:Array (Nat×Operand)}{k:S -> aj X}(h:xJ P N σ d t len parts.toList k=some r):∃ c8,k c8=some r /\ ∀ af ρ a w,Rl w0 N af ρ σ a w ->
  ∃w' aA ρ' v,(Instr.buildSlice t len (parts.map λ(i,x)=>(i,a.eval x))).run P w = .ok v w'/\Rl w0 N aA ρ' c8 (a.put (some d) v) w':=by
 unfold xJ at h;split at h
 ·rename_i e tc oN;obtain⟨gE,ht,i,hi,O,jW⟩:=yY oN;split at h
  ·rename_i z hz;cases T:(Nat.beq z.cells.size (aD tc)&&Nat.blt (len*aD tc) 16777217)with
   |false=>rw[T]at h;cases h
   | true=>
    rw[T,au]at h;rw[aJ]at T;have mT:=cN T.1;have hsm:len*aD tc<16777217:=by have:=cz T.2;omega
    have oO:i.zero=some z:=by unfold zeroOf at hz;simpa [hi]using hz
    split at h
    ·rename_i cs lN;have key:∀ af ρ (a:Act) w,Rl w0 N af ρ σ a w -> ∃ C,(Instr.buildSlice t len (parts.map λ(i,x)=>(i,a.eval x))).run P w = .ok (.slice (some ⟨w.heap.size,0,none⟩) len len) (w.alloc (.cells C e))/\eI w w0.heap.size af ρ cs C/\C.size=cs.length:=λaf ρ a w D=>by
      have P6:eI w w0.heap.size af ρ (List.replicate len (z.cells.toList.map nT)).flatten (madeCells z.cells (len*aD tc)):=by
       have e1:(List.replicate len (z.cells.toList.map nT)).flatten=((List.replicate len z.cells.toList).flatten).map nT:=by
        rw[List.map_flatten,List.map_replicate]
       rw[e1,<- Xe z.cells (aD tc) len mT (oE tc)]
       refine⟨by simp,λj x E=>?_⟩
       rw[ez]at E;cases hv:(madeCells z.cells (len*aD tc)).toList[j]? with
       |none=>rw[hv]at E;cases E
       | some v=>
        rw[hv]at E;injection E with E;subst E;exact⟨v,by simpa using hv,Kq v⟩
      obtain⟨C,Y,hl⟩:=Kv (w:=w) (B:=w0.heap.size) (af:=af) (ρ:=ρ) _ _ _ (parts.toList.map λp=>(p.1,a.eval p.2)) cs lN P6 (by simp) (λj p q hp hq=>by
       rw[ez]at hp hq;cases E:parts.toList[j]? with
       |none=>rw[E]at hp;cases hp
       | some x=>
        rw[E]at hp hq;injection hp with hp;injection hq with hq;subst hp hq;exact⟨rfl,D.aK x.2⟩)
      have U:(Instr.buildSlice t len (parts.map λ(i,x)=>(i,a.eval x))).run P w = .ok (.slice (some ⟨w.heap.size,0,none⟩) len len) (w.alloc (.cells C e)):=by
       have FY:(parts.map λ(i,x)=>(i,a.eval x)).toList=parts.toList.map λp=>(p.1,a.eval p.2):=by simp
       by_cases Z:len*aD tc=0
       ·have hm:madeCells z.cells (len*aD tc) = #[]:=by rw[Z];simp[madeCells]
        rw[hm]at Y;have P7:len*i.size=0:=by rw[O];exact Z
        rw[<- O]at Y;have e0:∀f:Nat -> Value,Array.map f (Array.range 0) = #[]:=λf=>by simp
        simp only[Instr.buildSlice,gd,gN gE,sizeOf,typeInfo];simp[hi,P7];rw[e0,Y];simp[newRow]
       ·exact run_buildSlice (P:=P) w t e len _ C i z gE hi oO (by rw[O];omega) (by rw[O];exact Z) (by rw[O,FY];exact Y)
      exact⟨C,U,hl,hl.1⟩
     cases nS:Nat.beq len 0 with
     | true=>
      rw[nS,au]at h;have Gu:=cN nS;subst Gu;obtain⟨hd,h⟩:=oM h
      refine⟨_,h,λaf ρ a w D=>?_⟩
      obtain⟨C,U,hl,hcz⟩:=key af ρ a w D;have rq:cs.length=0:=by
       have h1:=Yc _ _ _ lN;rw[h1];simp
      refine⟨_,bG af w.heap.size (some [d]),bG ρ d (.dG (.slice (some ⟨w.heap.size,0,none⟩) 0 0)),_,U,(D.Df (D.cL d (.inl hd)) (λr I=>cr _ _ _ I) (.sl _ _ (bK _ _ _) ?_)).set ⟨rfl,by simp[cQ,bK]⟩ hd⟩
      exact RV.own (w:=w.alloc (.cells C e)) (B:=w0.heap.size) (af:=bG af w.heap.size (some [d])) [d] tc (full tc) true [] w.heap.size 0 C (λ_ _=>undef)
       (bK _ _ _) (by rw[ht];exact heap_alloc_new w _) (by omega) (dB _) ⟨by unfold maxLen;omega,λ_=>rfl⟩ (λi' h'=>absurd h' (by simp)) (λi' h'=>absurd h' (by simp))
     |false=>
     rw[nS,ax]at h;obtain⟨hd,h⟩:=oM h
     refine⟨_,h,λaf ρ a w D=>?_⟩
     obtain⟨C,U,hl,_⟩:=key af ρ a w D
     refine⟨_,bG af w.heap.size (some [d]),bG ρ d (.aB w.heap.size 0),_,U,(D.Df (D.cL d (.inl hd)) (λr I=>cr _ _ _ I) ?_).set ⟨w.heap.size,bK _ _ _,(Px (by have:=Nat.le_mul_of_pos_right len (oE tc);unfold qS;omega)).symm⟩ hd⟩
     have h1:eI (w.alloc (.cells C e)) w0.heap.size (bG af w.heap.size (some [d])) ρ cs C:=
      hl.gU (by simp) (λb hb=>⟨Below.heap_alloc w _ b hb,cr _ _ _ (by omega)⟩) (λb k hb=>(D.cV b k hb).2.1)
     have h2:=h1.eZ (ρ':=bG ρ d (.aB w.heap.size 0)) (d:=d) (λr I=>cr _ _ _ I)
     refine .aB w.heap.size 0 C e _ (λj=>C.getD j undef) (bK _ _ _) (bK _ _ _) (heap_alloc_new w _) (by rw[h2.1];omega) λj y hy=>?_
     obtain⟨v,hv,I⟩:=h2.2 j y hy;have hg:C.getD j undef=v:=by rw[ig,hv];rfl
     rw[hg,eW];exact⟨hv,I⟩
    ·cases h
  ·cases h
 ·cases h
def aiA{t:TypeId}{len:Nat}{parts:aa (Nat×Operand)}{k:S -> aj X}(h:xJ P N σ d t len parts k=some r):∃ y u,k (((σ.drop d).root d y).set d u)=some r /\
  (∀(C:S),(∀p∈parts,aK C p.2=aK σ p.2) -> mg (λX k=>xJ (X:=X) P N C d t len parts k) (((C.drop d).root d y).set d u)):=by
 unfold xJ at h;split at h
 ·rename_i e tc U;split at h
  ·rename_i z Y;cases D:(Nat.beq _ _&&Nat.blt _ 16777217)with
   |false=>rw[D]at h;cases h
   | true=>
    rw[D]at h;split at h
    ·rename_i cs Z;cases E:Nat.beq len 0 with
     | true=>
      rw[E,au]at h;obtain⟨I,_⟩:=DJ h
      refine⟨_,_,I,λC O X k=>?_⟩
      obtain⟨hN,_⟩:=oM h;have T:Nat.blt d N=true:=jj hN;have e:(parts.map λp=>(p.1,aK C p.2))=parts.map λp=>(p.1,aK σ p.2):=List.map_congr_left λp hp=>by rw[O p hp]
      simp only[xJ,U,Y,D,au,e,Z,gY,T,E]
     | false=>
      rw[E,ax]at h;obtain⟨I,_⟩:=DJ h
      refine⟨_,_,I,λC O X k=>?_⟩
      obtain⟨hN,_⟩:=oM h;have T:Nat.blt d N=true:=jj hN;have e:(parts.map λp=>(p.1,aK C p.2))=parts.map λp=>(p.1,aK σ p.2):=List.map_congr_left λp hp=>by rw[O p hp]
      simp only[xJ,U,Y,D,au,e,Z,gY,T,E,ax]
    ·cases h
  ·cases h
 ·cases h
def Yd{t e ty:TypeId}{tc:TC}{i:TypeInfo}{z:Value}{rr ry n:Nat}{k:S -> aj X}(gE:P.underlying t=some (.slice e))(ht:tid tc=e)(hi:P.info? e=some i)(hz:i.zero=some z)
  (iy:i.size=aD tc) (jW:i.bytes <= 65536) (mT:z.cells.size=aD tc) (h:Bw N σ d rr ry tc n k=some r):∃c8,k c8=some r /\ ∀af ρ a w,Rl w0 N af ρ σ a w -> w0.F rr=none -> ∀u v b,ρ rr = .dG u -> ρ ry = .aB b 0 -> v = .slice (some ⟨b,0,none⟩) n n ->
  ∃w' aA ρ' z,(Builtin.append_ #[t,t] ty #[u,v]).run P w = .ok z w'/\Rl w0 N aA ρ' c8 (a.put (some d) z) w':=by
 unfold Bw at h;split at h
 ·rename_i cs E o q l Rc hr;split at h
  ·rename_i nc;subst nc;split at h
   ·rename_i vs τ Rd;split at h
    ·rename_i l2 m9;cases T:(Nat.blt d N&&bV (l.length+l2.length))with
     |false=>rw[T]at h;cases h
     | true=>
      rw[T,au]at h;rw[aJ]at T;have FP:l.length+l2.length<1073741824:=by simpa [bV]using T.2
      have hd:d<N:=by have:=cz T.1;omega
      refine⟨_,h,λaf ρ a w hR hF u v b aiB aiC hv=>?_⟩
      subst hv;have U:=hR.root ry _ Rc;generalize C:aS.aB cs=x at U;cases U with
      |sl=>cases C
      |mp=>cases C
      |gh=>cases C
      | aB b' off cells e' eV us cm nR hh hs hc=>
       injection C with C;subst C;rw[aiC]at cm;injection cm with e1 e2;subst e1 e2;have kH:eI w w0.heap.size af ρ cs ((List.range cs.length).map us).toArray:=by
        refine⟨by simp,λj x I=>?_⟩
        have D:j<cs.length:=(dK.1 I).1;exact⟨us j,by simp[D],(hc j x I).2⟩
       obtain⟨aA,dU,Bb,K4,_,ng,kX,_,_⟩:=Km (w0:=w0) (N:=N) (λj=>by simp[cG]) _ _ _ _ _ _ Rd af ρ a w hR _ kH;obtain⟨Ky,aiD,iF⟩:=P5 E o n vs l2 m9;have q7:cs.length=n*aD E:=by rw[<- Bb,aiD]
       have oP:∀ j,j<cs.length -> (us j).oneCell'=true:=by
        intro j D;have I:=bJ (by rw[Bb];exact D);obtain⟨u',vk,O⟩:=K4 j _ I;have:u'=us j:=by simpa [D]using vk.symm
        rw[<- this];exact O.one
       have Re:b<w.heap.size:=(iz.1 hh).1;have q6:Reads w w.heap.size (aD E) (some ⟨b,0,none⟩) n ((List.range cs.length).map us):=by
        refine⟨by simp[q7],λhn=>⟨b,0,rfl,Re,λj v hv=>?_⟩⟩
        have D:j<cs.length:=by have:=(dK.1 hv).1;simpa using this
        have:v=us j:=by simpa [D]using hv.symm
        subst this;rw[cell_of_row w b _ cells _ _ hh];simp_all
       have gV:tW w w0.heap.size aA rr l.length E o l2 ((List.range cs.length).map us):=by
        intro Y Gr j x I;have D:j<aD E:=by have:=(dK.1 I).1;rwa [kG]at this
        obtain⟨y,U,hw⟩:=iF Y Gr j x I;obtain⟨u',vk,O⟩:=K4 _ _ U;refine⟨u',vk,?_⟩;have e1:(0+(Y*aD E+j)) % aD E=j:=by rw[eW,Nat.add_comm,Nat.add_mul_mod_self_right,Nat.mod_eq_of_lt D]
        have e2:(0+(Y*aD E+j)) / aD E=Y:=by rw[eW,Nat.add_comm,Nat.add_mul_div_right _ _ (oE E),Nat.div_eq_of_lt D,eW]
        simp only[e1,e2]at O;exact O.wk hw
       have By:=dU.root rr _ (ng _ hr);generalize C:aS.sl (.sl E (o+2) q l)=x at By;cases By with
       |aB=>cases C
       |mp=>cases C
       |gh=>cases C
       | sl uu y Z O=>
        injection C with C;subst C;rw[aiB]at Z;injection Z with Z;subst Z;obtain⟨v',w',dz,eU,nj,fq⟩:=dU.ahg (ty:=ty) (c:=n) hF gE ht hi hz iy jW mT O q6 (λv hv=>by
         obtain⟨j,D⟩:=List.mem_iff_getElem?.1 hv;have FU:j<cs.length:=by have:=(dK.1 D).1;simpa using this
         have:v=us j:=by simpa [FU]using D.symm
         rw[this];exact oP j FU) Ky.symm gV FP
        exact⟨w',dz,_,v',eU,nj.set ⟨fq,by simp[cQ,bK]⟩ hd⟩
    ·cases h
   ·cases h
  ·cases h
 ·cases h
def aiE{rr C n:Nat}{tc:TC}:cw λX k=>Bw (X:=X) N σ d rr C tc n k:=λX Y k g=>by
 unfold Bw
 repeat' first|rfl|refine c9 ?_ ?_|split
def aiF{t ty:TypeId}{x y:A}{k:S -> aj X}(h:Gt P N σ d t x y k=some r):∃ C,k C=some r /\ ∀ af ρ a w,Rl w0 N af ρ σ a w -> ∀ u v,RA w w0.heap.size af ρ x u -> RA w w0.heap.size af ρ y v ->
  ∃w' aA ρ' z,(Builtin.append_ #[t,t] ty #[u,v]).run P w = .ok z w'/\Rl w0 N aA ρ' C (a.put (some d) z) w':=by
 unfold Gt at h;split at h
 ·rename_i e tc ry n oN;obtain⟨gE,ht,i,hi,iy,jW⟩:=yY oN;cases I:((zeroOf P e).any (λz=>Nat.beq z.cells.size (aD tc))&&(Nat.blt d N&&Nat.blt n qS))with
  |false=>simp_all
  | true=>
   rw[I,au]at h;rw[aJ]at I;obtain⟨z,hz,O⟩:=(Option.any_eq_true _ _).1 I.1;have O:=cN O;have oO:i.zero=some z:=by unfold zeroOf at hz;simpa [hi]using hz
   have T:=I.2;rw[aJ]at T;have hd:d<N:=by have:=cz T.1;omega
   have lR:n<qS:=by have:=cz T.2;omega
   split at h
   ·obtain⟨C,U,Y⟩:=Yd (w0:=w0) (ty:=ty) gE ht hi oO iy jW O h
    refine⟨C,U,λaf ρ a w D u v E hv=>?_⟩
    have E:u = .slice none 0 0:=by cases E.2;rfl
    subst E;obtain⟨b,hb,rfl⟩:=hv;have Rc:ry≠d:=by
     rintro rfl;unfold Bw at h;split at h
     ·simp_all
     ·cases h
    have Rf:=D.new (d:=d) (x:=.sl (.sl tc (full tc+2) false [])) (.dG (.slice none 0 0)) (.sl _ _ (bK _ _ _) (.eD _ _ _)) (D.cL d (.inl hd));exact Y _ _ a w Rf (D.cL d (.inl hd)) _ _ b (bK _ _ _) ((cr _ _ _ Rc).trans hb) (Px lR)
   ·rename_i rr;cases Z:(Nat.blt rr N || Nat.ble 60000 rr)with
    |false=>simp_all
    | true=>
     rw[Z,au]at h;rw[dQ]at Z;have ng:rr<N \/ 60000 <= rr:=Z.imp (λh=>by have:=cz h;omega) (λh=>cz h);obtain⟨C,U,Y⟩:=Yd (w0:=w0) (ty:=ty) gE ht hi oO iy jW O h
     refine⟨C,U,λaf ρ a w D u v E hv=>?_⟩
     obtain⟨b,hb,rfl⟩:=hv;have cm:ρ rr = .dG u:=by
      have h4:=E.2;simp only[cQ]at h4;cases hl:ρ rr with
      |aB b o=>simp_all
      |bC us=>simp_all
      |dG v=>simp_all
     exact Y af ρ a w D (D.cL rr ng) _ _ b cm hb (Px lR)
   ·cases h
 ·cases h
def aiG{t:TypeId}{x y:A}:cw λX k=>Gt (X:=X) P N σ d t x y k:=λX Y k g=>by
 unfold Gt
 repeat' first|rfl|exact aiE _ _ _ _|refine c9 ?_ ?_|split
def aiH{t:TypeId}{x y:A}{k:S -> aj X}(h:um P σ t x y k=some r):∃ c8,k c8=some r /\ ∀ af ρ a w,Rl w0 N af ρ σ a w -> ∀ u v,RA w w0.heap.size af ρ x u -> RA w w0.heap.size af ρ y v ->
  ∃w' aA,(Instr.storeAt t u v).run P w = .ok () w'/\Rl w0 N aA ρ c8 a w':=by
 unfold um at h;split at h
 ·rename_i n xs j i s rr hn oL;split at h
  ·rename_i hlen;cases Rg:xs.all Lf.live with
   |false=>rw[Rg]at h;cases h
   | true=>
    rw[Rg,au]at h;split at h
    ·rename_i vs τ Rd;split at h
     ·rename_i C o' qn l iQ;split at h
      ·rename_i oJ;split at h
       ·rename_i hi;split at h
        ·rename_i hj;split at h
         ·rename_i e he
          refine⟨_,h,λaf ρ a w hR u v hu hv=>?_⟩
          obtain⟨ad,rfl,I⟩:=hu;obtain⟨hl,oP⟩:=FH oL Rg hv;have kH:eI w w0.heap.size af ρ xs v.cells.toList.toArray:=by simpa using hl
          obtain⟨aA,dU,Bb,K4,_,ng,kX,auW,_⟩:=Km (w0:=w0) (N:=N) (λm=>by simp[cG]) _ _ _ _ _ _ Rd af ρ a w hR _ kH;simp only[addrAt]at I;split at I
          ·rename_i b n0 c0 cm;split at I
           ·rename_i nR;injection I with I;subst I;have By:=dU.root rr _ iQ;generalize D:aS.sl (.sl C (o'+2) qn l)=x at By;cases By with
            |aB=>cases D
            |mp=>cases D
            |gh=>cases D
            | sl uu y kI fJ=>
             injection D with D;subst D;rw[cm]at kI;injection kI with kI;subst kI;cases fJ with
             |aG _ _ _ _ _ _ _ _ _ ho=>omega
             |fF=>simp at hi
             |fP=>simp at hi
             | own _ _ _ _ _ _ cap cs us K5 hh hs qV hm hc hr=>
              subst oJ;have Rh:v.cells.size=n:=by rw[hl.1,hlen]
              have wY:i*aD C+aD C <= c0*aD C:=by
               have:(i+1)*aD C <= c0*aD C:=jX _ (by omega);rw[ji]at this;exact this
              have me:i*aD C+j+v.cells.toList.length <= cs.size:=by rw[lG,Rh,hs];omega
              have T:=Kd w b (i*aD C+j) v.cells.toList;obtain⟨Z,gV,nP⟩:=Fq b (tid C) v.cells.toList (i*aD C+j) w cs hh me;have tT:∀ m,Z[m]?=if m<i*aD C+j then cs[m]? else if m<i*aD C+j+n then v.cells[m-(i*aD C+j)]? else cs[m]?:=by
               intro m;have e2:Z[m]?=(splice cs.toList (i*aD C+j) v.cells.toList)[m]?:=by
                rw[show Z[m]?=Z.toList[m]? by simp,nP];rfl
               rw[e2,wX _ _ _ (by simpa using me),lG,Rh];simp
              have FB:Z.size=cs.size:=by
               rw[<- lG,nP];have:=tQ cs.toList (i*aD C+j) v.cells.toList (by simpa using me);simp only[splice]at this;simp_all
              have Re:b<w.heap.size:=(iz.1 hh).1;have hz:w.heap.size <= (w.setCells b (i*aD C+j) v.cells.toList).heap.size:=Nat.le_of_eq T.size.symm;have Ri:∀E,E<w.heap.size -> aA E≠some [rr] -> (w.setCells b (i*aD C+j) v.cells.toList).heap[E]?=w.heap[E]?:=λE _ bY=>T.block E (by rintro rfl;exact bY K5)
              have FI:w.there b (i*aD C+j) v.cells.size:=by
               intro m sC;refine⟨?_,frozen_of_row w b _ cs _ hh⟩;rw[cell_of_row w b _ cs _ _ hh];simp;omega
              have lP:vs.length=n:=by rw[Bb,hlen]
              refine⟨_,aA,PJ w b _ t v FI (by rw[Rh];exact hn) oP,dU.uf (ns:=[rr]) (cn:=[]) (fe:=ρ) (dz:=aA) ⟨hz,λE xE U=>⟨T.block E ?_,rfl⟩,λ_ _=>rfl,λE k U=>(dU.cV E k U).2⟩
               ⟨T.os,T.tape,T.output,hz,λk U hL=>T.block k ?_⟩ (λE k U=>?_) (λr hr=>by cases hr) (λr0 x D=>?_)⟩
              ·rintro rfl;have:=U _ K5;simp[fQ,cW]at this
              ·rintro rfl;rcases(dU.cV k _ K5).1 with h1 | h1
               ·exact absurd U (Nat.not_lt.2 h1)
               ·exact h1 hL
              ·have:=dU.cV E k U;exact⟨this.1,Nat.lt_of_lt_of_le this.2.1 hz,this.2.2⟩
              ·have iG:r0=rr/\x = .sl (.sl C (o'+2) qn (l.set i e)):=by
                simp only[List.lookup]at D;split at D
                next xE=>injection D with D;exact⟨by simpa using xE,D.symm⟩
                ·cases D
               obtain⟨rfl,rfl⟩:=iG;refine .sl _ _ cm ?_
               refine RV.Kg (u:=us) (us:=λ_ m=>v.cells.getD (m-j) undef) (cs:=cs) (xs:=vs) K5 gV (FB.trans hs) qV hm hi (by rw[lP];exact hj) he (λO h' j' x Y Kh=>?_) (λm x Y=>?_)
               ·have sr:j'<aD C:=by have:=(dK.1 Y).1;rwa [kG]at this
                refine⟨?_,(hr O h' j' x Y).under (n:=r0) (.inl (by simp)) hz Ri (λ_ _=>rfl)⟩
                rw[tT];have A9:¬ (¬ O*aD C+j'<i*aD C+j/\O*aD C+j'<i*aD C+j+n):=by
                 rintro⟨h1,h2⟩;rcases Nat.lt_trichotomy O i with dI|heq|C8
                 ·have:(O+1)*aD C <= i*aD C:=jX _ dI;rw[ji]at this;omega
                 ·subst heq;exact Kh ⟨rfl,by omega,by omega⟩
                 ·have:(i+1)*aD C <= O*aD C:=jX _ C8;rw[ji]at this;omega
                split
                ·exact hc O h' j' x Y
                ·rw[aW];exact hc O h' j' x Y
               ·obtain⟨v0,vm,pX⟩:=K4 m x Y;have sC:m<n:=by rw[<- lP];exact(dK.1 Y).1
                have Kt:v.cells[m]?=some v0:=by simpa using vm
                have C9:v.cells.getD (j+m-j) undef=v0:=by rw[show j+m-j=m by omega,ig,Kt];rfl
                show Z[_]?=some (v.cells.getD (j+m-j) undef)/\RV _ _ _ _ _ (v.cells.getD (j+m-j) undef);rw[C9,tT,aW,aV];rw[eW]at pX
                refine⟨?_,pX.under (n:=r0) (.inl (by simp)) hz Ri (λ_ _=>rfl)⟩
                rw[show i*aD C+(j+m)-(i*aD C+j)=m by omega];exact Kt
           ·cases I
          ·cases I
         ·cases h
        ·cases h
       ·cases h
      ·cases h
     ·cases h
    ·cases h
  ·cases h
 ·cases h
def aiI{t:TypeId}{x y:A}:cw λX k=>um (X:=X) P σ t x y k:=λX Y k g=>by
 unfold um
 repeat' first|rfl|refine c9 ?_ ?_|split
end
def K6(P:Program)(f:Nat)(F:aa Int->aj Int):Prop:=
 ∀ (w:World) (l:aa (T .u8)) (h:Int) (v:Value),F l=some h->RV w w.heap.size (λ_=>none) [] (.sl .u8 0 false l) v->Hd w (λ_=>none)->Calls P f #[v] w λe w'=>
  ∃b off cells t,e = .returned (.pointer (some ⟨b,off,none⟩))/\Below w.heap.size w w'/\w.heap.size<=b/\w'.heap[b]?=some (.cells cells t (0,0))/\cells[off]?=some v/\cells[off+1]?=some (.int .i64 0)/\cells[off+2]?=some (.int .i64 h)
def Gv{X:Type}(N:Nat)(σ:S)(d:Nat)(F:aa Int->aj Int)(x:A)(k:S->aj X):aj X:=
 match x with
 | .lf (.v (.sl .u8 0 q l))=>bif Nat.blt d N then (match F l with
  |some h=>k (((σ.drop (1000000000100000+1000*d)).root (1000000000100000+1000*d) (.aB [.v (.sl .u8 0 q l),.v (.int .i64 0),.v (.int .i64 h)])).set d (.aL (1000000000100000+1000*d) 0))
  |none=>none)else none
 |_=>none
structure Bz where
 a:Nat
 j:Nat
 t:TC
 run:List Pt->Option (Nat×Nat)
def uo(bC:Array Value)(a j:Nat):aj Value:=match bC[a]? with
 |some (.agg us)=>us[j]?
 |some u=>bif Nat.beq j 0 then some u else none
 |none=>none
def K7(P:Program)(f:Nat)(c:Bz):Prop:=
 ∀ (args:aa Pt) (p:Nat×Nat),c.run args=some p->∀ (w:World) (bC:Array Value),oR w args bC->Hd w (λ_=>none)->Calls P f bC w λe w'=>
  ∃A n cap,uo bC c.a c.j=some (.slice A n cap)/\p.1<=p.2/\p.2<=n/\e = .returned (sliced A p.1 p.2 cap (aD c.t))/\Below w.heap.size w w'
def Ye(σ:S)(args:aa Operand)(a j:Nat):aj Lf:=match args[a]? with
 | some x=>(match aK σ x with
  |.agg cs=>cs[j]?
  |.lf l=>bif Nat.beq j 0 then some l else none
  |_=>none)
 |none=>none
def Gw{X:Type}(N:Nat)(σ:S)(d:Nat)(c:Bz)(args:aa Operand)(k:S->aj X):aj X:=
 bif Nat.blt d N then sG σ args λps=>(match c.run ps with
  | some p=>(match Ye σ args c.a c.j with
   |some (.v (.sl t g _ l))=>if t=c.t then (bif Nat.blt g 2&&Nat.ble p.1 p.2&&Nat.ble p.2 l.length then k (σ.set d (.lf (.v (.sl t g false ((l.take p.2).drop p.1)))))else none)else none
   |_=>none)
  |none=>none)else none
structure uq where
 run:(X:Type)->Nat->S->List A->(S->A->Option X)->Option X
def DL{α β:Type}(f:(X:Type)->(α->β->aj X)->aj X):Prop:=∀(X Y:Type) (k:α->β->aj X) (g:X->aj Y),(f X k).bind g=f Y λa b=>(k a b).bind g
def DL.lM{α β:Type}{f:(X:Type)->(α->β->aj X)->aj X}(n:DL f){X:Type}{k:α->β->aj X}{r:X}(h:f X k=some r):∃ a b,k a b=some r/\∀ (X:Type) (k:α->β->aj X),f X k=k a b:=by
 obtain⟨⟨a,b⟩,C,D⟩:=cw.lM (f:=λX (k:α×β->aj X)=>f X λa b=>k (a,b)) (λX Y k g=>n X Y _ g) (k:=λp=>k p.1 p.2) h;exact⟨a,b,C,λX k=>D X λp=>k p.1 p.2⟩
def qf(P:Program)(f:Nat)(c:uq):Prop:=(∀ N σ xs,DL λX k=>c.run X N σ xs k)/\
 ∀ [Inhabited Wd] (N:Nat) (σ:S) (xs:aa A) (C:S) (y:A),c.run (S×A) N σ xs (λσ y=>some (σ,y))=some (C,y)->
  ∀ (w0:Wd) (af:bk) (ρ:Nat->Loc) (a:Act) (w:World) (bC:Array Value),Rl w0 N af ρ σ a w->bC.size=xs.length->(∀ i,RA w w0.heap.size af ρ ((xs[i]?).getD .undef) (bC.getD i undef))->
   Calls P f bC w λe w'=>∃v aA ρ',e = .returned v/\Rl w0 N aA ρ' C a w'/\RA w' w0.heap.size aA ρ' y v
inductive qg where
 |p (c:jn)
 |m (c:nt)
 |n (F:List Int->Option Int)
 |v (c:Bz)
 |i (c:uq)
 |d (c:nt)
 |q (c:jn)
 |c (c:nt)
def Rj(P:Program)(f:Nat):qg->Prop
 |.p c=>iO P f c
 |.m c=>vu P f c
 |.n F=>K6 P f F
 |.v c=>K7 P f c
 |.i c=>qf P f c
 |.d c=>vu P f c
 |.q c=>iO P f c
 |.c c=>vu P f c
section
variable {P:Program} {w w':World} {w0:Wd} {B N:Nat} {af dz aA:bk} {ρ fe ρ':Nat->Loc} {σ:S} {a:Act} {X:Type} {d:Nat} {r:X} {ns cn:aa Nat} {o:Oper}
def Yf:∀ (xs:aa Lf),cw λX k=>sK (X:=X) σ ns xs k
 |[]=>λ_ _ _ _=>rfl
 |x::xs=>λX Y k g=>c9 ((DH.comp λy=>(Yf xs).comp (b:=λX k ys=>k (y.gn::ys)) λ_ _ _ _ _=>rfl) X Y k g) rfl
def Yg{x:A}:cw λX k=>rz (X:=X) σ ns x k:=λX Y k g=>by
 unfold rz
 repeat' first|rfl|exact Yf _ _ _ _ _|refine c9 ?_ ?_|split
def K8:∀ (ps:aa PK) (xs:aa Operand) (C:aa Mu),cw λX k=>jr (X:=X) σ ns ps xs C k:=λps=>by
 induction ps with
 |nil=>intro xs C X Y k g;cases xs<;>cases C<;>rfl
 | cons p ps D=>
  intro xs C X Y k g;cases xs with
  |nil=>cases p<;>cases C<;>rfl
  | cons x xs=>
   cases p with
   | v b t=>
    refine(Yg _ _ _ _).trans (bz _ (funext λp=>c9 ?_ rfl))
    split
    ·exact D _ _ _ _ _ _
    ·rfl
   | p t E o=>
    cases C with
    |nil=>rfl
    | cons m C=>cases m with
     |sl=>rfl
     | aB=>
      simp only[jr];split
      ·exact D _ _ _ _ _ _
      ·rfl
   | s t E=>
    cases C with
    |nil=>rfl
    | cons m C=>cases m with
     |aB=>rfl
     | sl=>
      simp only[jr];split
      ·exact D _ _ _ _ _ _
      ·rfl
def aiJ{C:aj Tmp}{D:fV}:cw λX k=>qb (X:=X) N σ C D k:=λX Y k g=>by
 unfold qb
 repeat' first|rfl|exact K1 _ _ _ _|refine c9 ?_ ?_|split
def Rk{C:aj Tmp}{c:nt}{args:aa Operand}:cw λX k=>nZ (X:=X) N σ C c args k:=λX Y k g=>by
 unfold nZ;split
 ·refine c9 ((K8 _ _ _ _ _ _ _).trans (bz _ (funext λx=>?_))) rfl
  split
  ·exact c9 (aiJ _ _ _ _) rfl
  ·rfl
 ·rfl
def aiK{F:aa Int->aj Int}{x:A}:cw λX k=>Gv (X:=X) N σ d F x k:=λX Y k g=>by
 unfold Gv
 repeat' first|rfl|refine c9 ?_ ?_|split
def aiL{f:Nat}{x:Operand}{args:Array Operand}{T:Array TypeId}{F:aa Int -> aj Int}{k:S -> aj X}(ho:o.op = .call { callee:=.value (.func f),args,argTypes:=T })(hx:args.toList=[x])(hd:o.dst=some d)(he:enters P f)(hc:K6 P f F)(h:Gv N σ d F (aK σ x) k=some r):
  ∃U,k U=some r/\kW P w0 N o σ U:=by
 unfold Gv at h;split at h
 ·rename_i q l hq;cases hN:Nat.blt d N with
  |false=>rw[hN]at h;cases h
  | true=>
   rw[hN,au]at h;have xq:d<N:=cz hN;split at h
   ·rename_i Y hhz
    refine⟨_,h,λa w K Q D hK=>?_⟩
    obtain⟨af,ρ,D⟩:=D;have hv:=D.aK x;rw[hq]at hv;have vm:RV w w.heap.size (λ_=>none) [] (.sl .u8 0 false l) (a.eval x):=by
     have Z:RV w w.heap.size (λ_=>none) [] (.sl .u8 0 q l) (a.eval x):=hv.2.gn;cases q with
     |false=>exact Z
     |true=>exact Z.wk (.q _ _ _)
    unfold Oper.wp;rw[KF w o a f args T ho he,Oper.upon_enter];have xu:(args.map a.eval) = #[a.eval x]:=by apply Array.ext';rw[Array.toList_map,hx];rfl
    rw[xu]
    refine(hc w l _ _ hhz vm (w0.on D.below (λ_ _ h=>by cases h))).mono λe w' q9=>?_
    obtain⟨b,off,cells,t,rfl,I,hb,hh,rq,Ro,nP⟩:=q9;have hB:=D.below.size;have gZ:b<w'.heap.size:=(iz.1 hh).1;have sO:Rl w0 N (bG af b (some [1000000000100000+1000*d])) ρ σ a w':=by
     refine D.grow I (λc O=>cr _ _ _ (by omega)) (λc k O E=>?_)
     by_cases e:c=b
     ·subst e;rw[bK]at E;injection E with E
      grind
     ·rw[cr _ _ _ e]at E;have:=(D.cV c k E).2.1;omega
    have nj:=sO.new (d:=1000000000100000+1000*d) (x:=.aB [.v (.sl .u8 0 q l),.v (.int .i64 0),.v (.int .i64 Y)]) (.aB b off) (by
     refine .aB b off cells t _ (λj=>(#[a.eval x,.int .i64 0,.int .i64 Y]:Array Value).getD j undef) (bK _ _ _) (bK _ _ _) hh (by
      have:=(iz.1 nP).1;simp;omega) (λj y C=>?_)
     have Dn:dM w' w0.heap.size (bG af b (some [1000000000100000+1000*d])) (bG ρ (1000000000100000+1000*d) (.aB b off)) (.v (.sl .u8 0 q l)) (a.eval x):=by
      refine⟨rfl,hv.2.gU I.size (λc O=>⟨I.block c O,cr _ _ _ (by omega)⟩)⟩
     match j,C with
     |0,C=>simp at C;subst C;exact⟨rq,Dn⟩
     |1,C=>simp at C;subst C;exact⟨Ro,rfl,.int _ _ _⟩
     |2,C=>simp at C;subst C;exact⟨nP,rfl,.int _ _ _⟩
     |j+3,C=>simp at C) (D.cL _ (.inr (by omega)))
    rw[hd];exact hK _ _ ⟨_,_,nj.set ⟨b,off,bK _ _ _,rfl⟩ xq⟩
   ·cases h
 ·cases h
def aiM{f:Nat}{args:Array Operand}{U:Array TypeId}{c:Bz}{k:S -> aj X}(ho:o.op = .call { callee:=.value (.func f),args,argTypes:=U })(hd:o.dst=some d)(he:enters P f)(hc:K7 P f c)(h:Gw N σ d c args.toList k=some r):∃ Y,k Y=some r/\kW P w0 N o σ Y:=by
 unfold Gw at h;cases hN:Nat.blt d N with
 |false=>grind
 | true=>
  rw[hN,au]at h;have xq:d<N:=by have:=cz hN;omega
  obtain⟨ps,E,tZ⟩:=Xq (w0:=w0) (N:=N) _ _ h;split at E
  ·rename_i p hp;split at E
   ·rename_i t g q l hl;split at E
    ·rename_i nc;cases hb:(Nat.blt g 2&&Nat.ble p.1 p.2&&Nat.ble p.2 l.length)with
     |false=>grind
     | true=>
      rw[hb,au]at E;rw[aJ,aJ]at hb;have hg:g<2:=by have:=cz hb.1.1;omega
      have qh:=cz hb.1.2;have h2l:=cz hb.2
      refine⟨_,E,λa w K Q I hK=>?_⟩
      obtain⟨af,ρ,I⟩:=I;unfold Oper.wp;rw[KF w o a f args U ho he,Oper.upon_enter];have xu:(args.map a.eval)=(args.toList.map a.eval).toArray:=by apply Array.ext';rw[Array.toList_map]
      rw[xu]
      refine(hc ps p hp w _ (tZ af ρ a w I) (w0.on I.below (λ_ _ h=>by cases h))).mono λe w' q9=>?_
      obtain⟨A,n,cap,C,hle,hn,rfl,T⟩:=q9;have kY:RV w w0.heap.size af [] (.sl t g q l) (.slice A n cap):=by
       unfold Ye at hl;split at hl
       ·rename_i x hx;have hev:((args.toList.map a.eval).toArray)[c.a]?=some (a.eval x):=by
         rw[List.getElem?_toArray,ez,hx];rfl
        unfold uo at C;rw[hev]at C;have D:=I.aK x;split at hl
        next cs lN=>rw[lN]at D;obtain⟨us,kH,Gx⟩:=D;rw[kH]at C;obtain⟨u,O,hr⟩:=Gx.2 _ _ hl;simp only at C;rw[C]at O;injection O with O;subst O;exact hr.2
        ·rename_i lf xo;rw[xo]at D;cases hj:Nat.beq c.j 0 with
         |false=>grind
         | true=>
          rw[hj]at hl C;injection hl with hl;subst hl;have D:dM w w0.heap.size af ρ (.v (.sl t g q l)) (a.eval x):=D;have Z:∀ us,a.eval x ≠ .agg us:=by
           intro us e;rw[e]at D;cases D.2
          generalize a.eval x=z at C D Z;cases z<;>first|exact absurd rfl (Z _)|(simp only[au,iB]at C;cases C;exact D.2)|(simp only[au,iB]at C;cases C)
        ·cases hl
       ·cases hl
      obtain⟨Rp,Dt,Qb⟩:=kY.part (a:=p.1) (h:=p.2) hg qh h2l;subst nc;rw[hd];have dU:=I.grow T (aA:=af) (λ_ _=>rfl) (λb k hb hk=>absurd (I.cV b k hk).2.1 (Nat.not_lt.2 hb));refine hK _ _ ⟨af,ρ,dU.set ⟨by simp[V.aG,hg],?_⟩ xq⟩;exact Rp.gU T.size λb hb=>⟨T.block b hb,rfl⟩
    ·cases E
   ·cases E
  ·cases E
def aiN{c:Bz}{args:aa Operand}:cw λX k=>Gw (X:=X) N σ d c args k:=λX Y k g=>by
 unfold Gw
 refine c9 ((DK _ _ _ _).trans (bz _ (funext λps=>?_))) rfl
 repeat' first|rfl|refine c9 ?_ ?_|split
/-! Calls of functions that are run in the state of their caller. -/
def Gy{X:Type}(N:Nat)(σ:S)(C:aj Tmp)(c:uq)(xs:aa A)(k:S->aj X):aj X:=c.run X N σ xs λD y=>gW N D C y k
def aiO(p:Nat×Nat):A:=.aL p.1 p.2
def Gz(σ:S):aa Operand->aj (aa (Nat×Nat))
 |[]=>some []
 | x :: xs=>match aK σ x,Gz σ xs with
  |.aL r j,some ps=>some ((r,j)::ps)
  |_,_=>none
def aiP(w:World)(o:Oper)(a:Act)(f:Nat)(cl:Operand)(C:Array Value)(args:Array Operand)(E:Array TypeId)(I:o.op = .call { callee:=.value cl,args,argTypes:=E })(hv:a.eval cl = .func (.func f) #[] C)(O:enters P f):
  (execOp a.eval o).run P w = .ok (.enter f (args.map a.eval++C)) w:=by
 obtain⟨fn,T,U,D⟩:=O;have Y:¬ fn.name = "runtime.NumGoroutine":=by simpa using U
 have Z:¬ fn.body=none:=by intro e;rw[e]at D;cases D
 simp[execOp,I,resolve,hv,Deferred.ofValue,invoke,callFunc,Sem.run,T,Y,Z]
def K9:A->aj (Nat×aa A)
 |.fn f cap=>some (f,cap.map aiO)
 |.m7 f cs=>some (f,[.iW cs])
 |_=>none
def aiQ{x:A}{f:Nat}{ex:aa A}{u:Value}(h:K9 x=some (f,ex))(O:RA w B af ρ x u):∃ D:Array Value,u = .func (.func f) #[] D/\D.size=ex.length /\ ∀ (j:Nat) y,ex[j]?=some y -> RA w B af ρ y (D.getD j undef):=by
 unfold K9 at h;split at h
 ·rename_i f' cap;injection h with h;injection h with E I;subst E I;obtain⟨D,hv,T,U⟩:=O
  refine⟨D,hv,by simp[T],λj y C=>?_⟩
  rw[ez]at C;cases hp:cap[j]? with
  |none=>simp_all
  | some p=>
   rw[hp]at C;injection C with C;subst C;obtain⟨b,off,E,I⟩:=U _ p hp;rw[ig,I];exact⟨b,off,E,rfl⟩
 ·injection h with h;injection h with E I;subst E I;obtain⟨pv,e,hp⟩:=O
  refine⟨#[pv],e,rfl,λj y C=>?_⟩
  rcases j with _|j
  ·injection C with C;subst C;exact hp
  ·cases C
 ·cases h
def Yh{f:Nat}{cl:Operand}{ex:aa A}{args:Array Operand}{Y:Array TypeId}{c:uq}{k:S->aj X}(ho:o.op = .call { callee:=.value cl,args,argTypes:=Y })(q7:K9 (aK σ cl)=some (f,ex))(he:enters P f)(Z:qf P f c)
  (h:Gy N σ o.dst c (args.toList.map (aK σ)++ex) k=some r):∃c8,k c8=some r/\kW P w0 N o σ c8:=by
 unfold Gy at h
 haveI:Inhabited Wd:=⟨w0⟩
 obtain⟨qd,y,D,hd⟩:=(Z.1 _ _ _).lM h;have Ga:=Z.2 _ _ _ _ _ (hd _ _);have step:∀ a w K Q,R w0 N σ a w->(∀ v w' aA ρ',Rl w0 N aA ρ' qd a w'->RA w' w0.heap.size aA ρ' y v->K (a.put o.dst v) w')->o.wp P a w K Q:=by
  intro a w K Q C E;obtain⟨af,ρ,C⟩:=C;obtain⟨O,hv,hs,lP⟩:=aiQ q7 (C.aK cl);unfold Oper.wp;rw[aiP w o a f cl O args Y ho hv he,Oper.upon_enter]
  refine(Ga w0 af ρ a w _ C (by simp[hs]) λi=>?_).mono λe w' q9=>?_
  ·by_cases hi:i<args.size
   ·have e1:(args.toList.map (aK σ)++ex)[i]?=some (aK σ args[i]):=by
     rw[List.getElem?_append_left (by simpa using hi),ez,Array.getElem?_toList,Array.getElem?_eq_getElem hi];rfl
    have T:(args.map a.eval++O).getD i undef=a.eval args[i]:=by
     rw[ig,Array.getElem?_append_left (by simpa using hi)];simp[hi]
    rw[e1,T];exact C.aK _
   ·have e0:(args.toList.map (aK σ)++ex)[i]?=ex[i-args.size]?:=by
     rw[List.getElem?_append_right (by simp;omega)];simp
    rw[e0];cases hp:ex[i-args.size]? with
    |none=>trivial
    | some p=>
     have T:(args.map a.eval++O).getD i undef=O.getD (i-args.size) undef:=by
      rw[ig,Array.getElem?_append_right (by simp;omega),ig];simp
     rw[T];exact lP _ p hp
  ·obtain⟨v,aA,ρ',rfl,I,U⟩:=q9;exact E v w' aA ρ' I U
 unfold gW at D;split at D
 ·rename_i hd
  refine⟨qd,D,λa w K Q C E=>step a w K Q C λv w' aA ρ' I _=>?_⟩
  rw[hd];exact E _ _ ⟨aA,ρ',I⟩
 ·rename_i d hd;cases hN:Nat.blt d N with
  |false=>rw[hN]at D;cases D
  | true=>
   rw[hN,au]at D
   refine⟨_,D,λa w K Q C E=>step a w K Q C λv w' aA ρ' I U=>?_⟩
   rw[hd];exact E _ _ ⟨aA,ρ',I.set U (by have:=cz hN;omega)⟩
def Yi:∀ (xs:aa Operand) (ps:aa (Nat×Nat)),Gz σ xs=some ps -> ps.length=xs.length /\ ∀ af ρ a w,Rl w0 N af ρ σ a w -> ∀ (j:Nat) p,ps[j]?=some p -> ∃ b off,ρ p.1 = .aB b off/\(xs.map a.eval)[j]?=some (.pointer (some ⟨b,off+p.2,none⟩))
 | [],ps,h=>by
  simp only[Gz,iB]at h;simp_all
 | x :: xs,ps,h=>by
  unfold Gz at h;split at h
  ·rename_i rr j D E I;injection h with h;subst h;obtain⟨O,U⟩:=Yi xs D I
   refine⟨by simp[O],λaf ρ a w T C p hp=>?_⟩
   cases C with
   | zero=>
    simp at hp;subst hp;have hv:=T.aK x;rw[E]at hv;obtain⟨b,off,Y,Z⟩:=hv;simp_all
   |succ C =>grind
  ·cases h
end
def A.zy(q s n:Nat):A->A
 |.lf (.own [C])=>bif Nat.beq C q then .view [q] s 0 n else .lf (.own [C])
 |x=>x
def S.zy(σ:S)(p:Nat×Nat×Nat):S:=⟨λk=>(σ.t k).zy p.1 p.2.1 p.2.2,σ.m⟩
def Rq:aa (Nat×Nat×Nat)->S->S
 |[],σ=>σ
 |p::l,σ=>Rq l (σ.zy p)
def Rr(c0 g:Nat):Mu->aa (Nat×Nat×Nat)
 |.sl q (.sl t _ _ l)=>bif Nat.ble 1000000 g&&Nat.blt q c0 then [(q,aD t,l.length)]else []
 |_=>[]
def GA(c0:Nat):aa PK->aa Mu->aa (Nat×Nat×Nat)
 |.v _ _::ps,C=>GA c0 ps C
 |.p _ _ _::ps,_::C=>GA c0 ps C
 |.s _ g::ps,D::C=>Rr c0 g D++GA c0 ps C
 |_,_=>[]
def GB{X:Type}(N:Nat)(σ:S)(C:aj Tmp)(c:nt)(args:aa Operand)(k:S->aj X):aj X:=
 match jq σ c.ps args with
 |some D=>nZ N σ C c args λE=>k (Rq (GA (iq C) c.ps D) E)
 |none=>none
section
variable {P:Program} {w w':World} {w0:Wd} {B N:Nat} {af dz aA:bk} {ρ fe ρ':Nat->Loc} {σ:S} {a:Act} {X:Type} {d:Nat} {r:X} {o:Oper}
def Rl.zy{p:Nat×Nat×Nat}{ad:aj Addr}{c:Nat}(h:Rl w0 N af ρ σ a w)(hq:ρ p.1 = .dG (.slice ad p.2.2 c)):Rl w0 N af ρ (σ.zy p) a w:=by
 refine⟨h.below,h.cV,h.root,λk=>?_,h.size,h.defers,h.fix,h.cL⟩
 have C:=h.tmp k;show RA _ _ _ _ ((σ.t k).zy p.1 p.2.1 p.2.2) _;generalize σ.t k=x at C;unfold A.zy;split
 ·rename_i E;cases hb:Nat.beq E p.1 with
  |false=>exact C
  | true=>
   obtain rfl:=cN hb;have D:=C.2;simp only[cQ,hq]at D;injection D with D;refine⟨ad,p.2.2,c,by simp[cQ,hq],iL _,dB _,?_⟩;rw[<- D];cases ad<;>simp[sliced,Addr.add]
 ·exact C
def Yj:∀ (l:aa (Nat×Nat×Nat)) (σ:S),Rl w0 N af ρ σ a w->(∀ p∈l,∃ A c,ρ p.1 = .dG (.slice A p.2.2 c))->Rl w0 N af ρ (Rq l σ) a w
 |[],σ,h,_=>h
 | p :: l,σ,h,hl=>by
  obtain⟨A,c,hp⟩:=hl p (.head _);exact Yj l _ (h.zy hp) λp hp=>hl p (.tail _ hp)
def aiR{c0 g:Nat}{D:Mu}{p:Nat×Nat×Nat}(h:p∈Rr c0 g D):∃ q t o C l,D = .sl q (.sl t o C l)/\p=(q,aD t,l.length)/\q<c0:=by
 unfold Rr at h;split at h
 ·rename_i q t o C l;cases hb:(Nat.ble 1000000 g&&Nat.blt q c0)with
  |false=>simp_all
  | true=>
   rw[hb]at h;rw[aJ]at hb;exact⟨q,t,o,C,l,rfl,gf.1 h,cz hb.2⟩
 ·cases h
def Lb{c0:Nat}{p:Nat×Nat×Nat}:∀ (ps:aa PK) (C:aa Mu),p∈GA c0 ps C -> ∃ q t o D l,Mu.sl q (.sl t o D l)∈C/\p=(q,aD t,l.length)/\q<c0
 |.v _ _::ps,C,h=>Lb ps C h
 |.p _ _ _::ps,O::C,h=>let ⟨q,t,o,D,l,I,E⟩:=Lb ps C h;⟨q,t,o,D,l,.tail _ I,E⟩
 | .s _ g :: ps,O :: C,h=>by
  rcases gJ.1 h with h|h
  ·obtain⟨q,t,o,D,l,rfl,E⟩:=aiR h;exact⟨q,t,o,D,l,.head _,E⟩
  ·obtain⟨q,t,o,D,l,I,E⟩:=Lb ps C h;exact⟨q,t,o,D,l,.tail _ I,E⟩
def RV.aiS{q:aa Nat}{t:TC}{g:Nat}{C:Bool}{l:aa (T t)}{v:Value}(h:RV w B af q (.sl t g C l) v):∃ A c,v = .slice A l.length c:=by
 cases h<;>exact⟨_,_,rfl⟩
def aiT{f:Nat}{args:Array Operand}{Y:Array TypeId}{c:nt}{k:S->aj X}(Z:o.op = .call { callee:=.value (.func f),args,argTypes:=Y })(he:enters P f)(hc:vu P f c)(h:GB N σ o.dst c args.toList k=some r):∃ I,k I=some r/\kW P w0 N o σ I:=by
 unfold GB at h;split at h
 ·rename_i QY O;obtain⟨qd,sL,cn,h1,D,_,h4,h5⟩:=QV (w0:=w0) Z he hc h;rw[O]at D;injection D with D;subst D
  refine⟨_,h1,λa w K Q E hK=>?_⟩
  obtain⟨af,ρ,E⟩:=E
  refine h5 a w K Q af ρ E λv w' dz fe sN dU hv _ cm=>hK _ _ ⟨dz,sN,Yj _ _ dU λp hp=>?_⟩
  obtain⟨q,t,oo,qn,l,T,rfl,hq⟩:=Lb _ _ hp;have jL:=(KM _ _ _ O _ T).1;have U:=E.root q _ jL;generalize C:aS.sl _=z at U;cases U with
  |aB=>cases C
  |mp=>cases C
  |gh=>cases C
  | sl u y Qj hr=>
   injection C with C;subst C;obtain⟨A,c,rfl⟩:=hr.aiS;exact⟨A,c,(cm q hq).trans ((hv.eZ q (h4 _ T)).trans Qj)⟩
 ·cases h
def aiU{C:aj Tmp}{c:nt}{args:aa Operand}:cw λX k=>GB (X:=X) N σ C c args k:=λX Y k g=>by
 unfold GB;split
 ·exact Rk _ _ _ _
 ·rfl
end
def bk.un(af:bk)(q:Nat):bk:=λb=>match af b with
 |some k=>bif cG q k then none else some k
 |none=>none
def GC{X:Type}(P:Program)(σ:S)(q s i j:Nat)(t:TypeId)(x:A)(k:S->aj X):aj X:=
 match σ.m q with
 |some (.sl (.sl tc (o+2) C l))=>bif Nat.beq s (aD tc)&&Nat.beq (full tc) 0 then p6 P (σ.drop q) t (x.drop q) (.lf (.v (.sl tc 0 false ((l.take j).drop i)))) k else none
 |_=>none
section
variable {P:Program} {w w':World} {w0:Wd} {B N:Nat} {af aA:bk} {ρ ρ':Nat->Loc} {σ:S} {a:Act} {X:Type} {d q:Nat} {r:X} {o:Oper} {y:V}
def aiV(C:∀ b,af b≠some []):Rel q af (af.un q):=
 ⟨C,λb h=>by simp[bk.un,h],λb k h D=>by simp[bk.un,h,D]⟩
def RV.ice{tc:TC}{g:Nat}{O:Bool}{l:aa (T tc)}{A:aj Addr}{n c:Nat}(D:RV w B af [q] (.sl tc (g+2) O l) (.slice A n c))(U:full tc=0):RV w B (af.un q) [] (.sl tc 0 false l) (.slice A n c)/\n=l.length:=by
 cases D with
 |eD=>exact⟨.eD _ _ _,rfl⟩
 |fF=>grind
 |fP=>grind
 |aG _ _ _ _ _ _ _ _ _ Y=>omega
 | own=>
  rename_i b cs u hl hh Z D hs hn hm;have I:∀ (i:Nat) (h:i<l.length) (j:Nat) (x:V),(enc tc 0 l[i])[j]?=some x -> (enc tc g l[i])[j]?=some x/\x.plain=true:=by
   intro i h j x C;obtain⟨y,E,rfl⟩:=wU tc g l[i] j x C;have hp:=J7 tc g l[i] y (gC E);cases y with
   | sl t' o' q' l'=>
    have:=cz (show Nat.ble _ _=true from hp);omega
   | nil=>
    have:=Pv tc g l[i] _ (gC E);cases this
   |_=>exact⟨E,rfl⟩
  refine⟨.aG _ _ _ _ _ b 0 c u (by omega) (by simp[bk.un,hl,cG]) (iz.1 hh).1 (by omega) hn (λi h j x C=>?_) (λi h j x C=>?_),rfl⟩
  ·rw[eW,cell_of_row w b _ cs _ _ hh];simp_all
  ·exact(D i h j x (I i h j x C).1).tR (I i h j x C).2
def aiW{s i j:Nat}{t:TypeId}{x:A}{k:S -> aj X}(h:GC P σ q s i j t x k=some r):∃ E,k E=some r /\ ∀ af ρ a w,Rl w0 N af ρ σ a w -> ∀ u v,RA w w0.heap.size af ρ x u -> RA w w0.heap.size af ρ (.view [q] s i j) v ->
  ∃w' aA,(Instr.storeAt t u v).run P w = .ok () w'/\Rl w0 N aA ρ E a w':=by
 unfold GC at h;split at h
 ·rename_i tc g Z l hm;cases hb:(Nat.beq s (aD tc)&&Nat.beq (full tc) 0)with
  |false=>rw[hb]at h;cases h
  | true=>
   rw[hb,au]at h;rw[aJ]at hb;obtain rfl:=cN hb.1;have hf:=cN hb.2;obtain⟨E,h1,hs⟩:=WS (w0:=w0) (N:=N) h
   refine⟨E,h1,λaf ρ a w I u v hu hv=>?_⟩
   have O:Rel q af (af.un q):=aiV I.xe;have sO:=I.rel O (λb k C=>by
    unfold bk.un at C;cases hl:af b with
    |none=>rw[hl]at C;cases C
    | some T=>
     rw[hl]at C;simp only at C;cases hq:cG q T with
     |true=>rw[hq]at C;cases C
     | false=>
      rw[hq]at C;injection C with C;subst C;exact⟨⟨_,rfl⟩,(I.cV b T hl).2.2⟩)
   obtain⟨A,n,c,U,h3,h4,rfl⟩:=hv;have Y:=I.root q _ hm;generalize D:aS.sl (.sl tc (g+2) Z l)=z at Y;cases Y with
   |aB=>cases D
   |mp=>cases D
   |gh=>cases D
   | sl vq y cm hr=>
    injection D with D;subst D;have hvq:vq = .slice A n c:=by
     simp only[cQ,cm]at U;injection U
    subst hvq;obtain⟨h5,h6⟩:=hr.ice hf;have h7:=(h5.part (by omega) h3 (by omega)).1;obtain⟨w',eU,nj⟩:=hs _ _ _ _ sO u _ (hu.rel O) (show RA _ _ _ _ (.lf (.v _)) _ from ⟨rfl,h7⟩);exact⟨w',_,eU,nj⟩
 ·cases h
def aiX{q s i j:Nat}{t:TypeId}{x:A}:cw λX k=>GC (X:=X) P σ q s i j t x k:=λX Y k g=>by
 unfold GC
 repeat' first|rfl|exact X6 _ _ _ _|refine c9 ?_ ?_|split
def DM{X:Type}(P:Program)(σ:S)(t:TypeId)(x lo hi C:A)(k:aj X):aj X:=
 match x,lo,hi,C with
 | .lf (.own q),.lf (.v (.int _ a)),.lf (.v (.int _ b)),.lf (.v (.int _ c))=>(match pZ P t with
  | some e=>(match jl P e with
   | some _=>iY σ.m q λy=>(match y with
    |.sl _ _ _ l=>if 0<=a/\a<=b/\b<=c/\c<=(l.length:Int)then k else none
    |_=>none)
   |none=>none)
  |none=>none)
 |_,_,_,_=>none
def aiY{t:TypeId}{x lo hi U:A}{k:aj X}(h:DM P σ t x lo hi U k=some r):k=some r /\
  ∀af ρ a w,Rl w0 N af ρ σ a w -> ∀u I hv O,RA w w0.heap.size af ρ x u -> RA w w0.heap.size af ρ lo I -> RA w w0.heap.size af ρ hi hv -> RA w w0.heap.size af ρ U O -> ∃v,(Instr.sliceAt t u (some I) (some hv) (some O)).run P w = .ok v w:=by
 unfold DM at h;split at h
 ·rename_i q kl a kh b km c;split at h
  ·rename_i e T;split at h
   ·rename_i n hn;obtain⟨y0,Qc,C⟩:=sx q _ h;split at C
    ·rename_i tc g qn xs;split at C
     ·rename_i hb
      refine⟨C,λaf ρ ac w hR u I hv O Y hl hh hm=>?_⟩
      rw[hl.2.gK,hh.2.gK,hm.2.gK];have Z:P.underlying t=some (.slice e):=by
       unfold pZ at T;split at T
       ·grind
       ·cases T
      have iF:P.elem t=e:=by simp[Program.elem,Z]
      have Yk:P.underlying t=some (.slice (P.elem t)):=by rw[iF];exact Z
      have hss:(sizeOf (P.elem t)).run P w = .ok n w:=by
       unfold jl at hn;cases hi:P.info? e with
       |none=>grind
       | some i=>
        have:i.size=n:=by simpa [hi]using hn
        simp[sizeOf,typeInfo,iF,hi,this]
      obtain⟨v0,vm,iG⟩:=Qc.ok hR.root;have fq:∃ D n c,u = .slice D n c:=by
       have:=Y.1;cases u<;>first|cases this;done|exact⟨_,_,_,rfl⟩
      obtain⟨D,n',c',rfl⟩:=fq;have E:=Y.2;rw[vm]at E;injection E with E;subst E;have hf:RV w 0 (λ_=>none) [] (.sl tc 0 qn xs) (.slice D n' c'):=iG.gn;obtain⟨_,Dt,Qb⟩:=RV.part (w:=w) hf (a:=0) (h:=xs.length) (by omega) (by omega) (by omega);refine⟨sliced D a.toNat b.toNat c.toNat n,?_⟩;rw[run_sliceAt_slice w t _ _ _ _ Yk,run_slice_lhm w t D n' c' Yk kl kh km a b c hb.1 hb.2.1 hb.2.2.1 (by omega),hss];rfl
     ·cases C
    ·cases C
   ·cases h
  ·cases h
 ·cases h
end
section
variable {P:Program} (w:World)
end
section
variable {P:Program} {w w':World} {w0:Wd} {B N:Nat} {af aA:bk} {ρ ρ':Nat->Loc} {σ:S} {a:Act} {X:Type} {d:Nat} {r:X}
end
def mq(l:aa (Int×Bool))(k:Int):Bool:=match l with
 |[]=>false
 |p::ps=>bif k==p.1 then p.2 else mq ps k
def nv(l:aa (Int×Bool))(k:Int)(v:Bool):aa (Int×Bool):=match l with
 |[]=>[(k,v)]
 |p::ps=>bif k==p.1 then (k,v)::ps else p::nv ps k v
def DN(P:Program)(t:TypeId):Bool:=match P.underlying t with
 | some (.map k e)=>(match P.underlying k with
  |some (.int .i64)=>true
  |_=>false)&&(match zeroOf P e with
  |some (.bool false)=>true
  |_=>false)
 |_=>false
def Rs{X:Type}(N:Nat)(σ:S)(d:Nat)(k:S->aj X):aj X:=gY N σ d (.mp []) (.pk d qS) k
def BA{X:Type}(P:Program)(σ:S)(t:TypeId)(x i:A)(k:A->aj X):aj X:=
 match x,i with
 | .pk r n,.lf (.v (.int .i64 key))=>bif Nat.beq n qS&&DN P t then (match σ.m r with
  |some (.mp l)=>k (.lf (.v (.bool (mq l key))))
  |_=>none)else none
 |_,_=>none
def BB{X:Type}(P:Program)(σ:S)(t:TypeId)(x i v:A)(k:S->aj X):aj X:=
 match x,i,v with
 | .pk r n,.lf (.v (.int .i64 key)),.lf (.v (.bool b))=>bif Nat.beq n qS&&DN P t then (match σ.m r with
  |some (.mp l)=>k ⟨σ.t,bG σ.m r (some (.mp (nv l key b)))⟩
  |_=>none)else none
 |_,_,_=>none
section
variable {P:Program} {w w':World} {w0:Wd} {B N:Nat} {af aA:bk} {ρ ρ':Nat->Loc} {σ:S} {a:Act} {X:Type} {d:Nat} {r:X} {o:Oper}
def Yl{t:TypeId}(h:DN P t=true):∃ k e i,P.underlying t=some (.map k e)/\P.underlying k=some (.int .i64)/\P.info? e=some i/\i.zero=some (.bool false):=by
 unfold DN at h;split at h
 ·rename_i k e D;rw[aJ]at h;obtain⟨E,I⟩:=h;have O:P.underlying k=some (.int .i64):=by
   grind
  have C:zeroOf P e=some (.bool false):=by
   grind
  unfold zeroOf at C;cases hi:P.info? e with
  |none=>simp_all
  |some i =>grind
 ·cases h
def Rl.newObj{D:Obj}{x:aS}{ρ':Nat -> Loc}(h:Rl w0 N af ρ σ a w)(hF:w0.F d=none)(E:∀ r,r≠d -> ρ' r=ρ r)
  (I:dW (w.alloc D) w0.heap.size (bG af w.heap.size (some [d])) ρ' d x):Rl w0 N (bG af w.heap.size (some [d])) ρ' ((σ.drop d).root d x) a (w.alloc D):=by
 refine h.yW hF (iX.W2 w0 w _ h.below.size) ⟨by simp,λb hb _=>Below.heap_alloc w _ b hb,λb hb=>cr _ _ _ (by omega),λb hb=>(h.cV b [] hb).2.2 rfl⟩ (λb k hb C=>?_) E I
 by_cases e:b=w.heap.size
 ·subst e;rw[bK]at C;injection C with C;subst C;simp_all
 ·rw[cr _ _ _ e]at C;have:=(h.cV b k C).2.1;omega
def aiZ{t:TypeId}{k:S -> aj X}(h:Rs N σ d k=some r):∃ C,k C=some r /\ ∀ af ρ a w,Rl w0 N af ρ σ a w -> ∃ w' aA ρ' v,(Instr.makeMap t none).run P w = .ok v w'/\Rl w0 N aA ρ' C (a.put (some d) v) w':=by
 obtain⟨hd,h⟩:=oM h
 refine⟨_,h,λaf ρ a w D=>?_⟩
 have E:(Instr.makeMap t none).run P w = .ok _ _:=rfl
 refine⟨_,bG af _ _,bG ρ d _,_,E,(D.newObj (D.cL d (.inl hd)) (λr I=>cr _ _ _ I) ?_).set ⟨w.heap.size,bK _ _ _,(Py _).symm⟩ hd⟩
 exact .mp _ 0 #[] [] (bK _ _ _) (bK _ _ _) (heap_alloc_new w _) rfl
def ai0:cw λX k=>Rs (X:=X) N σ d k:=K0
def ai1{t:TypeId}{x i:A}:cw λX k=>BA (X:=X) P σ t x i k:=λX Y k g=>by
 unfold BA
 repeat' first|rfl|refine c9 ?_ ?_|split
def ai2{t:TypeId}{x i v:A}:cw λX k=>BB (X:=X) P σ t x i v k:=λX Y k g=>by
 unfold BB
 repeat' first|rfl|refine c9 ?_ ?_|split
def BE(l:aa (Int×Bool)):aa (Value×Value):=l.map λp=>(.int .i64 p.1,.bool p.2)
def Rt:∀ (C:aa MapEntry) (l:aa (Int×Bool)) (k:Int) (n:Nat),C.map (λe=>(e.key,e.val))=BE l ->
  (Instr.findNow (.int .i64) (.int .i64 k) C n=some none/\mq l k=false /\ ∀v,nv l k v=l++[(k,v)]) \/
  (∃i b,Instr.findNow (.int .i64) (.int .i64 k) C n=some (some (n+i,.bool b))/\mq l k=b /\ ∃h:i<C.length,C[i].key = .int .i64 k /\ ∀v,BE (nv l k v)=(C.modify i λe=>{ e with key:=.int .i64 k,val:=.bool v }).map (λe=>(e.key,e.val)))
 |[],[],k,n,_=>.inl ⟨rfl,rfl,λv=>rfl⟩
 |[],_::_,k,n,h=>by cases h
 |_::_,[],k,n,h=>by cases h
 | e :: C,p :: l,k,n,h=>by
  have h:(e.key,e.val) :: C.map (λe=>(e.key,e.val))=(.int .i64 p.1,.bool p.2) :: BE l:=h;injection h with Y O;injection Y with T hv;have D:Instr.sameNow (.int .i64) (.int .i64 k) e.key=some (k==p.1):=by
   rw[T];simp[Instr.sameNow]
  cases hb:(k==p.1)with
  | true=>
   have Z:k=p.1:=by simpa using hb
   refine .inr ⟨0,p.2,?_,by simp only[mq,hb,au],by simp,by simp[T,Z],λv=>?_⟩
   ·simp only[Instr.findNow,D,hb,hv];rfl
   ·simp only[nv,hb];simp;show _::BE l=_;rw[O]
  | false=>
   rcases Rt C l k (n+1) O with ⟨U,E,I⟩|⟨i,b,U,E,hi,I,a4⟩
   ·refine .inl ⟨?_,by simp[mq,hb,ax,E],λv=>by simp only[nv,hb,I];rfl⟩
    simp[Instr.findNow,D,hb];exact U
   ·refine .inr ⟨i+1,b,?_,by simp only[mq,hb,ax,E],by simpa using hi,by simpa using I,λv=>?_⟩
    ·simp[Instr.findNow,D,hb]
     grind
    ·simp only[nv,hb];simp;show _ :: BE _=_
     grind
def Lc{kt:TypeId}{k:Int}{C:aa MapEntry}{z:aj (Nat×Value)}(D:P.underlying kt=some (.int .i64))(h:Instr.findNow (.int .i64) (.int .i64 k) C 0=some z):(Instr.findKey kt (.int .i64 k) C).run P w = .ok z w:=by
 unfold Instr.findKey;simp only[gd,gN D,l8,h];rfl
def ai3{t:TypeId}{x i:A}{k:A -> aj X}(h:BA P σ t x i k=some r):∃ v,k v=some r/\mg (λX k=>BA (X:=X) P σ t x i k) v /\ ∀ af ρ a w,Rl w0 N af ρ σ a w -> ∀ u z,RA w w0.heap.size af ρ x u -> RA w w0.heap.size af ρ i z ->
  ∃y,(Instr.lookup t u z false).run P w = .ok y w/\RA w w0.heap.size af ρ v y:=by
 unfold BA at h;split at h
 ·rename_i rr n key;cases hb:(Nat.beq n qS&&DN P t)with
  |false=>grind
  | true=>
   rw[hb,au]at h;split at h
   ·rename_i l O
    refine⟨_,h,λX k=>by simp only[BA,hb,au,O],λaf ρ a w Z u z hu D=>?_⟩
    rw[aJ]at hb;obtain⟨kt,et,ti,ht,E,hi,Ym⟩:=Yl hb.2;have hn:=cN hb.1;subst hn;obtain⟨b,cm,rfl⟩:=hu;have D:z = .int .i64 key:=by
     have h2:=D.2;cases h2;rfl
    subst D;have T:=Z.root rr _ O;generalize C:aS.mp l=y at T;cases T with
    |aB=>cases C
    |sl=>cases C
    |gh=>cases C
    | mp b' c es l' U hl hh Ld=>
     injection C with C;subst C;rw[cm]at U;injection U with e1 _;subst e1;refine⟨.bool (mq l key),?_,rfl,.bool _ _⟩;rw[Py];unfold Instr.lookup;simp only[gd,gN ht,l8,MapKept.run_getObj_map hh,Sem.run_pure];rw[MapKept.run_checkKey (k:=.int .i64 key) E rfl];simp only[l8];rcases Rt es.toList l key 0 Ld with ⟨I,Y,_⟩|⟨i,v,I,Y,_⟩
     ·rw[Lc E I];have Dg:(zeroValue et).run P w = .ok (.bool false) w:=by simp[zeroValue,typeInfo,hi,Ym]
      simp_all
     ·rw[Lc E I];simp only[ Y,gd];rfl
   ·cases h
 ·cases h
def ai4{t:TypeId}{x i v:A}{k:S -> aj X}(h:BB P σ t x i v k=some r):∃ O,k O=some r/\mg (λX k=>BB (X:=X) P σ t x i v k) O /\ ∀ af ρ a w,Rl w0 N af ρ σ a w -> ∀ u z y,RA w w0.heap.size af ρ x u -> RA w w0.heap.size af ρ i z -> RA w w0.heap.size af ρ v y ->
  ∃w',(Instr.mapUpdate t u z y).run P w = .ok () w'/\Rl w0 N af ρ O a w':=by
 unfold BB at h;split at h
 ·rename_i rr n key T;cases hb:(Nat.beq n qS&&DN P t)with
  |false=>grind
  | true=>
   rw[hb,au]at h;split at h
   ·rename_i l hm
    refine⟨_,h,λX k=>by simp only[BB,hb,au,hm],λaf ρ a w U u z y hu Y C=>?_⟩
    rw[aJ]at hb;obtain⟨kt,et,ti,ht,Z,hi,Ym⟩:=Yl hb.2;have hn:=cN hb.1;subst hn;obtain⟨b,cm,rfl⟩:=hu;have Y:z = .int .i64 key:=by
     have h2:=Y.2;cases h2;rfl
    subst Y;have C:y = .bool T:=by
     have h2:=C.2;cases h2;rfl
    subst C;have fl:=U.root rr _ hm;generalize D:aS.mp l=y at fl;cases fl with
    |aB=>cases D
    |sl=>cases D
    |gh=>cases D
    | mp b' c es l' kI hl hh Ld=>
     injection D with D;subst D;rw[cm]at kI;injection kI with e1 _;subst e1;have Re:b<w.heap.size:=(iz.1 hh).1;have Bu:∀ (E:Array MapEntry) (I:Nat),E.toList.map (λe=>(e.key,e.val))=BE (nv l key T) -> Rl w0 N af ρ ⟨σ.t,bG σ.m rr (some (.mp (nv l key T)))⟩ a { w with heap:=w.heap.setIfInBounds b (.map E I) }:=by
      intro E I ai5;have hW:vh w { w with heap:=w.heap.setIfInBounds b (.map E I) } b:=by
       refine⟨by simp,rfl,rfl,rfl,λk hk=>?_⟩
       show _[k]?=_;rw[Array.getElem?_setIfInBounds_ne (Ne.symm hk)]
      have hC:qU w { w with heap:=w.heap.setIfInBounds b (.map E I) } af ρ:=by
       intro k ad v ha hv fq;obtain⟨j',i',s',q,rfl,hq,_,_,hh'⟩:=A6 k ad ha;have bY:ad.block≠b:=by
        grind
       exact(World.cell?_of_block (hW.block _ bY)).trans hv
      refine U.wrote hW hl hC λr' y C=>?_
      by_cases ng:r'=rr
      ·subst ng;rw[bK]at C;injection C with C;subst C;refine .mp b I E _ cm hl ?_ ai5;simp_all
      ·rw[cr _ _ _ ng]at C;exact(U.root r' y C).wrote hW hl hC (WJ ng)
     rw[Py];unfold Instr.mapUpdate;simp only[gd,gN ht,l8,MapKept.run_getObj_map hh,Sem.run_pure];rw[MapKept.run_checkKey (k:=.int .i64 key) Z rfl];simp only[l8];rcases Rt es.toList l key 0 Ld with ⟨a1,a2,a3⟩|⟨i,v,a1,a2,Gr,a3,a4⟩
     ·rw[Lc Z a1];simp;rw[MapKept.run_setObj_map _ hh];refine⟨_,rfl,Bu _ _ ?_⟩;rw[a3];simp only[Array.toList_push,List.map_append,Ld,BE];rfl
     ·rw[Lc Z a1];simp only[l8,eW];have Q5:(es[i]?.map (·.key)).getD (.int .i64 key) = .int .i64 key:=by
       grind
      rw[Q5];have jm:(Instr.keyThatStays (.int .i64 key) (.int .i64 key)).run P w = .ok (.int .i64 key) w:=by
       unfold Instr.keyThatStays;simp[Instr.sameBits]
      simp only[gd];rw[jm];simp only[l8];rw[MapKept.run_setObj_map _ hh];refine⟨_,rfl,Bu _ _ ?_⟩;rw[a4];simp
   ·cases h
 ·cases h
end
def Le(t:TypeId)(d:Nat)(x:Operand):Bool:=[(59,26,22)].any λ(p:Nat×Nat×Nat)=>Nat.beq p.1 t&&Nat.beq p.2.1 d&&(match x with
 |.tmp n=>Nat.beq n p.2.2 ||Nat.beq p.2.2 1000000
 |_=>false)
def BF(C:aj Tmp)(t:TypeId)(x:Operand):Bool:=match C with
 |some d=>Le t d x
 |none=>false
def GD{X:Type}(P:Program)(N:Nat)(σ:S)(d:Nat)(t:TypeId)(x y:A)(k:S->aj X):aj X:=
 match vl P t with
 | some (e,tc)=>bif Nat.beq (full tc) 0&&(zeroOf P e).any (λz=>Nat.beq z.cells.size (aD tc))then sy σ y λC=>(match C.Kp tc with
  |none=>none
  | some l2=>match x with
   | .lf (.own [r])=>(match σ.m r with
    |some (.sl (.sl D (o+2) true l))=>if h:D=tc then (bif !jH l2&&bV (l.length+l2.length)then gY N σ d (.sl (.sl tc (o+2) false ((h ▸ l)++l2))) (.lf (.own [d])) k else none)else none
    |_=>none)
   |_=>none)else none
 |none=>none
section
variable {P:Program} {w w':World} {w0:Wd} {B N:Nat} {af aA:bk} {ρ ρ':Nat->Loc} {σ:S} {a:Act} {X:Type} {d:Nat} {r:X}
def Rl.ai6{t e ty:TypeId}{tc:TC}{i:TypeInfo}{z:Value}{rr o g:Nat}{qn:Bool}{l l2:aa (T tc)}{u v:Value}{q':aa Nat}{Bx:Nat}{P0:bk}(h:Rl w0 N af ρ σ a w)(hF:w0.F d=none)(gE:P.underlying t=some (.slice e))(ht:tid tc=e)(hi:P.info? e=some i)(hz:i.zero=some z)
  (Y:i.size=aD tc) (jW:i.bytes <= 65536) (mT:z.cells.size=aD tc) (hf:full tc=0) (hd:RV w w0.heap.size af [rr] (.sl tc (o+2) true l) u) (hs:RV w Bx P0 q' (.sl tc g qn l2) v) (bY:l2≠[]) (hlen:l.length+l2.length<1073741824):
  ∃D w' aA,(Builtin.append_ #[t,t] ty #[u,v]).run P w = .ok D w'/\Rl w0 N aA (bG ρ d (.dG D)) ((σ.drop d).root d (.sl (.sl tc (o+2) false (l++l2)))) a w'/\mc D=true:=by
 subst ht;obtain⟨xs,E,auX,FM,iF⟩:=hd.W5 hf (B':=0) (λb _=>iL b);obtain⟨A,c,news,rfl,Z,oP,FN⟩:=hs.reads hf;have gV:(l.length+l2.length)*i.bytes <= 140737488355328:=by
  have h1:(l.length+l2.length)*i.bytes <= 1073741824*65536:=Nat.mul_le_mul (by omega) jW;omega
 have tV:0<l2.length:=List.length_pos_iff.2 bY;obtain⟨D,w',eU,Yn,Yo,gZ⟩:=Pc (P:=P) w 0 t ty (tid tc) i z (aD tc) i.bytes gE hi hz Y rfl mT (oE tc) u l.length xs E _ A l2.length c news Z oP (by unfold maxLen;omega) gV (iL _);have FO:(l++l2).length=l.length+l2.length:=nM;have hex:∃ b,u = .slice (some ⟨b,0,none⟩) l.length l.length:=by
  cases hd with
  |aG _ _ _ _ _ _ _ _ _ ho=>omega
  |fP _ _ _ _ _ ho=>omega
  |own _ _ _ _ _ b cap cs us hl hh hs hn hm hc hr=>exact⟨b,by rw[hm.2 rfl]⟩
 obtain⟨b,rfl⟩:=hex;obtain⟨I,O,rfl,_,lN⟩:=Z.2 tV;have ai7:∀ j x,news[j]?=some x -> w.cell? ((⟨I,O,none⟩:Addr).add j)=some x:=by
  intro j x hx;have J4:(⟨I,O,none⟩:Addr).add j=⟨I,O+j,none⟩:=by unfold Addr.add;split<;>simp_all
  grind
 have Yp:=run_append_grow (P:=P) w t ty (tid tc) i z gE hi hz ⟨b,0,none⟩ l.length l.length xs (by rw[Y];exact E.1) (E.cells (g:=b) rfl) ⟨I,O,none⟩ l2.length c news (by rw[Y];exact Z.1) ai7 (by omega) (by omega) (growslice_fits (by omega) gV);rw[eU]at Yp;injection Yp with e1 e2;have hold:∀ k,k<w.heap.size -> w'.heap[k]?=w.heap[k]?:=by
  intro k C;rw[e2];exact heap_alloc_old _ _ C
 have hvb:D.ownBlock=some w.heap.size:=by rw[e1];rfl
 have dI:w.heap.size<w'.heap.size:=by rw[e2];simp
 rw[<- FO]at Yn;have Bi:=iF.append FN E.1;have fq:mc D=true:=by rw[e1];rfl
 have U:Below 0 w w':=(Below.refl 0 w).grown Yo (iL _) (λ_ _=>iL _);have sE:iX w0 w w':=⟨U.os,U.tape,U.output,U.size,λk C hL=>hold k (Nat.lt_of_lt_of_le C h.below.size)⟩
 refine⟨D,w',bG af w.heap.size (some [d]),eU,h.yW hF sE ⟨Yo.size,λb hb _=>hold b hb,λb hb=>cr _ _ _ (by omega),λb hb=>(h.cV b [] hb).2.2 rfl⟩ (λb k hb C=>?_) (λr hr=>cr _ _ _ hr) (.sl D _ (bK _ _ _) (PZ Yn Bi (λb hb=>?_))),fq⟩
 ·by_cases e:b=w.heap.size
  ·subst e;rw[bK]at C;injection C with C
   grind
  ·rw[cr _ _ _ e]at C;have:=(h.cV b k C).2.1;omega
 ·rw[hvb]at hb;injection hb with hb;subst hb;exact bK _ _ _
def ai8{t ty:TypeId}{x y:A}{k:S -> aj X}(h:GD P N σ d t x y k=some r):∃ Y,k Y=some r /\ ∀ af ρ a w,Rl w0 N af ρ σ a w -> ∀ u v,RA w w0.heap.size af ρ x u -> RA w w0.heap.size af ρ y v ->
  ∃w' aA ρ' z,(Builtin.append_ #[t,t] ty #[u,v]).run P w = .ok z w'/\Rl w0 N aA ρ' Y (a.put (some d) z) w':=by
 unfold GD at h;split at h
 ·rename_i e tc oN;obtain⟨gE,ht,i,hi,iy,jW⟩:=yY oN;cases E:(Nat.beq (full tc) 0&&(zeroOf P e).any (λz=>Nat.beq z.cells.size (aD tc)))with
  |false=>grind
  | true=>
   rw[E,au]at h;rw[aJ]at E;have hf:=cN E.1;obtain⟨z,Z,T⟩:=(Option.any_eq_true _ _).1 E.2;have T:=cN T;have oO:i.zero=some z:=by unfold zeroOf at Z;simpa [hi]using Z
   obtain⟨yv,Ks,C⟩:=W7 (w0:=w0) (N:=N) h;clear h;split at C
   ·cases C
   ·rename_i l2 m9;split at C
    ·rename_i rr;split at C
     ·rename_i t' o l hm;split at C
      ·rename_i nc;subst nc;cases I:(!jH l2&&bV (l.length+l2.length))with
       |false=>grind
       | true=>
        rw[I,au]at C;rw[aJ]at I;have bY:l2≠[]:=by rintro rfl;cases I.1
        have FP:l.length+l2.length<1073741824:=by simpa [bV]using I.2
        obtain⟨hd,h3⟩:=oM C
        refine⟨_,h3,λaf ρ a w O u v hu hv=>?_⟩
        obtain⟨q',_,_,U⟩:=Ks af ρ a w O v hv;obtain⟨g,qn,U⟩:=P2 m9 U;have fl:=O.root rr _ hm;generalize D:aS.sl (.sl t' (o+2) true l)=x at fl;cases fl with
        |aB=>cases D
        |mp=>cases D
        |gh=>cases D
        | sl uu y cm hr=>
         injection D with D;subst D;have FK:uu=u:=by
          have h4:=hu.2;simp only[cQ,cm]at h4;simp_all
         subst FK;obtain⟨v',w',aA,eU,dU,fq⟩:=O.ai6 (ty:=ty) (d:=d) (O.cL d (.inl hd)) gE ht hi oO iy jW T hf hr U bY FP;exact⟨w',aA,_,v',eU,dU.set ⟨fq,by simp[cQ,bK]⟩ hd⟩
      ·cases C
     ·cases C
    ·cases C
 ·cases h
def ai9{t:TypeId}{x y:A}:cw λX k=>GD (X:=X) P N σ d t x y k:=λX Y k g=>by
 unfold GD;split
 ·refine c9 ((Q6 _ _ _ _).trans (bz _ (funext λC=>?_))) rfl
  repeat' first|rfl|exact K0 _ _ _ _|refine c9 ?_ ?_|split
 ·rfl
def GF{X:Type}(P:Program)(N:Nat)(σ:S)(d:Nat)(t:TypeId)(x y:A)(k:S->aj X):aj X:=
 match x with
 |.view q s i j=>FQ P N σ d t (.view q s i j) y k
 |x=>GD P N σ d t x y k
def aja{t ty:TypeId}{x y:A}{k:S->aj X}(h:GF P N σ d t x y k=some r):∃ C,k C=some r/\∀ af ρ a w,Rl w0 N af ρ σ a w->∀ u v,RA w w0.heap.size af ρ x u->RA w w0.heap.size af ρ y v->
  ∃w' aA ρ' z,(Builtin.append_ #[t,t] ty #[u,v]).run P w = .ok z w'/\Rl w0 N aA ρ' C (a.put (some d) z) w':=by
 unfold GF at h;split at h
 ·exact ag8 h
 ·exact ai8 h
def ajb{t:TypeId}{x y:A}:cw λX k=>GF (X:=X) P N σ d t x y k:=λX Y k g=>by
 unfold GF;split
 ·exact ag9 _ _ _ _
 ·exact ai9 _ _ _ _
end
abbrev ef:=Nat->aj qg
def fK(P:Program)(Φ:ef):Prop:=∀f c,Φ f=some c->enters P f/\Rj P f c
def gF{X:Type}(o:Oper)(k:Nat->aj X):aj X:=
 match o.dst with
 |some d=>k d
 |none=>none
def fL:Op->Bool
 |.move _|.assign _|.pick .. |.build .. |.load .. |.binOp .. |.unOp .. |.convert .. |.fieldAddr .. |.field .. |.indexAddr .. |.index .. |.extract .. |.nilCheck _=>true
 |.call ⟨.builtin .len,_,_⟩|.call ⟨.builtin .max,_,_⟩|.call ⟨.builtin .min,_,_⟩=>true
 |.slice _ _ _ _ none=>true
 |_=>false
def mw{X:Type}(P:Program)(σ:S)(C:Op)(k:A->aj X):aj X:=
 match C with
 |.move x=>k (aK σ x)
 |.assign x=>k (aK σ x)
 | .pick c x y=>(match aK σ c with
  |.lf (.v (.bool b))=>bif b then k (aK σ x)else k (aK σ y)
  |_=>none)
 |.build t parts=>Dk P σ t parts.toList k
 |.load t x=>nQ P σ t (aK σ x) k
 |.binOp C t x y _=>zf P σ C t (aK σ x) (aK σ y) k
 |.unOp C _ x=>vK (aK σ x) λa=>FE C a λz=>k (.lf (.v z))
 |.convert s d x=>zc P σ s d (aK σ x) k
 |.fieldAddr s x f=>Dd P s (aK σ x) f k
 |.field s x f=>F0 P s (aK σ x) f k
 |.indexAddr t x i=>yU P σ t (aK σ x) (aK σ i) k
 |.index t x i=>F1 P t (aK σ x) (aK σ i) k
 |.extract x i=>Bd (aK σ x) i k
 |.nilCheck x=>K3 (aK σ x) k
 |.call ⟨.builtin .len,⟨[x]⟩,⟨[t]⟩⟩=>Bc P σ t (aK σ x) k
 |.call ⟨.builtin .max,⟨[x,y]⟩,⟨[_,_]⟩⟩=>Dl true (aK σ x) (aK σ y) k
 |.call ⟨.builtin .min,⟨[x,y]⟩,⟨[_,_]⟩⟩=>Dl false (aK σ x) (aK σ y) k
 |.slice t x lo hi none=>zh P σ t (aK σ x) (lo.map (aK σ)) (hi.map (aK σ)) k
 |_=>none
def ir{X:Type}(P:Program)(N:Nat)(Φ:ef)(σ:S)(o:Oper)(k:S->aj X):aj X:=
 match o.op with
 |.alloc e=>gF o λd=>qY P N σ d e k
 |.box e x=>gF o λd=>zx N σ d (aK σ x) k
 |.buildSlice t len parts=>gF o λd=>bif qe t then xJ P N σ d t len parts.toList k else zb P N σ d t len parts.toList k
 | .store t x y=>(match o.dst with
  |none=>bif xK (aK σ x) (aK σ y)then um P σ t (aK σ x) (aK σ y) k else p6 P σ t (aK σ x) (aK σ y) k
  |some _=>none)
 |.makeSlice t l c=>gF o λd=>yX P N σ d t (aK σ l) (aK σ c) k
 | .call ⟨.value (.func f),args,_⟩=>(match Φ f with
  |some (.p c)=>gF o λd=>ahw N σ d c args.toList k
  |some (.m c)=>nZ N σ o.dst c args.toList k
  |some (.v c)=>gF o λd=>Gw N σ d c args.toList k
  | some (.n F)=>gF o λd=>(match args.toList with
   |[x]=>Gv N σ d F (aK σ x) k
   |_=>none)
  |some (.i c)=>Gy N σ o.dst c (args.toList.map (aK σ)++[]) k
  |some (.d c)=>Gq N σ o.dst c args.toList k
  |some (.q c)=>gF o λd=>ahv N σ d c args.toList k
  |some (.c c)=>GB N σ o.dst c args.toList k
  |none=>none)
 |.call ⟨.builtin .append,⟨[x,y]⟩,⟨[t,C]⟩⟩=>bif Nat.beq t C then gF o λd=>bif qe t then Gt P N σ d t (aK σ x) (aK σ y) k else bif Le t d x then GF P N σ d t (aK σ x) (aK σ y) k else tU P N σ d t (aK σ x) (aK σ y) k else none
 |.makeMap _ none=>gF o λd=>Rs N σ d k
 |.lookup t x i false=>BA P σ t (aK σ x) (aK σ i) λv=>gW N σ o.dst v k
 | .mapUpdate t x i v=>(match o.dst with
  |none=>BB P σ t (aK σ x) (aK σ i) (aK σ v) k
  |some _=>none)
 | .call ⟨.value (.tmp t),args,_⟩=>(match K9 (aK σ (.tmp t))with
  | some (f,ex)=>(match Φ f with
   |some (.i c)=>Gy N σ o.dst c (args.toList.map (aK σ)++ex) k
   |_=>none)
  |none=>none)
 | .makeFunc (.func f) ⟨[]⟩ D=>(match Gz σ D.toList with
  |some ps=>gW N σ o.dst (.fn f ps) k
  |none=>none)
 |.call ⟨.builtin .clear,⟨[x]⟩,⟨[t]⟩⟩=>FT P σ t (aK σ x) λE=>gW N E o.dst .undef k
 |_=>none
def dA{X:Type}(P:Program)(N:Nat)(Φ:ef)(σ:S)(o:Oper)(k:S->aj X):aj X:=
 bif fL o.op then mw P σ o.op λv=>gW N σ o.dst v k else ir P N Φ σ o k
def GG{X:Type}(P:Program)(N:Nat)(Φ:ef)(σ:S)(o:Oper)(k:S->aj X):aj X:=
 match o.op,o.dst with
 | .store t x y,none=>(match aK σ y with
  |.view [q] s i j=>GC P σ q s i j t (aK σ x) k
  |_=>dA P N Φ σ o k)
 |.slice t x (some lo) (some hi) (some C),some d=>DM P σ t (aK σ x) (aK σ lo) (aK σ hi) (aK σ C) (bif Nat.blt d N then k (σ.set d .undef)else none)
 |_,_=>dA P N Φ σ o k
def fR(σ:S)(ops:Array Oper)(o:Oper):aj Bool:=
 match o.guard with
 |none=>some true
 | some (j,want)=>match (ops[j]?).bind (·.dst)with
  | some t=>(match σ.t t with
   |.lf (.v (.bool b))=>some (b==want)
   |.skip=>some false
   |_=>none)
  |none=>none
def GH(ops:Array Oper)(j:Nat):Bool:=ops.toList.any λo=>match o.guard with
 |some (i,_)=>Nat.beq i j
 |none=>false
def sP{X:Type}(σ:S)(C:aj Tmp)(g:Bool)(k:S->aj X):aj X:=
 bif g then (match C with
  | some d=>(match σ.t d with
   |.lf (.v (.bool b))=>bif b then k (σ.set d (.lf (.v (.bool true))))else k (σ.set d (.lf (.v (.bool false))))
   |_=>k σ)
  |none=>k σ)else k σ
def BG{X:Type}(P:Program)(N:Nat)(Φ:ef)(ops:Array Oper):Nat->aa Oper->S->(S->aj X)->aj X
 |_,[],σ,k=>k σ
 | j,o :: rest,σ,k=>match fR σ ops o with
  |some true=>GG P N Φ σ o λC=>sP C o.dst (GH ops j) λD=>BG P N Φ ops (j+1) rest D k
  |some false=>gW N σ o.dst .skip λC=>BG P N Φ ops (j+1) rest C k
  |none=>none
/-! Regions whose order is open: what is listed is a set of bits. -/
def dx{X:Type}(P:Program)(N:Nat)(Φ:ef)(ops:Array Oper)(σ:S)(o:Oper)(k:S->aj X):aj X:=
 match fR σ ops o with
 |some true=>dA P N Φ σ o k
 |some false=>gW N σ o.dst .skip k
 |none=>none
def lT(ops:Array Oper)(L j:Nat):Bool:=!L.testBit j&&(match ops[j]? with
 |some o=>o.after.toList.all λe=>!Region.binds .any e ||L.testBit e.on
 |none=>false)
def GI(ops:Array Oper)(i W j:Nat):Bool:=(match ops[j]? with
 |some o=>o.after.toList.any λe=>Region.binds .any e&&(Nat.beq e.on i ||W.testBit e.on)
 |none=>false)
def waits(ops:Array Oper)(i:Nat):Nat->Nat->Nat->Nat
 |0,_,W=>W
 |n+1,j,W=>waits ops i n (j+1) (bif GI ops i W j then W |||2 ^ j else W)
def eP(o:Oper)(n:Nat):Bool:=match o.dst with
 | some d=>(match o.op with
  |.alloc _|.box .. |.buildSlice .. |.makeSlice ..=>Nat.beq n d
  |.call ⟨.value (.func _),_,_⟩=>Nat.ble (1000000000100000+1000*d) n
  |.call ⟨.builtin .append,_,_⟩=>Nat.beq n d
  |_=>false)
 |none=>false
def Lg(Φ:ef)(C:Op):Bool:=fL C || (match C with
 |.alloc _|.box .. |.buildSlice .. |.makeSlice ..=>true
 | .call ⟨.value (.func f),_,_⟩=>(match Φ f with
  |some (.p _)=>true
  |some (.q _)=>true
  |_=>false)
 |_=>false)
def hU(g:Oper->Bool)(ops:Array Oper)(i L W:Nat):Nat->Nat->Bool
 |0,_=>false
 | f+1,j=>(!(Nat.beq j i || L.testBit j || W.testBit j)&&(match ops[j]? with
  |some C=>g C
  |none=>false)) ||hU g ops i L W f (j+1)
def GJ(g:Oper->Bool)(ops:Array Oper)(C:Oper)(i L W:Nat):Nat->Nat->Bool
 |0,_=>true
 | n+1,j=>(Nat.beq j i || L.testBit j || (bif W.testBit j then GI ops i W j else (match ops[j]? with
  |some D=>g D&&C.apart ops D
  |none=>true)))&&GJ g ops C i L W n (j+1)
def Lh(c:nt):Bool:=c.ps.all λp=>match p with
 |.v _ _=>true
 |.p _ g _=>Nat.beq g 0
 |.s _ _=>false
def sQ(ok:Nat->Nat->Bool)(σ:S):aa PK->aa Operand->Bool
 | .p _ _ _ :: ps,.tmp t :: xs=>(match σ.t t with
  |.aL r _=>ok t r
  |_=>false)&&sQ ok σ ps xs
 |.v _ _::ps,_::xs=>sQ ok σ ps xs
 |[],[]=>true
 |_,_=>false
def iJ(σ:S):aa PK->aa Operand->aa Nat
 | .p _ _ _ :: ps,x :: xs=>(match aK σ x with
  |.aL r _=>r::iJ σ ps xs
  |_=>iJ σ ps xs)
 |_::ps,_::xs=>iJ σ ps xs
 |_,_=>[]
def oU(Φ:ef)(σ:S)(o:Oper):aa Nat:=match o.op with
 | .call ⟨.value (.func f),args,_⟩=>(match Φ f with
  |some (.m c)=>iJ σ c.ps args.toList
  |_=>[])
 |_=>[]
def ko(t:Nat)(o:Oper):Bool:=match o.dst with
 |some d=>Nat.beq d t
 |none=>false
def vH(o:Oper):Bool:=(match o.op with
 |.alloc _=>true
 |_=>false)&&o.guard.isNone&&(match o.dst with
 |some d=>Nat.blt d 20000
 |none=>false)
def n6(o:Oper):Bool:=(match o.op with
 |.alloc _=>true
 |.buildSlice t _ _=>!qe t
 |.makeSlice ..=>true
 |_=>false)&&(match o.dst with
 |some d=>Nat.blt d 20000
 |none=>false)
def isApp(o:Oper):Bool:=match o.op with
 |.call ⟨.builtin .append,⟨[x,_]⟩,⟨[t,C]⟩⟩=>!qe t&&Nat.beq t C && !BF o.dst t x
 |_=>false
def Ru(Φ:ef)(ops:Array Oper)(i L W:Nat)(σ:S)(o:Oper):Bool:=match o.op with
 | .call ⟨.value (.func f),args,_⟩=>(match Φ f with
  |some (.m c)=>Lh c&&sQ (λt r=>!hU (ko t) ops i L W ops.size 0 && !hU (λok=>eP ok r) ops i L W ops.size 0 && !hU isApp ops i L W ops.size 0) σ c.ps args.toList
  |_=>false)
 |_=>false
def A.n7(p pb:Nat->Bool):A->Bool:=A.fr (uk p pb)
def zz(σ:S)(o:Oper):aa Nat:=match o.op with
 | .store _ (.tmp t) _=>(match σ.t t with
  |.aL r _=>[r]
  |_=>[])
 | .call ⟨.builtin .append,⟨[.tmp t,_]⟩,⟨[_,_]⟩⟩=>(match σ.t t with
  |.lf (.own [r])=>[r]
  |_=>[])
 |_=>[]
def Li(σ:S)(o:Oper):aa Nat:=match o.op with
 | .call ⟨.builtin .append,⟨[.tmp t,_]⟩,⟨[_,_]⟩⟩=>(match σ.t t with
  |.lf (.own [r])=>[r]
  |_=>[])
 |_=>[]
def ajc(t:Nat)(o:Oper):Bool:=match o.op with
 |.store _ (.tmp C) _=>Nat.beq C t
 |_=>false
def faR(ops:Array Oper)(i L W:Nat)(σ:S)(o:Oper):aa Nat:=match o.op,o.dst with
 | .fieldAddr _ (.tmp x) _,some t=>bif hU (ajc t) ops i L W ops.size 0 then (match σ.t x with
  |.aL r _=>[r]
  |_=>[])else []
 |_,_=>[]
def zB(Φ:ef)(ops:Array Oper)(i L W:Nat)(σ:S)(n:Nat):Bool:=
 hU (λo=>eP o n) ops i L W ops.size 0 ||hU (λo=>cW n (oU Φ σ o) ||cW n (zz σ o)) ops i L W ops.size 0
def zC(Φ:ef)(ops:Array Oper)(i L W:Nat)(σ:S)(n:Nat):Bool:=
 zB Φ ops i L W σ n ||hU (λo=>cW n (faR ops i L W σ o)) ops i L W ops.size 0
def BH(σ:S)(ops:Array Oper)(i L W n:Nat):Bool:=hU (λo=>eP o n) ops i L W ops.size 0 ||hU (λo=>cW n (Li σ o)) ops i L W ops.size 0
def zD(Φ:ef)(o:Oper):Bool:=match o.op with
 | .call ⟨.value (.func f),_,_⟩=>(match Φ f with
  |some (.p _)=>true
  |_=>false)
 |_=>false
def mz(Φ:ef)(ops:Array Oper)(i L W t:Nat):Bool:=!hU (λok=>ko t ok && !(n6 ok ||isApp ok ||zD Φ ok)) ops i L W ops.size 0
def Rw(Φ:ef)(ops:Array Oper)(i L W:Nat)(o:Oper):Bool:=match o.op with
 |.call ⟨.builtin .append,⟨[.tmp t,_]⟩,⟨[ty,C]⟩⟩=>mz Φ ops i L W t&&(!qe ty&&Nat.beq ty C && !BF o.dst ty (.tmp t))
 |_=>false
def mA(Φ:ef)(ops:Array Oper)(i L W:Nat)(σ:S)(x:Nat):Bool:=!hU (ko x) ops i L W ops.size 0&&(match σ.t x with
 |.aL r _=>zC Φ ops i L W σ r
 |.iW _=>true
 |_=>false)
def Lj(Φ:ef)(ops:Array Oper)(i L W:Nat)(σ:S)(o:Oper):Bool:=match o.op with
 |.fieldAddr _ (.tmp x) _=>mA Φ ops i L W σ x
 |_=>false
def Lk(Φ:ef)(ops:Array Oper)(i L W:Nat)(σ:S)(t:Nat):Bool:=!hU (λok=>ko t ok && !(vH ok ||Lj Φ ops i L W σ ok)) ops i L W ops.size 0
def FA(Φ:ef)(ops:Array Oper)(i L W:Nat)(σ:S)(o:Oper):Bool:=match o.op with
 | .store _ (.tmp t) _=>o.dst.isNone&&Lk Φ ops i L W σ t&&(match σ.t t with
  |.ptr _=>false
  |_=>true)
 |_=>false
def Rx(σ:S)(p:Nat->Bool)(o:Oper):Bool:=o.op.operands.toList.all λx=>(aK σ x).nr p
def Ry(σ:S)(p pb:Nat->Bool)(o:Oper):Bool:=(o.op.operands.toList.all λx=>(aK σ x).n7 p pb)&&(match o.op with
 | .load _ x=>(match aK σ x with
  |.aL r _=>!p r
  |_=>true)
 |_=>true)
def Yq(Φ:ef)(ops:Array Oper)(L:Nat)(σ:S)(i:Nat):Bool:=match ops[i]? with
 | some C=>(fL C.op || (match fR σ ops C with
  |some b=>!b
  |none=>false))&&Nat.beq ((L |||2 ^ i) &&& waits ops i ops.size 0 0) 0&&GJ (λD=>Lg Φ D.op ||Ru Φ ops i L (waits ops i ops.size 0 0) σ D ||FA Φ ops i L (waits ops i ops.size 0 0) σ D ||Rw Φ ops i L (waits ops i ops.size 0 0) D) ops C i L (waits ops i ops.size 0 0) ops.size 0&&Ry σ (zC Φ ops i L (waits ops i ops.size 0 0) σ) (BH σ ops i L (waits ops i ops.size 0 0)) C
 |none=>false
def GK{X:Type}(P:Program)(N:Nat)(Φ:ef)(ops:Array Oper)(L i:Nat)(σ:S)(o:Oper)(k:S->aj X):aj X:=
 match fR σ ops o with
 |some true=>mw P σ o.op λv=>bif v.n7 (zC Φ ops i L (waits ops i ops.size 0 0) σ) (BH σ ops i L (waits ops i ops.size 0 0))then gW N σ o.dst v k else none
 |some false=>gW N σ o.dst .skip k
 |none=>none
/-! A call may be taken first where all that is free beside it are new blocks. -/
def A.fL:A->Bool
 |.lf (.v _)=>true
 | .agg cs=>cs.all λl=>match l with
  |.v _=>true
  |_=>false
 |_=>false
def Rz(ops:Array Oper)(i L W:Nat)(σ:S)(o:Oper):Bool:=n6 o&&(match fR σ ops o with
 |some b=>b
 | none=>false)&&(o.op.operands.toList.all λx=>(aK σ x).fL&&(match x with
  |.tmp t=>!hU (ko t) ops i L W ops.size 0
  |_=>true))&&(match o.guard with
 | some (g,_)=>(match (ops[g]?).bind (·.dst)with
  |some t=>!hU (ko t) ops i L W ops.size 0
  |none=>true)
 |none=>true)
def ny(Φ:ef)(o:Oper):Bool:=match o.op with
 | .call ⟨.value (.func f),_,_⟩=>(match Φ f with
  |some (.p _)=>true
  |some (.m _)=>true
  |_=>false)
 |_=>false
def GL(o:Oper):Bool:=(match o.op with
 |.store _ (.tmp _) _=>true
 |_=>false)&&o.dst.isNone
def xN(σ:S)(o:Oper):Bool:=match o.op with
 | .store _ (.tmp t) _=>(match σ.t t with
  |.aL _ _=>true
  |_=>false)
 |_=>true
def GM(Φ:ef)(o:Oper):Bool:=ny Φ o ||n6 o ||isApp o ||GL o
def xO(σ:S)(p:Nat->Bool)(r:Nat):Bool:=match σ.m r with
 |some (.aB cs)=>cs.all (Lf.nr p)
 |_=>true
def DO(o:Oper)(n:Nat):Bool:=ko n o
def Yr(Φ:ef)(ops:Array Oper)(L:Nat)(σ:S)(i:Nat):Bool:=match ops[i]? with
 | some C=>GM Φ C&&Nat.beq ((L ||| 2 ^ i) &&& waits ops i ops.size 0 0) 0&&GJ (Rz ops i L (waits ops i ops.size 0 0) σ) ops C i L (waits ops i ops.size 0 0) ops.size 0 &&
   Rx σ (λn=>hU (λo=>DO o n) ops i L (waits ops i ops.size 0 0) ops.size 0) C&&(oU Φ σ C).all (xO σ (λn=>hU (λo=>DO o n) ops i L (waits ops i ops.size 0 0) ops.size 0))&&xN σ C
 |none=>false
def rB(x:A)(n:Nat):aj V:=match x with
 | .eY xs=>(match xs[n]? with
  |some (false,[.v z])=>some z
  |_=>none)
 |_=>none
def RB(ops:Array Oper)(L:Nat)(σ:S)(i:Nat):Bool:=match ops[i]?,(List.range ops.size).filter (λj=>!(Nat.beq j i || L.testBit j))with
 | some C,[E]=>(match C.op,C.dst,C.guard,ops[E]? with
  | .extract (.tmp x) n,some _,none,some D=>(match D.op,D.dst,D.guard with
   |.store _ a b,none,none=>(rB (σ.t x) n).isSome&&xK (aK σ a) (aK σ b)&&C.apart ops D
   |_,_,_=>false)
  |_,_,_,_=>false)
 |_,_=>false
def rC{X:Type}(P:Program)(N:Nat)(Φ:ef)(ops:Array Oper):Nat->Nat->S->(S->aj X)->aj X
 | 0,L,σ,k=>(match (List.range ops.size).filter (lT ops L)with
  |[]=>k σ
  |_=>none)
 | f+1,L,σ,k=>(match (List.range ops.size).filter (lT ops L)with
  |[]=>k σ
  | [i]=>(match ops[i]? with
   |some o=>dx P N Φ ops σ o λC=>sP C o.dst (GH ops i) λD=>rC P N Φ ops f (L |||2 ^ i) D k
   |none=>none)
  | rs=>(match rs.find? (Yq Φ ops L σ)with
   | some i=>(match ops[i]? with
    |some o=>GK P N Φ ops L i σ o λC=>sP C o.dst (GH ops i) λD=>rC P N Φ ops f (L |||2 ^ i) D k
    |none=>none)
   | none=>(match rs.find? (Yr Φ ops L σ)with
    | some i=>(match ops[i]? with
     |some o=>dx P N Φ ops σ o λC=>sP C o.dst (GH ops i) λD=>rC P N Φ ops f (L |||2 ^ i) D k
     |none=>none)
    | none=>(match rs.find? (RB ops L σ)with
     | some i=>(match ops[i]? with
      |some o=>dx P N Φ ops σ o λC=>sP C o.dst (GH ops i) λD=>rC P N Φ ops f (L |||2 ^ i) D k
      |none=>none)
     |none=>none))))
/-! A new slice of constants may come first,beside values and calls of contents. -/
structure sR where
 run:(X:Type)->S->(Exit->S->Option X)->Option X
abbrev mB:=Nat->aj sR
def lz{X:Type}(P:Program)(N:Nat)(Φ:ef)(Λ:mB):Code->S->(Exit->S->aj X)->aj X
 |.skip,σ,k=>k .normal σ
 |.label _,σ,k=>k .normal σ
 |.ret,σ,k=>k .ret σ
 |.exit id,σ,k=>k (.exit id) σ
 |.region _ ops false,σ,k=>BG P N Φ ops 0 ops.toList σ λC=>k .normal C
 |.region _ ops true,σ,k=>bif P.follows .mixedOrders then rC P N Φ ops ops.size 0 σ λC=>k .normal C else none
 | .seq x y,σ,k=>lz P N Φ Λ x σ λe C=>match e with
  |.normal=>lz P N Φ Λ y C k
  |e=>k e C
 | .cond c x y,σ,k=>match aK σ c with
  |.lf (.v (.bool b))=>bif b then lz P N Φ Λ x σ k else lz P N Φ Λ y σ k
  |_=>none
 | .block id c,σ,k=>match Λ id with
  |some b=>b.run X σ k
  | none=>lz P N Φ Λ c σ λe C=>match e with
   |.exit D=>if D=id then k .normal C else k (.exit D) C
   |e=>k e C
 |_,_,_=>none
def AW(P:Program)(w0:Wd)(N:Nat)(c:Code)(σ:S)(K:Exit->S->Prop):Prop:=
 ∀a w,R w0 N σ a w->c.wp P (λe D w'=>∃C,K e C/\R w0 N C D w') a w
def occs:Code->aa (Nat×Code)
 |.seq x y=>occs x++occs y
 |.cond _ x y=>occs x++occs y
 |.block id c=>(id,c)::occs c
 |_=>[]
def BI(P:Program)(N:Nat)(c:Code)(b:sR):Prop:=∀(X:Type) σ k (r:X) w0,b.run X σ k=some r->AW P w0 N c σ λe C=>k e C=some r
def oV(P:Program)(N:Nat)(Λ:mB)(l:aa (Nat×Code)):Prop:=∀p∈l,∀b,Λ p.1=some b->BI P N (.block p.1 p.2) b
section
variable {P:Program} {w w':World} {w0:Wd} {B N:Nat} {af aA:bk} {ρ ρ':Nat->Loc} {σ:S} {a:Act} {X:Type} {d:Nat} {r:X} {o:Oper} {Φ:ef} {Λ:mB}
def kW.mem{D:S}(hd:o.dst=some d)(h:∀ af ρ a w,Rl w0 N af ρ σ a w->∃ w' aA ρ' v,(execOp a.eval o).run P w = .ok (.value v) w'/\Rl w0 N aA ρ' D (a.put (some d) v) w'):kW P w0 N o σ D:=by
 intro a w K Q C E;obtain⟨af,ρ,C⟩:=C;obtain⟨w',aA,ρ',v,I,O⟩:=h af ρ a w C;unfold Oper.wp;rw[I,Oper.upon_value,hd];exact E _ _ ⟨aA,ρ',O⟩
def jM{k:Nat -> aj X}(h:gF o k=some r):∃ d,o.dst=some d/\k d=some r:=by
 unfold gF at h
 grind
def ju{s:Sem Value}{v:Value}(h:s.run P w = .ok v w'):(do pure (.value (<-s)):Sem Next).run P w = .ok (.value v) w':=by
 rw[gd,h];rfl
def Ys{b:Go.Builtin}{x:Operand}{t:TypeId}{v:Value}(C:o.op = .call ⟨.builtin b,⟨[x]⟩,⟨[t]⟩⟩)(h:∀ cs,(builtin b #[t] o.type cs #[a.eval x]).run P w = .ok (.value v) w'):(execOp a.eval o).run P w = .ok (.value v) w':=by
 simp only[execOp,C,resolve,gd,Sem.run_pure,l8,invoke,List.map_toArray,List.map_cons,List.map_nil];exact h _
def RC{b:Go.Builtin}{x y:Operand}{t C:TypeId}{v:Value}(D:o.op = .call ⟨.builtin b,⟨[x,y]⟩,⟨[t,C]⟩⟩)(h:∀ cs,(builtin b #[t,C] o.type cs #[a.eval x,a.eval y]).run P w = .ok (.value v) w'):(execOp a.eval o).run P w = .ok (.value v) w':=by
 simp only[execOp,D,resolve,gd,Sem.run_pure,l8,invoke,List.map_toArray,List.map_cons,List.map_nil];exact h _
def RD{C:Op}:cw λX k=>mw (X:=X) P σ C k:=λX Y k g=>by
 unfold mw;split
 ·rfl
 ·rfl
 ·repeat' first|rfl|refine c9 ?_ ?_|split
 ·exact ain _ _ _ _
 ·exact XY _ _ _ _
 ·exact aih _ _ _ _
 ·exact(Q7.comp λa=>aii.comp (b:=λX k z=>k (.lf (.v z))) λz _ _ _ _=>rfl) X Y k g
 ·exact aiq _ _ _ _
 ·exact aij _ _ _ _
 ·exact aio _ _ _ _
 ·exact aik _ _ _ _
 ·exact aip _ _ _ _
 ·exact aim _ _ _ _
 ·unfold K3;split<;>rfl
 ·exact ail _ _ _ _
 ·exact XZ _ _ _ _
 ·exact XZ _ _ _ _
 ·exact air _ _ _ _
 ·rfl
def RE{op:Op}{k:A->aj X}(h:mw P σ op k=some r):∃ v,k v=some r/\mg (λX k=>mw (X:=X) P σ op k) v/\∀ af ρ a w (o:Oper),o.op=op->Rl w0 N af ρ σ a w->∃ u,(execOp a.eval o).run P w = .ok (.value u) w/\RA w w0.heap.size af ρ v u:=by
 obtain⟨z,T,hd⟩:=RD.lM h
 refine⟨z,T,hd,λaf ρ a w o O C=>?_⟩
 replace h:mw P σ op some=some z:=hd A some;clear hd T;unfold mw at h;split at h
 ·cases h;exact⟨_,by simp[execOp,O],C.aK _⟩
 ·cases h;exact⟨_,by simp[execOp,O],C.aK _⟩
 ·rename_i c x y;split at h
  ·rename_i b hb;have hc:=C.aK c;rw[hb]at hc;have hv:=hc.2.yS;cases b with
   |true=>cases h;exact⟨a.eval x,by simp[execOp,O,hv,asBool],C.aK x⟩
   |false=>cases h;exact⟨a.eval y,by simp[execOp,O,hv,asBool],C.aK y⟩
  ·cases h
 next t parts=>obtain⟨_,⟨⟩,D⟩:=ahe (w0:=w0) (N:=N) h;obtain⟨v,E,I⟩:=D af ρ a w C;exact⟨v,by simp only[execOp,O];exact ju E,I⟩
 next t x=>obtain⟨_,⟨⟩,D⟩:=WQ (w0:=w0) (N:=N) h;obtain⟨v,E,I⟩:=D af ρ a w C _ (C.aK x);exact⟨v,by simp only[execOp,O];exact ju E,I⟩
 next op t x y yt=>obtain⟨_,⟨⟩,D⟩:=ahp (w0:=w0) (N:=N) h;obtain⟨v,E,I⟩:=D af ρ a w C x y _ _ (C.aK x) (C.aK y);exact⟨v,by simp only[execOp,O];exact ju E,I⟩
 next op t x=>obtain⟨u,hx,h⟩:=PG h;obtain⟨_,⟨⟩,hp,D⟩:=agT (P:=P) h;have T:=C.aK x;rw[hx]at T;obtain⟨U,E,Z⟩:=D w _ af [] _ T.2;exact⟨U,by simp only[execOp,O];exact ju E,V.FF hp,Z⟩
 next s d' x=>obtain⟨_,⟨⟩,D⟩:=ahl (w0:=w0) (N:=N) h;obtain⟨v,E,I⟩:=D af ρ a w C _ (C.aK x);exact⟨v,by simp only[execOp,O];exact ju E,I⟩
 next s x f=>obtain⟨_,⟨⟩,D⟩:=agW h;obtain⟨v,E,I⟩:=D w _ af ρ _ (C.aK x);exact⟨v,by simp only[execOp,O];exact ju E,I⟩
 next s x f=>obtain⟨_,⟨⟩,D⟩:=ahm h;obtain⟨v,E,I⟩:=D w _ af ρ _ (C.aK x);exact⟨v,by simp only[execOp,O];exact ju E,I⟩
 next t x i=>obtain⟨_,⟨⟩,D⟩:=agX (w0:=w0) (N:=N) h;obtain⟨v,E,I⟩:=D af ρ a w C _ _ (C.aK x) (C.aK i);exact⟨v,by simp only[execOp,O];exact ju E,I⟩
 next t x i=>obtain⟨_,⟨⟩,D⟩:=ahk h;obtain⟨v,E,I⟩:=D w _ af ρ _ _ (C.aK x) (C.aK i);exact⟨v,by simp only[execOp,O];exact ju E,I⟩
 next x i=>obtain⟨_,⟨⟩,D⟩:=agZ (P:=P) h;obtain⟨v,E,I⟩:=D w _ af ρ _ (C.aK x);exact⟨v,by simp only[execOp,O];exact ju E,I⟩
 next x=>obtain⟨h,D⟩:=aiy (w:=w) (B:=w0.heap.size) (af:=af) (ρ:=ρ) h;cases h;obtain⟨ad,hu⟩:=D _ (C.aK x);refine⟨a.eval x,?_,C.aK x⟩;simp only[execOp,O,hu];rfl
 next x t=>obtain⟨_,⟨⟩,D⟩:=agY (w0:=w0) (N:=N) (ty:=o.type) h;obtain⟨v,E,I⟩:=D af ρ a w C _ (C.aK x);exact⟨v,Ys O λ_=>ju E,I⟩
 next x y t U=>obtain⟨_,⟨⟩,D⟩:=Xg (P:=P) h;obtain⟨v,E,I⟩:=D w _ af ρ t o.type _ _ (C.aK x) (C.aK y);exact⟨v,RC O λ_=>ju (s:=Builtin.max_ #[t,U] o.type #[a.eval x,a.eval y]) E,I⟩
 next x y t U=>obtain⟨_,⟨⟩,D⟩:=Xg (P:=P) h;obtain⟨v,E,I⟩:=D w _ af ρ t o.type _ _ (C.aK x) (C.aK y);exact⟨v,RC O λ_=>ju (s:=Builtin.min_ #[t,U] o.type #[a.eval x,a.eval y]) E,I⟩
 ·rename_i t x lo hi;obtain⟨_,⟨⟩,D⟩:=ahu (w0:=w0) (N:=N) h;have Y:∀ z:aj Operand,(∀ b,z.map (aK σ)=some b->∃ v,z.map a.eval=some v/\RA w w0.heap.size af ρ b v)/\(z.map (aK σ)=none->z.map a.eval=none):=by
   intro z;cases z with
   |none=>exact⟨λb hb=>(by cases hb),λ_=>rfl⟩
   |some z=>exact⟨λb hb=>(by cases hb;exact⟨_,rfl,C.aK z⟩),λhb=>(by cases hb)⟩
  obtain⟨v,E,Z⟩:=D af ρ a w C _ _ _ (C.aK x) (Y lo).1 (Y lo).2 (Y hi).1 (Y hi).2;exact⟨v,by simp only[execOp,O];exact ju E,Z⟩
 ·cases h
def kW.skip{D:S}(hd:o.dst=none)(h:∀ af ρ a w,Rl w0 N af ρ σ a w->∃ w' aA,(execOp a.eval o).run P w = .ok .skip w'/\Rl w0 N aA ρ D a w'):kW P w0 N o σ D:=by
 intro a w K Q C E;obtain⟨af,ρ,C⟩:=C;obtain⟨w',aA,I,O⟩:=h af ρ a w C;unfold Oper.wp;rw[I,Oper.upon_skip,hd];exact E _ _ ⟨aA,ρ,O⟩
def Ll{s:Sem ah}(h:s.run P w = .ok () w'):(do s;pure .skip:Sem Next).run P w = .ok .skip w':=by
 rw[gd,h];rfl
def ajd{k:S->aj X}(dN:fK P Φ)(h:ir P N Φ σ o k=some r):∃ O,k O=some r/\kW P w0 N o σ O:=by
 unfold ir at h;split at h
 ·rename_i e D;obtain⟨d,hd,h⟩:=jM h;obtain⟨O,h,T⟩:=ag5 (w0:=w0) h
  refine⟨O,h,.mem hd λaf ρ a w C=>?_⟩
  obtain⟨w',aA,ρ',v,E,I⟩:=T af ρ a w C;exact⟨w',aA,ρ',v,by simp only[execOp,D];exact ju E,I⟩
 ·rename_i e x D;obtain⟨d,hd,h⟩:=jM h;obtain⟨O,h,T⟩:=aiw (w0:=w0) (e:=e) h
  refine⟨O,h,.mem hd λaf ρ a w C=>?_⟩
  obtain⟨w',aA,ρ',v,E,I⟩:=T af ρ a w C _ (C.aK x);exact⟨w',aA,ρ',v,by simp only[execOp,D];exact ju E,I⟩
 ·rename_i t len parts D;obtain⟨d,hd,h⟩:=jM h;cases hn:qe t with
  | true=>
   rw[hn,au]at h;obtain⟨O,h,T⟩:=aiz (w0:=w0) h
   refine⟨O,h,.mem hd λaf ρ a w C=>?_⟩
   obtain⟨w',aA,ρ',v,E,I⟩:=T af ρ a w C;exact⟨w',aA,ρ',v,by simp only[execOp,D];exact ju E,I⟩
  | false=>
   rw[hn,ax]at h;obtain⟨O,h,T⟩:=ahi (w0:=w0) h
   refine⟨O,h,.mem hd λaf ρ a w C=>?_⟩
   obtain⟨w',aA,ρ',v,E,I⟩:=T af ρ a w C;exact⟨w',aA,ρ',v,by simp only[execOp,D];exact ju E,I⟩
 ·rename_i t x y D;split at h
  ·rename_i hd;cases hn:xK (aK σ x) (aK σ y)with
   | true=>
    rw[hn,au]at h;obtain⟨O,h,T⟩:=aiH (w0:=w0) (N:=N) h
    refine⟨O,h,.skip hd λaf ρ a w C=>?_⟩
    obtain⟨w',aA,E,I⟩:=T af ρ a w C _ _ (C.aK x) (C.aK y);exact⟨w',aA,by simp only[execOp,D];exact Ll E,I⟩
   | false=>
    rw[hn,ax]at h;obtain⟨O,h,T⟩:=WS (w0:=w0) (N:=N) h
    refine⟨O,h,.skip hd λaf ρ a w C=>?_⟩
    obtain⟨w',E,I⟩:=T af ρ a w C _ _ (C.aK x) (C.aK y);exact⟨w',af,by simp only[execOp,D];exact Ll E,I⟩
  ·cases h
 ·rename_i t l c D;obtain⟨d,hd,h⟩:=jM h;obtain⟨O,h,T⟩:=ag6 (w0:=w0) h
  refine⟨O,h,.mem hd λaf ρ a w C=>?_⟩
  obtain⟨w',aA,ρ',v,E,I⟩:=T af ρ a w C _ _ (C.aK l) (C.aK c);exact⟨w',aA,ρ',v,by simp only[execOp,D];exact ju E,I⟩
 ·rename_i f args jJ D;split at h
  next c U=>obtain⟨d,hd,h⟩:=jM h;obtain⟨Y,Z⟩:=dN f _ U;exact Xs D hd Y Z (Xq (w0:=w0) (N:=N) _) h
  next c U=>obtain⟨Y,Z⟩:=dN f _ U;exact ahW D Y Z h
  next c U=>obtain⟨d,hd,h⟩:=jM h;obtain⟨Y,Z⟩:=dN f _ U;exact aiM D hd Y Z h
  ·rename_i F U;obtain⟨d,hd,h⟩:=jM h;obtain⟨Y,Z⟩:=dN f _ U;split at h
   next x hx=>exact aiL D hx hd Y Z h
   ·cases h
  next c U=>obtain⟨Y,Z⟩:=dN f _ U;exact Yh (ex:=[]) D rfl Y Z h
  next c U=>obtain⟨Y,Z⟩:=dN f _ U;exact ah2 D Y Z h
  next c U=>obtain⟨d,hd,h⟩:=jM h;obtain⟨Y,Z⟩:=dN f _ U;exact Xs D hd Y Z (ahz (w0:=w0) (N:=N) _) h
  next c U=>obtain⟨Y,Z⟩:=dN f _ U;exact aiT D Y Z h
  ·cases h
 ·rename_i x y t t' D;cases nc:Nat.beq t t' with
  |false=>rw[nc]at h;cases h
  | true=>
   rw[nc,au]at h;obtain rfl:=cN nc;obtain⟨d,hd,h⟩:=jM h;have hh:∃ O,k O=some r/\∀ af ρ a w,Rl w0 N af ρ σ a w->∀ u v,RA w w0.heap.size af ρ (aK σ x) u->RA w w0.heap.size af ρ (aK σ y) v->
     ∃w' aA ρ' z,(Builtin.append_ #[t,t] o.type #[u,v]).run P w = .ok z w'/\Rl w0 N aA ρ' O (a.put (some d) z) w':=by
    cases hn:qe t with
    |true=>rw[hn,au]at h;exact aiF h
    | false=>
     rw[hn,ax]at h;cases hk:Le t d x with
     |true=>rw[hk,au]at h;exact aja h
     |false=>rw[hk,ax]at h;exact ag7 h
   obtain⟨O,h,T⟩:=hh
   refine⟨O,h,.mem hd λaf ρ a w C=>?_⟩
   obtain⟨w',aA,ρ',v,E,I⟩:=T af ρ a w C _ _ (C.aK x) (C.aK y);exact⟨w',aA,ρ',v,RC D λ_=>ju E,I⟩
 ·rename_i t D;obtain⟨d,hd,h⟩:=jM h;obtain⟨O,h,T⟩:=aiZ (w0:=w0) (t:=t) (P:=P) h
  refine⟨O,h,.mem hd λaf ρ a w C=>?_⟩
  obtain⟨w',aA,ρ',v,E,I⟩:=T af ρ a w C;exact⟨w',aA,ρ',v,by simp only[execOp,D];exact ju E,I⟩
 ·rename_i t x i D;obtain⟨v,h1,_,T⟩:=ai3 (w0:=w0) (N:=N) h
  refine kW.val h1 λaf ρ a w C=>?_
  obtain⟨y,E,I⟩:=T af ρ a w C _ _ (C.aK x) (C.aK i);exact⟨y,by simp only[execOp,D];exact ju E,I⟩
 ·rename_i t x i v D;split at h
  ·rename_i hd;obtain⟨O,h,_,T⟩:=ai4 (w0:=w0) (N:=N) h
   refine⟨O,h,.skip hd λaf ρ a w C=>?_⟩
   obtain⟨w',E,I⟩:=T af ρ a w C _ _ _ (C.aK x) (C.aK i) (C.aK v);exact⟨w',af,by simp only[execOp,D];exact Ll E,I⟩
  ·cases h
 ·rename_i t args jJ D;split at h
  ·rename_i f cap q7;split at h
   next c U=>obtain⟨Y,Z⟩:=dN f _ U;exact Yh D q7 Y Z h
   ·cases h
  ·cases h
 ·rename_i f Yt D;split at h
  ·rename_i ps p9;obtain⟨h1,h2⟩:=Yi (w0:=w0) (N:=N) _ _ p9
   refine kW.val h λaf ρ a w C=>⟨.func (.func f) #[] (Yt.map a.eval),by simp[execOp,D,Instr.makeFunc],_,rfl,by simp[h1],λj p hp=>?_⟩
   obtain⟨b,off,e1,e2⟩:=h2 af ρ a w C j p hp;exact⟨b,off,e1,by simpa using e2⟩
  ·cases h
 ·rename_i x t D;obtain⟨qd,h1,T⟩:=aha (w0:=w0) (N:=N) (ty:=o.type) h;have run:∀ af ρ a w,Rl w0 N af ρ σ a w->∃ w',(execOp a.eval o).run P w = .ok (.value (.tuple #[])) w'/\Rl w0 N af ρ qd a w':=by
   intro af ρ a w C;obtain⟨w',E,I⟩:=T af ρ a w C _ (C.aK x);exact⟨w',Ys D λ_=>ju E,I⟩
  unfold gW at h1;split at h1
  ·rename_i hd
   refine⟨_,h1,λa w K Q C hK=>?_⟩
   obtain⟨af,ρ,C⟩:=C;obtain⟨w',E,I⟩:=run af ρ a w C;unfold Oper.wp;rw[E,Oper.upon_value,hd];exact hK _ _ ⟨af,ρ,I⟩
  ·rename_i d hd;cases hN:Nat.blt d N with
   |false=>rw[hN]at h1;cases h1
   | true=>
    rw[hN,au]at h1
    refine⟨_,h1,.mem hd λaf ρ a w C=>?_⟩
    obtain⟨w',E,I⟩:=run af ρ a w C;exact⟨w',af,ρ,_,E,I.set trivial (by have:=cz hN;omega)⟩
 ·cases h
def RG{k:S -> aj X}(D:fK P Φ)(h:dA P N Φ σ o k=some r):∃ C,k C=some r/\kW P w0 N o σ C:=by
 unfold dA at h;cases hv:fL o.op with
 | true=>
  rw[hv,au]at h;obtain⟨v,E,_,I⟩:=RE h;exact kW.val E λaf ρ a w O=>I af ρ a w o rfl O
 | false=>
  rw[hv]at h;exact ajd D h
def aje{k:S->aj X}(U:fK P Φ)(h:GG P N Φ σ o k=some r):∃ E,k E=some r/\kW P w0 N o σ E:=by
 unfold GG at h;split at h
 ·rename_i t x y I hd;split at h
  ·rename_i q s i j Y;obtain⟨E,D,O⟩:=aiW (w0:=w0) (N:=N) h
   refine⟨E,D,.skip hd λaf ρ a w C=>?_⟩
   have hv:=C.aK y;rw[Y]at hv;obtain⟨w',aA,T,Z⟩:=O af ρ a w C _ _ (C.aK x) hv;exact⟨w',aA,by simp only[execOp,I];exact Ll T,Z⟩
  ·exact RG U h
 ·rename_i t x lo hi mx d I hd;obtain⟨D,O⟩:=aiY (w0:=w0) (N:=N) h;cases hN:Nat.blt d N with
  |false=>rw[hN]at D;cases D
  | true=>
   rw[hN,au]at D
   refine⟨_,D,.mem hd λaf ρ a w C=>?_⟩
   obtain⟨v,T⟩:=O af ρ a w C _ _ _ _ (C.aK x) (C.aK lo) (C.aK hi) (C.aK mx);refine⟨w,af,ρ,v,?_,C.set trivial (by have:=cz hN;omega)⟩;simp only[execOp,I,Option.map_some];exact ju T
 ·exact RG U h
/-! What an operation gives hangs on its operands and on the roots that they name. -/
def A.key:A->aj (aa Nat)
 |.lf (.own q)=>some q
 |.view q _ _ _=>some q
 |.ptr (_::_::_::q)=>some q
 |_=>none
def Sm(σ2 σ:S)(x:A):Prop:=∀q,x.key=some q->∀(X:Type) (k:V->aj X),iY σ2.m q k=iY σ.m q k
def Sm.eq{σ2:S}(C:σ2.m=σ.m)(x:A):Sm σ2 σ x:=λq _ X k=>by rw[C]
def Sm.lf{σ2:S}{l:Lf}(h:Sm σ2 σ (.lf l))(k:V->aj X):oK σ2 l k=oK σ l k:=by
 cases l with
 |own q=>exact h q rfl X k
 |_=>rfl
def Sm.bin{σ2:S}{C:BinOp}{t:TypeId}{x y:A}(h:Sm σ2 σ x)(k:A->aj X):zf P σ2 C t x y k=zf P σ C t x y k:=by
 unfold zf;split
 ·rfl
 ·split
  ·exact h.lf _
  ·rfl
 ·rfl
def Sm.conv{σ2:S}{t C:TypeId}{x:A}(h:Sm σ2 σ x)(k:A->aj X):zc P σ2 t C x k=zc P σ t C x k:=by
 unfold zc;split
 ·rfl
 ·exact h.lf _
 ·rfl
def Sm.idx{σ2:S}{t:TypeId}{x i:A}(h:Sm σ2 σ x)(k:A->aj X):yU P σ2 t x i k=yU P σ t x i k:=by
 unfold yU;split
 ·rfl
 ·split
  ·split
   ·rfl
   ·exact h _ rfl _ _
   ·rfl
  ·rfl
def Sm.len{σ2:S}{t:TypeId}{x:A}(h:Sm σ2 σ x)(k:A->aj X):Bc P σ2 t x k=Bc P σ t x k:=by
 cases x with
 |lf l=>exact h.lf _
 |_=>rfl
def Sm.slc{σ2:S}{t:TypeId}{x:A}{lo hi:aj A}(h:Sm σ2 σ x)(k:A->aj X):zh P σ2 t x lo hi k=zh P σ t x lo hi k:=by
 unfold zh Bj;split
 ·simp only[h _ rfl]
 ·simp only[h _ rfl]
 ·rfl
def Sm.load{σ2:S}{t:TypeId}{x:A}(h:Sm σ2 σ x)(hb:∀ r j,x = .aL r j->σ2.m r=σ.m r)(k:A->aj X):nQ P σ2 t x k=nQ P σ t x k:=by
 unfold nQ;split
 ·rfl
 ·split
  ·rw[hb _ _ rfl]
  ·rfl
  ·exact h _ rfl _ _
  ·rfl
def Yu{σ2:S}(C:Op)(h:∀ x∈C.operands,aK σ2 x=aK σ x/\Sm σ2 σ (aK σ x))(hl:∀ t x,C = .load t x->∀ k:A->aj X,nQ P σ2 t (aK σ x) k=nQ P σ t (aK σ x) k)(k:A->aj X):mw P σ2 C k=mw P σ C k:=by
 unfold mw;split
 case h_4 t parts=>
  have e:(parts.toList.map λp=>(p.1,aK σ2 p.2))=parts.toList.map λp=>(p.1,aK σ p.2):=List.map_congr_left λp hp=>by rw[(h p.2 (by simp only[Op.operands];exact List.mem_toArray.2 (List.mem_map_of_mem (f:=(·.2)) hp))).1]
  simp only[Dk,e]
 case h_18 t x lo hi=>
  have e:∀ z:aj Operand,(∀ y,z=some y->aK σ2 y=aK σ y)->z.map (aK σ2)=z.map (aK σ):=by
   intro z I;cases z with
   |none=>rfl
   |some z=>exact bz some (I z rfl)
  have E:=h x (by simp[Op.operands]);rw[E.1,e lo (λy D=>(h y (by subst D;simp[Op.operands])).1),e hi (λy D=>(h y (by subst D;simp[Op.operands])).1)];exact E.2.slc k
 all_goals simp[Op.operands,Call.operands]at h
 case h_5=>rw[h.1];exact hl _ _ rfl k
 case h_6=>rw[h.1.1,h.2.1];exact h.1.2.bin k
 case h_8=>rw[h.1];exact h.2.conv k
 case h_11=>rw[h.1.1,h.2.1];exact h.1.2.idx k
 case h_15=>rw[h.1];exact h.2.len k
 all_goals first|rfl|simp only[h]
def Yv{σ2:S}(C:Op)(D:σ2.m=σ.m)(h:∀ x∈C.operands,aK σ2 x=aK σ x)(k:A->aj X):mw P σ2 C k=mw P σ C k:=
 Yu C (λx E=>⟨h x E,.eq D _⟩) (λt x _ k=>(Sm.eq D _).load (λr _ _=>by rw[D]) k) k
def Yw{σ2:S}(C:σ2.m=σ.m)(q:aa Nat)(s i j:Nat)(k:V->aj X):vj σ2 q s i j k=vj σ q s i j k:=by
 simp only[vj,C]
def RH{σ2:S}(C:σ2.m=σ.m)(x:Lf)(k:V->aj X):oK σ2 x k=oK σ x k:=(Sm.eq C _).lf k
def ajf{σ2:S}(C:σ2.m=σ.m)(x:A)(k:V->aj X):sy σ2 x k=sy σ x k:=by
 cases x<;>simp only[sy,RH C,Yw C]
def RI{σ2:S}(C:σ2.m=σ.m):∀ (xs:aa Lf) (k:aa V->aj X),q8 σ2 xs k=q8 σ xs k
 |[],k=>rfl
 | x :: xs,k=>by
  simp only[q8,RH C,RI C xs]
def Yx{σ2:S}(C:σ2.m=σ.m)(x:A)(k:Pt->aj X):nU σ2 x k=nU σ x k:=by
 unfold nU;simp only[RI C,Yw C]
def RJ{σ2:S}{f:A->(Pt->aj X)->aj X}:∀ (xs:aa Operand) (k:aa Pt->aj X),(∀ x∈xs,aK σ2 x=aK σ x)->vp f σ2 xs k=vp f σ xs k
 |[],k,_=>rfl
 | x :: xs,k,h=>by
  simp only[vp,h x (.head _),RJ xs _ λy C=>h y (.tail _ C)]
def ajg{σ2:S}(C:σ2.m=σ.m)(xs:aa Operand)(k:aa Pt->aj X)(h:∀ x∈xs,aK σ2 x=aK σ x):sG σ2 xs k=sG σ xs k:=by
 unfold sG;rw[show nU σ2=nU σ from funext λx=>funext λk=>Yx C x k,RJ xs k h]
def ajh{σ2:S}(C:σ2.m=σ.m)(x:A)(k:Pt->aj X):vo σ2 x k=vo σ x k:=by
 unfold vo;simp only[Yx C,RI C,C]
def aji{σ2:S}(C:σ2.m=σ.m)(xs:aa Operand)(k:aa Pt->aj X)(h:∀ x∈xs,aK σ2 x=aK σ x):Bk σ2 xs k=Bk σ xs k:=by
 unfold Bk;rw[show vo σ2=vo σ from funext λx=>funext λk=>ajh C x k,RJ xs k h]
/-! .. and a root that it does not name is of no account. -/
def GN(n:Nat)(x:aS)(m:Nat->aj aS):Nat->aj aS:=bG (λr=>bif Nat.beq r n then none else (m r).map (aS.drop n)) n (some x)
def Yy{n:Nat}{x:aS}{m:Nat->aj aS}{q:Nat}(h:q≠n):GN n x m q=(m q).map (aS.drop n):=by
 unfold GN;rw[cr _ _ _ h,oH h];rfl
def Lo{m m':Nat->aj aS}{p:Nat->Bool}(D:∀ r,p r=false->∀ y,m' r=some (.sl y) ↔ m r=some (.sl y)):∀ (q:aa Nat) (k:V->aj X),n5 p q=true->iY m' q k=iY m q k
 |[],_,_=>rfl
 | [r],k,h=>by
  have E:=D r (by simpa [n5,iN]using h);simp only[iY];split
  next y C=>rw[(E y).1 C]
  ·rename_i hn;split
   next y C=>exact absurd ((E y).2 C) (hn y)
   ·rfl
 |[_,_],_,_=>rfl
 |[j,i,s],k,h=>rfl
 | j :: i :: s :: I :: q,k,h=>by
  simp only[iY];exact Lo D (I::q) _ (by simpa [n5,Kb]using h)
def ajj{n:Nat}{q:aa Nat}(h:cG n q=false):n5 (λr=>Nat.beq r n) q=true:=by
 unfold n5 iN;unfold cG at h;split
 next r C=>rw[C]at h;show (!Nat.beq r n)=true;rw[oH (show r≠n by simpa using h)];rfl
 ·rfl
def aS.GO(n:Nat)(cs:aa Lf):(aS.aB cs).drop n = .aB (cs.map (Lf.drop n)):=rfl
def ajk{n:Nat}(z:aj aS)(y:V):z.map (aS.drop n)=some (.sl y) ↔ z=some (.sl y):=by
 cases z with
 |none=>simp
 |some z=>cases z<;>simp[aS.drop,aS.cq]
def Yz{n:Nat}{x:aS}{m:Nat->aj aS}{r:Nat}(h:r≠n)(y:V):GN n x m r=some (.sl y) ↔ m r=some (.sl y):=by
 rw[Yy h];exact ajk _ y
def GP{p:Nat->Bool}{r n:Nat}(h:p r=false)(hn:p n=true):r≠n:=by
 rintro rfl;rw[hn]at h;cases h
def ajl{n:Nat}{x:aS}{m:Nat->aj aS}(q:aa Nat)(k:V->aj X)(h:cG n q=false):iY (GN n x m) q k=iY m q k:=
 Lo (p:=λr=>Nat.beq r n) (λr C y=>Yz (GP (p:=λr=>Nat.beq r n) C (Nat.beq_refl n)) y) q k (ajj h)
def ajm{p:Nat->Bool}{r j n:Nat}(h:(A.aL r j).nr p=true)(hn:p n=true):r≠n:=
 GP (by simpa [A.nr,A.fr,uk]using h) hn
def YA{p pb:Nat->Bool}{x:A}{q:aa Nat}(h:x.n7 p pb=true)(e:x.key=some q):n5 p q=true:=by
 unfold A.key at e;split at e
 ·injection e with e;subst e;exact h
 ·injection e with e;subst e;exact h
 ·rename_i j i s C;injection e with e;subst e;have h:n5 p (j :: i :: s :: C)=true:=h;cases C with
  |nil=>rfl
  |cons D q=>simpa [n5,Kb]using h
 ·cases e
def ajn{p pb:Nat->Bool}{t:TypeId}{cs:aa Lf}{y:A}(h:w8 P t cs some=some y)(C:y.n7 p pb=true):∀ c∈cs,c.nr p=true:=by
 unfold w8 at h;split at h
 ·split at h
  ·split at h
   ·injection h with h;subst h;exact bT.1 C
   ·split at h
    ·injection h with h;subst h;intro c D;rw[gf.1 D];exact C
    ·cases h
   ·cases h
  ·cases h
 ·cases h
def A.xP:A->Bool
 |.aL .. |.ptr _|.lf (.own _)=>true
 |_=>false
def A.YB(x:A)(K:m8):x.cq K=x\/(x.cq K).xP=false:=by
 cases x with
 | lf l=>cases l with
  |own k=>cases h:K.l k<;>simp[A.cq,Lf.cq,h,A.xP]
  |_=>exact .inl rfl
 |ptr k=>cases h:K.p k<;>simp[A.cq,h,A.xP]
 |aL r j=>cases h:K.r r<;>simp[A.cq,h,A.xP]
 |pk r j=>cases h:K.r r<;>simp[A.cq,h,A.xP]
 |view k s i j=>cases h:K.p k<;>simp[A.cq,h,A.xP]
 |fn f cap=>cases h:(cap.any λp=>K.r p.1)<;>simp[A.cq,h,A.xP]
 |_=>exact .inr rfl
structure gP (p pb:Nat->Bool) (σ c8:S):Prop where
 t:∀{g},(σ.t g).n7 p pb=true->c8.t g=σ.t g
 sl:∀r,p r=false->∀y,c8.m r=some (.sl y) ↔ σ.m r=some (.sl y)
 aB:∀r,p r=false->∀cs,σ.m r=some (.aB cs)->∃f:Lf->Lf,c8.m r=some (.aB (cs.map f))/\∀l,l.nr p=true->f l=l
 nw:∀g,c8.t g=σ.t g\/(c8.t g).xP=false
def gP.refl{p pb:Nat->Bool}(σ:S):gP p pb σ σ:=
 ⟨λ_=>rfl,λ_ _ _=>.rfl,λ_ _ cs h=>⟨id,by rw[List.map_id];exact h,λ_ _=>rfl⟩,λ_=>.inl rfl⟩
def gP.trans{p pb:Nat->Bool}{σ E I:S}(h:gP p pb σ E)(D:gP p pb E I):gP p pb σ I:=by
 refine⟨λ{g} hg=>?_,λr C y=>(D.sl r C y).trans (h.sl r C y),λr C cs O=>?_,λg=>?_⟩
 ·have e:=h.t hg;rw[D.t (by rw[e];exact hg),e]
 ·obtain⟨f,T,U⟩:=h.aB r C cs O;obtain⟨f',Y,Z⟩:=D.aB r C _ T;exact⟨f' ∘ f,by rw[<-List.map_map];exact Y,λl hl=>by show f' (f l)=l;rw[U l hl,Z l hl]⟩
 ·rcases D.nw g with e | e
  ·rw[e];exact h.nw g
  ·exact .inr e
def gP.root{p pb:Nat->Bool}{σ C:S}(n:Nat)(x:aS)(hn:p n=true)(hb:pb n=true)(h:gP p pb σ C):gP p pb σ ((C.drop n).root n x):=by
 refine h.trans ⟨λhg=>A.Bv hg hn hb,λr D y=>Yz (GP D hn) y,λr D cs E=>⟨Lf.drop n,?_,λl hl=>Lf.zw hl hn⟩,λg=>A.YB _ _⟩
 show GN n x C.m r=_;rw[Yy (GP D hn),E];rfl
def gP.rt{p pb:Nat->Bool}{σ D:S}(n:Nat)(x:aS)(hn:p n=true)(h:gP p pb σ D):gP p pb σ (D.root n x):=by
 have e:∀r,p r=false->(D.root n x).m r=D.m r:=λr C=>cr _ _ _ (GP C hn)
 exact h.trans ⟨λ_=>rfl,λr C y=>by rw[e r C],λr C cs E=>⟨id,by rw[e r C,List.map_id];exact E,λ_ _=>rfl⟩,λ_=>.inl rfl⟩
/-! Roots that a call writes. -/
def YC(ns:aa Nat)(nr:aa (Nat×aS))(m:Nat->aj aS):Nat->aj aS:=λr=>match nr.lookup r with
 |some x=>some x
 |none=>bif cW r ns ||cW r []then none else (m r).map (aS.de ns [])
structure RK (p:Nat->Bool) (ns:List Nat) (nr:List (Nat×aS)):Prop where
 ns:∀n,cW n ns=true->p n=true
 nr:∀n x,nr.lookup n=some x->p n=true
def ajo{p:Nat->Bool}{ns:aa Nat}{nr:aa (Nat×aS)}{m:Nat->aj aS}(hb:RK p ns nr){q:Nat}(h:p q=false):YC ns nr m q=(m q).map (aS.de ns []):=by
 unfold YC;cases C:nr.lookup q with
 |some x=>rw[hb.nr q x C]at h;cases h
 | none=>
  cases D:cW q ns with
  |true=>rw[hb.ns q D]at h;cases h
  |false=>rfl
def RL(k:aa Nat):fQ k []=false:=by
 unfold fQ;split<;>rfl
def RM{p:Nat->Bool}{ns:aa Nat}(hb:∀ n,cW n ns=true->p n=true)(k:aa Nat)(h:fQ k ns=true):iN p k=true:=by
 unfold fQ at h;unfold iN;split at h
 next r C=>rw[C];exact hb _ h
 ·cases h
def Lf.ajp{p:Nat->Bool}{x:Lf}{ns:aa Nat}(h:x.nr p=true)(hb:∀ n,cW n ns=true->p n=true):x.de ns []=x:=
 Lf.oF (Lf.sn (λk C=>RM hb k (by simp[vw,RL]at C;exact C.1)) h)
def A.RN{p pb:Nat->Bool}{x:A}{ns:aa Nat}(h:x.n7 p pb=true)(hb:∀ n,cW n ns=true->p n=true):x.de ns []=x:=
 A.oF (A.sn (K:=vw ns []) (J:=uk p pb) (λk C=>RM hb k (by simp[vw,RL]at C;exact C.1)) (λk C=>RM hb k (by simpa [vw,RL]using C)) (λr D=>by cases D) h)
def gP.de{p pb:Nat->Bool}{σ C:S}(ns:aa Nat)(nr:aa (Nat×aS))(hb:RK p ns nr)(h:gP p pb σ C):gP p pb σ (C.de ns [] nr):=by
 have e:∀r,p r=false->(C.de ns [] nr).m r=(C.m r).map (aS.de ns []):=λr D=>ajo hb D
 refine h.trans ⟨λhg=>A.RN hg hb.ns,λr D y=>?_,λr D cs E=>⟨Lf.de ns [],?_,λl hl=>Lf.ajp hl hb.ns⟩,λg=>A.YB _ _⟩
 ·rw[e r D];cases C.m r with
  |none=>simp
  |some z=>cases z<;>simp[aS.de,aS.cq]
 ·rw[e r D,E];rfl
end
end Go.Proofs.YtpigmalhjkekiaaGreat
